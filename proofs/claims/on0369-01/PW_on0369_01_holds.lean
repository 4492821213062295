import PyProof.Rows.All
import Wide.All
import OpenK.AllK
import Wide.FinOn
import PySem.Challenge.RW_on0369_01
open PySem PySem.W PyProof.Rows
set_option Elab.async false
set_option compiler.extract_closed false
namespace Mine
/-! ## the head, closed by one kernel check of the top's run, on the library's quick twins (PySem.W.Fast.te.. : of topRun, treeTable, openSeen, importEnds, OpenLaw.wellSaid) -/
def keep9 : List Nat := [0, 2, 3, 4, 5, 6, 7, 9, 10, 12, 13, 15, 16, 18, 19, 20, 21, 22, 23, 24, 25]
def view9 : Program := { PySem.Challenge.pw_on0369_01 with main := { PySem.Challenge.pw_on0369_01.main with body := keep9.filterMap fun i => PySem.Challenge.pw_on0369_01.main.body[i]? } }
theorem said9 : OpenLaw.wellSaid PySem.Challenge.rw_on0369_01 = true := by
  rw [PySem.W.Fast.te9446332074065402090]
  kernel_rfl
set_option hygiene false in
local macro_rules | `(tactic| o_head $H) => `(tactic| (
  refine holds_open (q := view9) (loose := []) (Xt := fun s => xlAt view9 [] s && recOk (RowW.records PySem.Challenge.rw_on0369_01.row.toRowW) s) (XP := XL view9 []) (Yf := Hook.obs $H) (Ya := Hook.val $H) (YP := Hook.says $H) (N := 3196) ?hl (Hook.of $H) (Hook.keeps $H) (fun s e => xl_of s (Bool.and_eq_true_iff.mp e).1) XL.keeps (by rfl) (by rfl) (by rfl) (fun s e => recFacts_of (Bool.and_eq_true_iff.mp e).2) (by rfl) (by first | assumption | decide +kernel) (by decide +kernel) ⟨rfl, rfl, rfl, rfl, rfl, by decide +kernel⟩ ?hw ?hc
  case hl => (intro w; unfold openEnds topFrom fencedOpening; simp only [PySem.W.Fast.te14082659384304107361, PySem.W.Fast.te14364793385576792824, PySem.W.Fast.te4187177175401517315, PySem.W.Fast.te10274390034422433532]; kernel_rfl)))
local macro_rules | `(tactic| o_law) => `(tactic| refine holds_law said9 fun said => ?_)
set_option maxRecDepth 100000 in
set_option maxHeartbeats 8000000 in
open_top hd for PySem.Challenge.rw_on0369_01
local macro_rules | `(tactic| walk_at $s:str) => `(tactic| k_extra $s)
local macro_rules | `(tactic| k_all) => `(tactic| first | k_extra "k_all" | fail)
local macro_rules | `(tactic| k_ne) => `(tactic| first | k_extra "k_ne" | fail)
local macro_rules | `(tactic| k_upd) => `(tactic| first | k_extra "k_upd" | fail)
local macro_rules | `(tactic| k_updF) => `(tactic| first | k_extra "k_updF" | fail)
local macro_rules | `(tactic| kcf_all) => `(tactic| first | k_extra "kcf_all" | fail)
local macro_rules | `(tactic| size_fits) => `(tactic| first | k_extra "size_fits" | fail)
local macro_rules | `(tactic| k_inst) => `(tactic| first | k_extra "k_inst" | fail)
local macro_rules | `(tactic| k_qdec) => `(tactic| first | k_extra "k_qdec" | fail)
local macro_rules | `(tactic| ktr_units) => `(tactic| first | k_extra "ktr_units" | fail)
local macro_rules | `(tactic| ktr_room) => `(tactic| first | k_extra "ktr_room" | fail)
local macro_rules | `(tactic| k_lt $h:ident) => `(tactic| (replace $h := allLt_of $h; dsimp only [AllLt] at $h:ident))
section Prepart
theorem prime1 : (hd.heap_1 = hd.heap_1) ∧ PySem.Challenge.rw_on0369_01 = PySem.Challenge.rw_on0369_01 := by
  k_fill
  exact ⟨rfl, rfl⟩

/-! ## the frame's facts grow with the heap -/
theorem fr_grow {h₀ h h' : Heap} {L : Addr} {m : Str → Option Value} (F : Fr h₀ L h m) (k : h.StaysIn h') : Fr h₀ L h' m := by
  obtain ⟨o, es, ep, hL, r⟩ := F.ns
  exact ⟨⟨o, es, ep, k _ _ hL, r⟩, fun b ob e => k _ _ (F.keep b ob e), F.above⟩
theorem news_grow {h₀ h h' : Heap} {L : Addr} {news : List (Addr × Obj)} (N : News h₀ L h news) (k : h.StaysIn h') : News h₀ L h' news :=
  fun p hp => ⟨k _ _ (N p hp).1, (N p hp).2⟩
/-- what a callee over the whole heap has made, laid onto the caller's ledger -/
theorem news_join {h₀ h h' : Heap} {L L' : Addr} {m m' : Str → Option Value} {news own : List (Addr × Obj)} (F : Fr h₀ L h m) (N : News h₀ L h news) (F' : Fr h L' h' m') (N' : News h L' h' own) : News h₀ L h' (own ++ news) := by
  intro p hp
  rcases List.mem_append.mp hp with q | q
  · have z := N' p q
    refine ⟨z.1, fun e => ?_, ?_⟩
    · obtain ⟨o, es, ep, hL, r⟩ := F.ns
      rw [← e, z.2.2] at hL; cases hL
    · cases e : h₀.get? p.1 with
      | none => rfl
      | some o => have := F.keep _ _ e; rw [z.2.2] at this; cases this
  · exact ⟨F'.keep _ _ (N p q).1, (N p q).2⟩
theorem news_apart {h L' h' own} {h₀ : Heap} {L : Addr} {news : List (Addr × Obj)} (N : News h₀ L h news) (N' : News h L' h' own) : ∀ p ∈ own, ∀ q ∈ news, q.1 ≠ p.1 := by
  intro p hp q hq e
  have := (N' p hp).2.2
  rw [← e, (N q hq).1] at this; cases this

/-! ## entering a def whose every argument lies in the heap as it stands -/
theorem code_def0 {prog : Program} {w : World} {A A₀ : Around} {s : Shared} {K : Frag} {L : Addr} {h₀ base : Heap} {m mg mb : Str → Option Value} {p : Program} {loose : List Str} {mean : ExcName → Option Value}
    {env : Env} {outer : List Env} {R : Result → Shared → Prop} {name qual : Str} {params : Arguments} {body : List Stmt} {scope : Scope} {dV kV doc pm cdv ct oc : Value} {an od : Option Addr} {osl : Array (Option Value)} {f : Addr} {args : Args} {binds : List (Str × Value)}
    (B : Below A₀ base outer h₀) (F : Fr h₀ L s.heap m) (X₀ : K.In h₀) (T : Top p loose mean mg mb h₀) (hA : A.frames = some (env :: outer)) (hf : env.frame = some L) (hke : env.scope.kind = .function)
    (ho : K.lookup f = some ⟨oc, od, .func (fnOf name qual params body scope dV kV doc pm an cdv ct), osl⟩) (hcd : codeIn K cdv qual = true) (hroom : A.depth < recursionLimit)
    (hbind : BindsTo s (fnOf name qual params body scope dV kV doc pm an cdv ct) args binds) (hloc : ∀ y ∈ binds, scope.names.lookup y.1 = some .local)
    (h : ∀ L' h₁, Fr s.heap L' h₁ (fun y => binds.reverse.lookup y) → News s.heap L' h₁ [] → Below A base (env :: outer) s.heap → K.In s.heap → Top p loose mean mg mb s.heap →
      wpAny (model prog w) (A.deeper (envOf qual scope L' f cdv)) (execs body (envOf qual scope L' f cdv))
        (fun fl s' => LeaveK h₀ L m s.heap R (match fl with | .ret v => v | _ => .none) s')
        (fun e s' => wpAny (model prog w) (A.deeper (envOf qual scope L' f cdv)) (leaving (envOf qual scope L' f cdv) e) (fun _ s'' => R (.error e) s'') (fun e' s'' => R (.error e') s'') s')
        { s with heap := h₁, toks := s.toks + binds.length })
    (hco : scope.isCoroutine = false) (hgen : scope.isGenerator = false) (hk : scope.kind = .function)
    (hcell : ∀ x ∈ scope.names, x.2 ≠ .cell) : codeAny (model prog w) A (.call (.ref f) args) R s := by
  obtain ⟨FG, BG, st, lv⟩ := groundX (R := R) B F (News.nil (h₀ := h₀) (L := L) (h := s.heap)) hA hf hke
  refine codeAny_call_def (fd := fnOf name qual params body scope dV kV doc pm an cdv ct) (body := body) (binds := binds) hroom ((X₀.keeps F.keep) _ _ ho) rfl (T.nolimit.keeps F.keep) (codeRec_of (X₀.keeps F.keep) hcd) rfl hbind hcell hloc (fun h₁ hns hk₁ => ?_) hco hgen hk
  exact wpAny_mono (h s.heap.objs.size h₁ ⟨hns, hk₁, Nat.le_refl _⟩ News.nil BG (X₀.keeps F.keep) (T.keeps F.keep)) (fun fl s' hl => lv _ _ hl) fun _ _ y => y

/-- an object of an own class that lies in the heap -/
structure IsInst (h : Heap) (x C dx : Addr) (es : List DictEntry) (n : Nat) : Prop where
  i : h.get? x = some (instObj C dx)
  d : h.get? dx = some (dictOf es n)
theorem IsInst.at {g h : Heap} {x C dx L : Addr} {es : List DictEntry} {n : Nat} {m : Str → Option Value} (I : IsInst g x C dx es n) (F : Fr g L h m) : InstAt h x (instObj C dx) C (some (dictOf es n)) :=
  ⟨F.keep _ _ I.i, rfl, rfl, F.keep _ _ I.d⟩
theorem IsInst.news {h₀ h : Heap} {x C dx L : Addr} {es : List DictEntry} {n : Nat} {news : List (Addr × Obj)} (N : News h₀ L h news) (h1 : (x, instObj C dx) ∈ news) (h2 : (dx, dictOf es n) ∈ news) : IsInst h x C dx es n := ⟨N.get h1, N.get h2⟩
theorem IsInst.keeps {g h : Heap} {x C dx : Addr} {es : List DictEntry} {n : Nat} (I : IsInst g x C dx es n) (k : g.StaysIn h) : IsInst h x C dx es n := ⟨k _ _ I.i, k _ _ I.d⟩

/-! ## the tuples of the top -/
def isPara (x : Str) : Bool := [Str.ofString "Sep", Str.ofString "CR", Str.ofString "LF"].any (· == x)
def isHang (x : Str) : Bool := [Str.ofString "Extend", Str.ofString "Format"].any (· == x)
def isTerm (x : Str) : Bool := [Str.ofString "ATerm", Str.ofString "STerm"].any (· == x)
def isCased (x : Str) : Bool := [Str.ofString "Upper", Str.ofString "Lower"].any (· == x)
def isStop (x : Str) : Bool := [Str.ofString "OLetter", Str.ofString "Upper", Str.ofString "Lower", Str.ofString "Sep", Str.ofString "CR", Str.ofString "LF", Str.ofString "ATerm", Str.ofString "STerm"].any (· == x)
theorem in_top {prog : Program} {w : World} {A : Around} {E : Value → Shared → Prop} {s : Shared} {K : Frag} {h₀ : Heap} {L a : Addr} {m : Str → Option Value} {l : List Value} {dd : Option Addr} {sl : Array (Option Value)} {n : Nat} {ys : List Str} {x : Str} {u : Tok} {Q : Value → Shared → Prop}
    (p : Str → Bool) (F : Fr h₀ L s.heap m) (X : K.In h₀) (hl : K.lookup a = some ⟨.type "tuple", dd, .seq l.toArray n, sl⟩) (hi : StrsAre l ys) (hp : ys.any (· == x) = p x) (h : Q (.bool (p x)) s) :
    wpAny (model prog w) A (compareOp .In (.str x u) (.ref a)) Q E s :=
  in_tuple_strs (tupK (X.keeps F.keep) hl) (by simpa using hi) (by rw [hp]; exact h)
theorem notin_top {prog : Program} {w : World} {A : Around} {E : Value → Shared → Prop} {s : Shared} {K : Frag} {h₀ : Heap} {L a : Addr} {m : Str → Option Value} {l : List Value} {dd : Option Addr} {sl : Array (Option Value)} {n : Nat} {ys : List Str} {x : Str} {u : Tok} {Q : Value → Shared → Prop}
    (p : Str → Bool) (F : Fr h₀ L s.heap m) (X : K.In h₀) (hl : K.lookup a = some ⟨.type "tuple", dd, .seq l.toArray n, sl⟩) (hi : StrsAre l ys) (hp : ys.any (· == x) = p x) (h : Q (.bool (!p x)) s) :
    wpAny (model prog w) A (compareOp .NotIn (.str x u) (.ref a)) Q E s :=
  notin_tuple_strs (tupK (X.keeps F.keep) hl) (by simpa using hi) (by rw [hp]; exact h)
section
variable {w : World} {A : Around} {E : Value → Shared → Prop} {s : Shared} {h₀ : Heap} {L : Addr} {m : Str → Option Value} {x : Str} {u : Tok} {Q : Value → Shared → Prop}
theorem in_22 (F : Fr h₀ L s.heap m) (X : (hd.heap_1 w.params).In h₀) (h : Q (.bool (isPara x)) s) : wpAny (model PySem.Challenge.rw_on0369_01.row.prog w) A (compareOp .In (.str x u) (.ref 22)) Q E s := by
  refine in_top (K := (hd.heap_1 w.params)) isPara F X (by k_is) (by repeat constructor) ?_ h
  rfl
theorem in_23 (F : Fr h₀ L s.heap m) (X : (hd.heap_1 w.params).In h₀) (h : Q (.bool (isHang x)) s) : wpAny (model PySem.Challenge.rw_on0369_01.row.prog w) A (compareOp .In (.str x u) (.ref 23)) Q E s := by
  refine in_top (K := (hd.heap_1 w.params)) isHang F X (by k_is) (by repeat constructor) ?_ h
  rfl
theorem in_24 (F : Fr h₀ L s.heap m) (X : (hd.heap_1 w.params).In h₀) (h : Q (.bool (isTerm x)) s) : wpAny (model PySem.Challenge.rw_on0369_01.row.prog w) A (compareOp .In (.str x u) (.ref 24)) Q E s := by
  refine in_top (K := (hd.heap_1 w.params)) isTerm F X (by k_is) (by repeat constructor) ?_ h
  rfl
theorem in_25 (F : Fr h₀ L s.heap m) (X : (hd.heap_1 w.params).In h₀) (h : Q (.bool (isCased x)) s) : wpAny (model PySem.Challenge.rw_on0369_01.row.prog w) A (compareOp .In (.str x u) (.ref 25)) Q E s := by
  refine in_top (K := (hd.heap_1 w.params)) isCased F X (by k_is) (by repeat constructor) ?_ h
  rfl
theorem in_26 (F : Fr h₀ L s.heap m) (X : (hd.heap_1 w.params).In h₀) (h : Q (.bool (isStop x)) s) : wpAny (model PySem.Challenge.rw_on0369_01.row.prog w) A (compareOp .In (.str x u) (.ref 26)) Q E s := by
  refine in_top (K := (hd.heap_1 w.params)) isStop F X (by k_is) (by repeat constructor) ?_ h
  rfl
theorem notin_22 (F : Fr h₀ L s.heap m) (X : (hd.heap_1 w.params).In h₀) (h : Q (.bool (!isPara x)) s) : wpAny (model PySem.Challenge.rw_on0369_01.row.prog w) A (compareOp .NotIn (.str x u) (.ref 22)) Q E s := by
  refine notin_top (K := (hd.heap_1 w.params)) isPara F X (by k_is) (by repeat constructor) ?_ h
  rfl
end

/-! ## what a call leaves as it was -/
/-- all of h but the named addresses stands in h' -/
def KeepBut (l : List Addr) (h h' : Heap) : Prop := ∀ b o, h.get? b = some o → b ∉ l → h'.get? b = some o
theorem keepBut_of {g h h' : Heap} {L : Addr} {m : Str → Option Value} {l : List Addr} (F : Fr g L h' m) (G : GSub h g l) : KeepBut l h h' := fun b o e hb => F.keep b o (G b o e hb)
theorem stays_keepBut {h h' : Heap} (k : h.StaysIn h') : KeepBut [] h h' := fun b o e _ => k b o e
theorem ret_s {Q : Value → Shared → Prop} {x y : Str} {t : Tok} {σ : Shared} (e : x = y) (h : Q (.str y t) σ) : Q (.str x t) σ := e ▸ h

/-! ## the stream's state -/
structure St where
  pos : Int
  last : Str
  bas : Str
  prior : Str
  term : Str
  spaced : Bool
  held : Int
def SIs (w : World) (d : Addr) (c : St) (es : List DictEntry) : Prop := ∃ (t0 t1 t2 t3 t4 t5 t6 t7 t8 t9 t10 t11 t12 t13 : Tok), es =
  [⟨PyData.keyHash w.params (Str.ofString "data"), .str (Str.ofString "data") t0, .ref d⟩,
   ⟨PyData.keyHash w.params (Str.ofString "at"), .str (Str.ofString "at") t1, .int c.pos t2⟩,
   ⟨PyData.keyHash w.params (Str.ofString "last"), .str (Str.ofString "last") t3, .str c.last t4⟩,
   ⟨PyData.keyHash w.params (Str.ofString "base"), .str (Str.ofString "base") t5, .str c.bas t6⟩,
   ⟨PyData.keyHash w.params (Str.ofString "prior"), .str (Str.ofString "prior") t7, .str c.prior t8⟩,
   ⟨PyData.keyHash w.params (Str.ofString "term"), .str (Str.ofString "term") t9, .str c.term t10⟩,
   ⟨PyData.keyHash w.params (Str.ofString "is_spaced"), .str (Str.ofString "is_spaced") t11, .bool c.spaced⟩,
   ⟨PyData.keyHash w.params (Str.ofString "held"), .str (Str.ofString "held") t12, .int c.held t13⟩]
def verdictS (c : St) (kind : Str) : Str :=
  if c.pos = 0 then Str.ofString "break"
  else if isPara c.last then (if c.last == Str.ofString "CR" && kind == Str.ofString "LF" then Str.ofString "none" else Str.ofString "break")
  else if isHang kind then Str.ofString "none"
  else if c.bas == Str.ofString "ATerm" && (kind == Str.ofString "Numeric" || (kind == Str.ofString "Upper" && isCased c.prior)) then Str.ofString "none"
  else if c.term == Str.ofString "" || kind == Str.ofString "SContinue" || isTerm kind || kind == Str.ofString "Sp" || isPara kind then Str.ofString "none"
  else if kind == Str.ofString "Close" && !c.spaced then Str.ofString "none"
  else if c.term == Str.ofString "STerm" || kind == Str.ofString "OLetter" || kind == Str.ofString "Upper" then Str.ofString "break"
  else if kind == Str.ofString "Lower" then Str.ofString "none" else Str.ofString "wait"
def takeS (c : St) (kind : Str) : St :=
  if isHang kind && decide (c.pos > 0) && !isPara c.last then { c with last := kind, pos := c.pos + 1 }
  else
    { c with
      term := if isTerm kind then kind else if kind == Str.ofString "Sp" && !(c.term == Str.ofString "") then c.term else if !(kind == Str.ofString "Close") || c.spaced then Str.ofString "" else c.term
      spaced := if isTerm kind then false else if kind == Str.ofString "Sp" && !(c.term == Str.ofString "") then true else if !(kind == Str.ofString "Close") || c.spaced then false else c.spaced
      prior := c.bas, bas := kind, last := kind, pos := c.pos + 1 }
theorem sIs_of {w : World} {d : Addr} {c' : St} {pos held : Int} {last bas prior term : Str} {spaced : Bool} {t0 t1 t2 t3 t4 t5 t6 t7 t8 t9 t10 t11 t12 t13 : Tok} (e : c' = ⟨pos, last, bas, prior, term, spaced, held⟩) : SIs w d c'
  [⟨PyData.keyHash w.params (Str.ofString "data"), .str (Str.ofString "data") t0, .ref d⟩,
   ⟨PyData.keyHash w.params (Str.ofString "at"), .str (Str.ofString "at") t1, .int pos t2⟩,
   ⟨PyData.keyHash w.params (Str.ofString "last"), .str (Str.ofString "last") t3, .str last t4⟩,
   ⟨PyData.keyHash w.params (Str.ofString "base"), .str (Str.ofString "base") t5, .str bas t6⟩,
   ⟨PyData.keyHash w.params (Str.ofString "prior"), .str (Str.ofString "prior") t7, .str prior t8⟩,
   ⟨PyData.keyHash w.params (Str.ofString "term"), .str (Str.ofString "term") t9, .str term t10⟩,
   ⟨PyData.keyHash w.params (Str.ofString "is_spaced"), .str (Str.ofString "is_spaced") t11, .bool spaced⟩,
   ⟨PyData.keyHash w.params (Str.ofString "held"), .str (Str.ofString "held") t12, .int held t13⟩] := by
  subst e
  exact ⟨t0, t1, t2, t3, t4, t5, t6, t7, t8, t9, t10, t11, t12, t13, rfl⟩
/-- the row of a stream's attributes, taken apart -/
theorem SIs.out {w : World} {d : Addr} {c : St} {es : List DictEntry} {P : Prop} (S : SIs w d c es) (k : ∀ (t0 t1 t2 t3 t4 t5 t6 t7 t8 t9 t10 t11 t12 t13 : Tok), es =
  [⟨PyData.keyHash w.params (Str.ofString "data"), .str (Str.ofString "data") t0, .ref d⟩,
   ⟨PyData.keyHash w.params (Str.ofString "at"), .str (Str.ofString "at") t1, .int c.pos t2⟩,
   ⟨PyData.keyHash w.params (Str.ofString "last"), .str (Str.ofString "last") t3, .str c.last t4⟩,
   ⟨PyData.keyHash w.params (Str.ofString "base"), .str (Str.ofString "base") t5, .str c.bas t6⟩,
   ⟨PyData.keyHash w.params (Str.ofString "prior"), .str (Str.ofString "prior") t7, .str c.prior t8⟩,
   ⟨PyData.keyHash w.params (Str.ofString "term"), .str (Str.ofString "term") t9, .str c.term t10⟩,
   ⟨PyData.keyHash w.params (Str.ofString "is_spaced"), .str (Str.ofString "is_spaced") t11, .bool c.spaced⟩,
   ⟨PyData.keyHash w.params (Str.ofString "held"), .str (Str.ofString "held") t12, .int c.held t13⟩] → P) : P := by
  obtain ⟨t0, t1, t2, t3, t4, t5, t6, t7, t8, t9, t10, t11, t12, t13, e⟩ := S
  exact k t0 t1 t2 t3 t4 t5 t6 t7 t8 t9 t10 t11 t12 t13 e
theorem news2 {h₀ h : Heap} {L : Addr} {big : List (Addr × Obj)} {p q : Addr × Obj} (N : News h₀ L h big) (h1 : p ∈ big) (h2 : q ∈ big) : News h₀ L h [p, q] := by
  intro r hr
  rcases List.mem_cons.mp hr with rfl | hr
  · exact N _ h1
  · rw [List.mem_singleton.mp hr]; exact N _ h2
-- a state whose count of tokens is any; a frame told by a short row
theorem toks_any {α : Type} {M : Model} {A : Around} {x : Sem α} {Q : α → Shared → Prop} {E : Value → Shared → Prop} {s0 : Shared} {h : Heap} {t : Nat} (k : ∀ t, wpAny M A x Q E { s0 with heap := h, toks := t }) : wpAny M A x Q E { s0 with heap := h, toks := t } := k t
theorem fr_look {h₀ h : Heap} {L : Addr} {l l' : List (Str × Value)} (F : Fr h₀ L h (fun y => List.lookup y l)) (e : l = l') : Fr h₀ L h (fun y => List.lookup y l') := e ▸ F
theorem let_A {α : Type} {M : Model} {A : Around} {x : Sem α} {Q : α → Shared → Prop} {E : Value → Shared → Prop} {s : Shared} (k : let A9 := A; wpAny M A9 x Q E s) : wpAny M A x Q E s := k
-- the goal told by a letter while a fact is taken apart (each «obtain» stores the whole goal else)
theorem let_P {P : Prop} (k : let P9 := P; P9) : P := k
theorem let_fr {h₀ h : Heap} {L : Addr} {m : Str → Option Value} {P : Prop} (F : Fr h₀ L h m) (k : let m9 := m; Fr h₀ L h m9 → P) : P := k F
def AllNe (d : Nat) : List (Addr × Obj) → Prop
  | [] => True
  | p :: r => @Ne Nat p.1 d ∧ AllNe d r
theorem allNe_of {d : Addr} : ∀ {l : List (Addr × Obj)}, (∀ p ∈ l, @Ne Nat p.1 d) → AllNe d l
  | [], _ => trivial
  | _ :: _, h => ⟨h _ (.head _), allNe_of fun q hq => h q (.tail _ hq)⟩
-- room that a callee asks for
theorem uu1 {u n a c : Nat} (h : u + n < c) (e : Nat.ble a n = true) : u + a < c := Nat.lt_of_le_of_lt (Nat.add_le_add_left (Nat.le_of_ble_eq_true e) u) h
theorem uu2 {u n a b c : Nat} (h : u + n < c) (e : Nat.ble (a + b) n = true) : u + a + b < c := Nat.add_assoc u a b ▸ uu1 h e
theorem uu3 {u n a b d c : Nat} (h : u + n < c) (e : Nat.ble (a + b + d) n = true) : u + a + b + d < c := by have := uu1 h e; rwa [Nat.add_assoc, Nat.add_assoc, ← Nat.add_assoc a]
theorem uu4 {u n a b d k c : Nat} (h : u + n < c) (e : Nat.ble (a + b + d + k) n = true) : u + a + b + d + k < c := by have := Nat.le_of_ble_eq_true e; omega
-- parted addresses, looked up in a row of facts
theorem nn8 {a8y b8y : Nat} (h8y : a8y ≠ b8y) : a8y ≠ b8y := h8y
theorem nq1 {a8y b8y : Nat} (h8y : a8y ≠ b8y) : b8y ≠ a8y := Ne.symm h8y
theorem nq2 {a8y b8y : Nat} (h8y : a8y < b8y) : a8y ≠ b8y := Nat.ne_of_lt h8y
theorem nq3 {a8y b8y : Nat} (h8y : b8y < a8y) : a8y ≠ b8y := Nat.ne_of_gt h8y
theorem nc1 {a8y d8y x8y : Nat} {p8y : Prop} (h8y : x8y < d8y ∧ p8y) (k8y : x8y < d8y ∧ p8y → a8y < d8y) : a8y ≠ d8y := Nat.ne_of_lt (k8y h8y)
theorem nc2 {a8y d8y x8y : Nat} {p8y : Prop} (h8y : x8y < d8y ∧ p8y) (k8y : x8y < d8y ∧ p8y → a8y < d8y) : d8y ≠ a8y := Nat.ne_of_gt (k8y h8y)
theorem nc3 {a8y d8y x8y : Nat} {p8y : Prop} (h8y : x8y ≠ d8y ∧ p8y) (k8y : x8y ≠ d8y ∧ p8y → a8y ≠ d8y) : a8y ≠ d8y := k8y h8y
theorem nc4 {a8y d8y x8y : Nat} {p8y : Prop} (h8y : x8y ≠ d8y ∧ p8y) (k8y : x8y ≠ d8y ∧ p8y → a8y ≠ d8y) : d8y ≠ a8y := Ne.symm (k8y h8y)
theorem nr {p8y q8y c8y : Prop} (k8y : p8y → c8y) : q8y ∧ p8y → c8y := fun h => k8y h.2
theorem an8 {q8y : Addr × Obj} {d8y : Addr} {l8y : List (Addr × Obj)} (h8y : q8y.1 ≠ d8y) (t8y : ∀ p ∈ l8y, p.1 ≠ d8y) : ∀ p ∈ q8y :: l8y, p.1 ≠ d8y := List.forall_mem_cons.mpr ⟨h8y, t8y⟩
theorem sb8 {q8y : Addr × Obj} {l8y a8y : List (Addr × Obj)} (h8y : q8y ∈ a8y) (t8y : ∀ p ∈ l8y, p ∈ a8y) : ∀ p ∈ q8y :: l8y, p ∈ a8y := List.forall_mem_cons.mpr ⟨h8y, t8y⟩
theorem uh8 {d8y : Addr} {o8y n8y : Obj} {r8y : List (Addr × Obj)} (h8y : ∀ p ∈ r8y, p.1 ≠ d8y) : Upd d8y o8y n8y ((d8y, o8y) :: r8y) ((d8y, n8y) :: r8y) := .head h8y
theorem ut8 {d8y : Addr} {o8y n8y : Obj} {p8y : Addr × Obj} {r8y s8y : List (Addr × Obj)} (h8y : p8y.1 ≠ d8y) (t8y : Upd d8y o8y n8y r8y s8y) : Upd d8y o8y n8y (p8y :: r8y) (p8y :: s8y) := .tail h8y t8y
theorem fh8 {d8y : Addr} {o8y : Obj} {r8y : List (Addr × Obj)} (h8y : ∀ p ∈ r8y, p.1 ≠ d8y) : UpdF d8y o8y ((d8y, o8y) :: r8y) (fun o' => (d8y, o') :: r8y) := .head h8y
theorem ft8 {d8y : Addr} {o8y : Obj} {p8y : Addr × Obj} {r8y : List (Addr × Obj)} {g8y : Obj → List (Addr × Obj)} (h8y : p8y.1 ≠ d8y) (t8y : UpdF d8y o8y r8y g8y) : UpdF d8y o8y (p8y :: r8y) (fun o' => p8y :: g8y o') := .tail h8y t8y
end Prepart
section Genpart
/-! ## a for loop by an invariant over its turn, the frame and the ledger -/
def itCls (v : Value) : Bool := match v with
  | .type s => ["list_iterator", "tuple_iterator", "range_iterator", "enumerate"].contains s
  | _ => false
def TurnEnd (h₀ : Heap) (L : Addr) (its : List (Addr × Obj)) (J : (Str → Option Value) → List (Addr × Obj) → Prop) (s₁ s₂ : Shared) : Prop :=
  ∃ h' tk m' news' all, s₂ = { s₁ with heap := h', toks := tk } ∧ Fr h₀ L h' m' ∧ News h₀ L h' all ∧ (∀ p ∈ its, p ∈ all) ∧ (∀ p ∈ news', p ∈ all) ∧ (∀ p ∈ news', itCls p.2.cls = false ∨ ∀ q ∈ its, p.1 ≠ q.1) ∧ J m' news'
theorem TurnEnd.intro {h₀ : Heap} {L : Addr} {its all : List (Addr × Obj)} {J : (Str → Option Value) → List (Addr × Obj) → Prop} {s₁ : Shared} {h' : Heap} {tk : Nat} {m' : Str → Option Value} (news' : List (Addr × Obj)) (F : Fr h₀ L h' m') (N : News h₀ L h' all)
    (hi : ∀ p ∈ its, p ∈ all) (hn : ∀ p ∈ news', p ∈ all) (hc : ∀ p ∈ news', itCls p.2.cls = false) (hj : J m' news') : TurnEnd h₀ L its J s₁ { s₁ with heap := h', toks := tk } :=
  ⟨h', tk, m', news', all, rfl, F, N, hi, hn, fun p hp => .inl (hc p hp), hj⟩
theorem TurnEnd.intro2 {h₀ : Heap} {L : Addr} {its all : List (Addr × Obj)} {J : (Str → Option Value) → List (Addr × Obj) → Prop} {s₁ : Shared} {h' : Heap} {tk : Nat} {m' : Str → Option Value} (news' : List (Addr × Obj)) (F : Fr h₀ L h' m') (N : News h₀ L h' all)
    (hi : ∀ p ∈ its, p ∈ all) (hn : ∀ p ∈ news', p ∈ all) (hc : ∀ p ∈ news', itCls p.2.cls = false ∨ ∀ q ∈ its, p.1 ≠ q.1) (hj : J m' news') : TurnEnd h₀ L its J s₁ { s₁ with heap := h', toks := tk } :=
  ⟨h', tk, m', news', all, rfl, F, N, hi, hn, hc, hj⟩
def TurnPost (h₀ : Heap) (L : Addr) (its : List (Addr × Obj)) (J : (Str → Option Value) → List (Addr × Obj) → Prop) (s₁ : Shared) (Q : Flow → Shared → Prop) (f : Flow) (s₂ : Shared) : Prop :=
  match f with
  | .ret v => Q (.ret v) s₂
  | .brk => Q .next s₂
  | _ => TurnEnd h₀ L its J s₁ s₂
section
variable {prog : Program} {w : World} {A : Around} {E : Value → Shared → Prop} {s : Shared} {env : Env} {h₀ : Heap} {target : Expr} {body : List Stmt} {Q : Flow → Shared → Prop}
theorem turnsJ {I : Addr} {fp wr : List Addr} {n : Nat} {P Md : Nat → Value → Heap → Prop} {St : Nat → Heap → Prop} {m₀ : Str → Option Value} {news : List (Addr × Obj)} {hp : Heap} {tk0 : Nat} (ws : List (Addr × String))
    (J : Nat → (Str → Option Value) → List (Addr × Obj) → Prop) (W : KTurns prog w A target I fp wr n P Md St)
    (hobj : ∀ i h, St i h → ∃ its, Objs ws its ∧ ∀ p ∈ its, h.get? p.1 = some p.2)
    (hws : ∀ b ∈ ws.map (·.1), b ∈ fp ∧ h₀.get? b = none) (hit : ∀ x ∈ ws, itCls (.type x.2) = true) (hwr : ∀ b ∈ wr, b ∈ ws.map (·.1))
    (hfp : ∀ b ∈ fp, b ∈ ws.map (·.1) ∨ (∃ o, h₀.get? b = some o) ∨ ∃ o, ∀ i m₁ news₁, J i m₁ news₁ → (b, o) ∈ news₁)
    (hL : env.locals ∉ fp) (hnw : ∀ p ∈ news, p.1 ∉ wr) (hst : St 0 hp)
    (F : Fr h₀ env.locals hp m₀) (N : News h₀ env.locals hp news) (h0 : J 0 m₀ news)
    (turn : ∀ i v m₁ news₁ h₁ tk₁ its, i < n → P i v h₁ → J i m₁ news₁ → Objs ws its → Fr h₀ env.locals h₁ m₁ → News h₀ env.locals h₁ (its ++ news₁) →
      wpAny (model prog w) A (assign target env v) (fun _ s₃ => wpAny (model prog w) A (execs body env) (TurnPost h₀ env.locals its (J (i + 1)) { s with heap := h₁, toks := tk₁ } Q) E s₃) E { s with heap := h₁, toks := tk₁ })
    (done : ∀ m₁ news₁ h tk, J n m₁ news₁ → Fr h₀ env.locals h m₁ → News h₀ env.locals h news₁ → Q .next { s with heap := h, toks := tk }) :
    TurnsAt prog w A h₀ env target body Q E (.ref I) { s with heap := hp, toks := tk0 } := by
  refine ⟨I, fp, wr, n, P, Md, St, m₀, news, J, rfl, W, hL, fun b hb => (hws b (hwr b hb)).2, hnw, hst, F, N, h0, ?_, fun h' tk m' news' F' N' _ hJ => done m' news' h' tk hJ F' N'⟩
  intro i v m₁ news₁ h₁ tk₁ own hin hP hJ _ hown hget hall hst₁ F₁ N₁
  obtain ⟨its, hits, hval⟩ := hobj (i + 1) h₁ hst₁
  have hmap := hits.map
  have N₂ : News h₀ env.locals h₁ (its ++ news₁) := by
    intro p hp
    rcases List.mem_append.mp hp with hp | hp
    · have h1 : p.1 ∈ ws.map (·.1) := hmap ▸ List.mem_map_of_mem hp
      exact N₁ _ (List.mem_append_left _ (hall p.1 (hws _ h1).1 (hws _ h1).2 p.2 (hval p hp)))
    · exact N₁ _ (List.mem_append_right _ hp)
  have clsOf : ∀ p ∈ its, itCls p.2.cls = true := by
    have : ∀ (ws' : List (Addr × String)) (its' : List (Addr × Obj)), Objs ws' its' → (∀ x ∈ ws', itCls (.type x.2) = true) → ∀ p ∈ its', itCls p.2.cls = true := by
      intro ws'
      induction ws' with
      | nil =>
        intro its' h _ p hp
        cases its' with
        | nil => cases hp
        | cons => exact (show False from h).elim
      | cons x r ih =>
        intro its' h hx p hp
        cases its' with
        | nil => exact (show False from h).elim
        | cons q r' =>
          rcases List.mem_cons.mp hp with rfl | hp
          · rw [h.1.2]; exact hx x List.mem_cons_self
          · exact ih r' h.2 (fun y hy => hx y (List.mem_cons_of_mem _ hy)) p hp
    exact this ws its hits hit
  have fin : ∀ s₃, TurnEnd h₀ env.locals its (J (i + 1)) { s with heap := h₁, toks := tk₁ } s₃ → LoopStepU h₀ env.locals wr own (J (i + 1)) { s with heap := h₁, toks := tk₁ } .next s₃ := by
    rintro s₃ ⟨h', tk, m', news', all, e, F', N', hi, hn, hc, hj⟩
    refine ⟨rfl, h', tk, m', news', e, F', ?_, ?_, hj⟩
    · intro p hp
      rcases List.mem_append.mp hp with hp | hp
      · have h2 := hget p hp
        have hp0 : h₀.get? p.1 = none := (N₁ p (List.mem_append_left _ hp)).2.2
        rcases hfp p.1 (hown p hp) with h3 | ⟨o, h3⟩ | ⟨o, h3⟩
        · rw [← hmap] at h3
          obtain ⟨q, hq, hqe⟩ := List.mem_map.mp h3
          have h5 := hval q hq
          have e5 : q = p := by
            rw [hqe, h2] at h5
            exact Prod.ext hqe (Option.some.inj h5).symm
          exact e5 ▸ N' q (hi q hq)
        · rw [hp0] at h3; cases h3
        · have h4 := (N₁ _ (List.mem_append_right _ (h3 _ _ _ hJ))).1
          have h5 : p = (p.1, o) := Prod.ext rfl (Option.some.inj (h2.symm.trans h4))
          rw [h5]
          exact N' _ (hn _ (h3 _ _ _ hj))
      · exact N' p (hn p hp)
    · intro p hp hb
      have h3 := hwr _ hb
      rw [← hmap] at h3
      obtain ⟨q, hq, hqe⟩ := List.mem_map.mp h3
      have a1 := (N' q (hi q hq)).1
      have a2 := (N' p (hn p hp)).1
      rw [hqe, a2] at a1
      rcases hc p hp with hc1 | hc2
      · have := clsOf q hq
        rw [← Option.some.inj a1, hc1] at this
        cases this
      · exact hc2 q hq hqe.symm
  refine wpAny_mono (turn i v m₁ news₁ h₁ tk₁ its hin hP hJ hits F₁ N₂) (fun _ s₂ h₂ => wpAny_mono h₂ (fun f s₃ p => ?_) fun _ _ e => e) fun _ _ e => e
  cases f with
  | ret v => exact .ret p
  | brk => exact .brk p
  | next => exact .next (fin _ p)
  | cont => exact .cont (fin _ p)

/-! ## a frame in which some names have turned -/
def over (st : List Str) (u m : Str → Option Value) : Str → Option Value := fun y => if st.contains y = true then u y else m y
theorem over_self {st : List Str} {m m' : Str → Option Value} (h : ∀ y, st.contains y = false → m' y = m y) : m' = over st m' m := by
  funext y
  unfold over
  by_cases hb : st.contains y = true
  · rw [if_pos hb]
  · rw [if_neg hb]; exact h y (by simpa using hb)
theorem over_off {st : List Str} {u m : Str → Option Value} {y : Str} (h : st.contains y = false) : over st u m y = m y := by
  unfold over; rw [h]; rfl
theorem over_refl (st : List Str) (m : Str → Option Value) : over st m m = m := by funext y; unfold over; split <;> rfl
/-- a list that lies in the base heap or in the ledger, counted -/
theorem enumJ {elts : List Expr} {k : Nat} {pos : Pos} {l : Addr} {vs : List Value} {m₀ : Str → Option Value} {news : List (Addr × Obj)} (st : List Str) (J : Nat → List (Addr × Obj) → Prop)
    (hh : A.handled = none) (F : Fr h₀ env.locals s.heap m₀) (N : News h₀ env.locals s.heap news) (hl : s.heap.IsList l vs.toArray)
    (hk : (∃ o, h₀.get? l = some o) ∨ ∃ o, ∀ i news₁, J i news₁ → (l, o) ∈ news₁) (hlL : l ≠ env.locals) (h0 : J 0 news)
    (turn : ∀ (I i : Nat) v T t u news₁ h₁ tk₁ o1 o2, s.heap.objs.size ≤ I → vs[i]? = some v → IsTup h₁ T #[.int (i : Int) t, v] → J i news₁ → o1.cls = .type "enumerate" → o2.cls = .type "list_iterator" → Fr h₀ env.locals h₁ (over st u m₀) → News h₀ env.locals h₁ ((I + 1, o1) :: (I, o2) :: news₁) →
      wpAny (model prog w) A (assign (.Tuple elts k pos) env (.ref T)) (fun _ s₃ => wpAny (model prog w) A (execs body env) (TurnPost h₀ env.locals [(I + 1, o1), (I, o2)] (fun m' n' => (∀ y, st.contains y = false → m' y = m₀ y) ∧ J (i + 1) n') { s with heap := h₁, toks := tk₁ } Q) E s₃) E { s with heap := h₁, toks := tk₁ })
    (done : ∀ u news₁ h tk, J vs.length news₁ → Fr h₀ env.locals h (over st u m₀) → News h₀ env.locals h news₁ → Q .next { s with heap := h, toks := tk }) :
    wpAny (model prog w) A (call (.type "enumerate") [.ref l]) (fun xv s₁ => wpAny (model prog w) A (pyIter xv) (fun it s₂ => TurnsAt prog w A h₀ env (.Tuple elts k pos) body Q E it s₂) E s₁) E s := by
  obtain ⟨ol, hol, _⟩ := id hl
  have hlt : l < s.heap.objs.size := Heap.lt_size hol
  have hLs : env.locals < s.heap.objs.size := F.ns.lt
  have fresh : ∀ b, s.heap.objs.size ≤ b → h₀.get? b = none := fun b hb => by
    cases e : h₀.get? b with
    | none => rfl
    | some o => exact absurd (Heap.lt_size (F.keep _ _ e)) (Nat.not_lt.mpr hb)
  refine call_enumerate_list hl fun h' hE hI hsz hk' => ?_
  refine wpAny_pyIter_enum hE ?_
  refine turnsJ (tk0 := s.toks) [(s.heap.objs.size + 1, "enumerate"), (s.heap.objs.size, "list_iterator")] (fun i m₁ n₁ => (∀ y, st.contains y = false → m₁ y = m₀ y) ∧ J i n₁)
    (KTurns.ofWalksU (WalksT.enumerate hh (s.heap.objs.size + 1) s.heap.objs.size l (Nat.succ_ne_self _) (ktu_ne 1 hlt) (Nat.ne_of_lt hlt) vs.toArray).toU) ?_ ?_ ?_ ?_ ?_ ?_ ?_ ?_ (F.keeps hk') (N.grown hk') ⟨fun _ _ => rfl, h0⟩ ?_ (fun m₁ n₁ h tk hJ F₁ N₁ => done m₁ n₁ h tk (by simpa using hJ.2) (over_self hJ.1 ▸ F₁) N₁)
  · rintro i h ⟨⟨old, he⟩, ⟨oi, hoi, hic, _⟩, _⟩
    have he' : ∃ oe : Obj, h.get? (s.heap.objs.size + 1) = some oe ∧ oe.cls = .type "enumerate" := ⟨_, he, rfl⟩
    obtain ⟨oe, h1, h2⟩ := he'
    refine ⟨[(s.heap.objs.size + 1, oe), (s.heap.objs.size, oi)], ⟨⟨rfl, h2⟩, ⟨rfl, hic⟩, trivial⟩, fun p hp => ?_⟩
    rcases List.mem_cons.mp hp with rfl | hp
    · exact h1
    · rw [List.mem_singleton.mp hp]; exact hoi
  · intro b hb
    rcases List.mem_cons.mp hb with rfl | hb
    · exact ⟨by simp, fresh _ (Nat.le_succ _)⟩
    · rw [List.mem_singleton.mp hb]; exact ⟨by simp, fresh _ (Nat.le_refl _)⟩
  · intro x hx
    rcases List.mem_cons.mp hx with rfl | hx
    · rfl
    · rw [List.mem_singleton.mp hx]; rfl
  · intro b hb; simpa using hb
  · intro b hb
    rcases List.mem_cons.mp hb with rfl | hb
    · exact .inl (by simp)
    · rcases List.mem_cons.mp hb with rfl | hb
      · exact .inl (by simp)
      · rw [List.mem_singleton.mp hb]; exact .inr (hk.imp id fun ⟨o, x⟩ => ⟨o, fun i _ n₁ y => x i n₁ y.2⟩)
  · intro hb
    rcases List.mem_cons.mp hb with e | hb
    · exact absurd hLs (e ▸ Nat.not_lt.mpr (Nat.le_succ _))
    · rcases List.mem_cons.mp hb with e | hb
      · exact absurd hLs (e ▸ Nat.lt_irrefl _)
      · exact hlL (List.mem_singleton.mp hb).symm
  · intro p hp hb
    have := Heap.lt_size (N p hp).1
    rcases List.mem_cons.mp hb with e | hb
    · exact absurd this (e ▸ Nat.not_lt.mpr (Nat.le_succ _))
    · rw [List.mem_singleton.mp hb] at this; exact Nat.lt_irrefl _ this
  · exact ⟨⟨_, hE⟩, hI, hl.at fun o e => hk' _ _ e⟩
  · rintro i v m₁ news₁ h₁ tk₁ its hin ⟨T, vals, rfl, ⟨t, x, hx, rfl⟩, hT⟩ hJ hits F₁ N₁
    match its, hits with
    | [(a1, o1), (a2, o2)], hits =>
      obtain ⟨⟨e1, c1⟩, ⟨e2, c2⟩, _⟩ := hits
      have e1' : a1 = s.heap.objs.size + 1 := e1
      have e2' : a2 = s.heap.objs.size := e2
      subst e1' e2'
      exact turn _ i x T t m₁ news₁ h₁ tk₁ o1 o2 (Nat.le_refl _) (by simpa using hx) hT hJ.2 c1 c2 (over_self hJ.1 ▸ F₁) N₁
    | [], hits => exact (show False from hits).elim
    | [_], hits => exact (show False from hits.2).elim
    | _ :: _ :: _ :: _, hits => exact (show False from hits.2.2).elim
end
/-- the walk stands still here -/
def Halt (P : Prop) : Prop := P
theorem halt_ {P : Prop} (h : Halt P) : P := h
theorem Halt.go {P : Prop} (h : P) : Halt P := h
/-! ## rows of made tuples, told by the ledger -/
abbrev tup2 (p : Int) (tk : Tok) (b : Bool) (n : Nat) : Obj := { cls := .type "tuple", data := .seq #[.int p tk, .bool b] n }
abbrev tup3 (k : Str) (t : Tok) (a : Int) (ta : Tok) (b : Int) (tb : Tok) (n : Nat) : Obj := { cls := .type "tuple", data := .seq #[.str k t, .int a ta, .int b tb] n }
inductive RowsIn (tl : List (Addr × Obj)) : List Value → List (Int × Bool) → Prop
  | nil : RowsIn tl [] []
  | cons {t : Addr} {p : Int} {tk : Tok} {b : Bool} {n : Nat} {vs : List Value} {rows : List (Int × Bool)} : (t, tup2 p tk b n) ∈ tl → RowsIn tl vs rows → RowsIn tl (.ref t :: vs) ((p, b) :: rows)
inductive UnitsIn (tl : List (Addr × Obj)) : List Value → List (Str × Int × Int) → Prop
  | nil : UnitsIn tl [] []
  | cons {t : Addr} {k : Str} {t1 t2 t3 : Tok} {a b : Int} {n : Nat} {vs : List Value} {us : List (Str × Int × Int)} : (t, tup3 k t1 a t2 b t3 n) ∈ tl → UnitsIn tl vs us → UnitsIn tl (.ref t :: vs) ((k, a, b) :: us)
theorem RowsIn.mono {tl tl' : List (Addr × Obj)} {vs rows} (h : RowsIn tl vs rows) (hs : ∀ p ∈ tl, p ∈ tl') : RowsIn tl' vs rows := by
  induction h with
  | nil => exact .nil
  | cons hm _ ih => exact .cons (hs _ hm) ih
theorem UnitsIn.mono {tl tl' : List (Addr × Obj)} {vs us} (h : UnitsIn tl vs us) (hs : ∀ p ∈ tl, p ∈ tl') : UnitsIn tl' vs us := by
  induction h with
  | nil => exact .nil
  | cons hm _ ih => exact .cons (hs _ hm) ih
theorem RowsIn.append {tl : List (Addr × Obj)} {vs ws rows rows'} (h : RowsIn tl vs rows) (h' : RowsIn tl ws rows') : RowsIn tl (vs ++ ws) (rows ++ rows') := by
  induction h with
  | nil => exact h'
  | cons hm _ ih => exact .cons hm ih
theorem UnitsIn.append {tl : List (Addr × Obj)} {vs ws us us'} (h : UnitsIn tl vs us) (h' : UnitsIn tl ws us') : UnitsIn tl (vs ++ ws) (us ++ us') := by
  induction h with
  | nil => exact h'
  | cons hm _ ih => exact .cons hm ih
theorem UnitsIn.length {tl : List (Addr × Obj)} {vs us} (h : UnitsIn tl vs us) : vs.length = us.length := by
  induction h with
  | nil => rfl
  | cons _ _ ih => simp [ih]
theorem RowsIn.length {tl : List (Addr × Obj)} {vs us} (h : RowsIn tl vs us) : vs.length = us.length := by
  induction h with
  | nil => rfl
  | cons _ _ ih => simp [ih]
/-- every entry is a tuple that lies elsewhere -/
def TupTail (l : Addr) (tl : List (Addr × Obj)) : Prop := ∀ p ∈ tl, p.2.cls = .type "tuple" ∧ p.1 ≠ l
/-! ## the units of a text -/
def unitsStep (us : List (Str × Int × Int)) (place : Int) (kind : Str) : List (Str × Int × Int) :=
  match us.getLast? with
  | some u => if isHang kind && !isPara u.1 then us.dropLast ++ [(u.1, u.2.1, place + 1)] else us ++ [(kind, place, place + 1)]
  | none => us ++ [(kind, place, place + 1)]
def unitsFrom : Int → List (Str × Int × Int) → List Str → List (Str × Int × Int)
  | _, us, [] => us
  | i, us, k :: r => unitsFrom (i + 1) (unitsStep us i k) r
def unitsS (ks : List Str) : List (Str × Int × Int) := unitsFrom 0 [] ks
theorem strs_get {vs : List Value} {ks : List Str} (h : StrsAre vs ks) : ∀ {i : Nat} {v : Value}, vs[i]? = some v → ∃ k t, ks[i]? = some k ∧ v = .str k t := by
  induction h with
  | nil => intro i v e; simp at e
  | cons x t _ ih =>
    intro i v e
    cases i with
    | zero => simp at e; exact ⟨_, _, rfl, e.symm⟩
    | succ i => exact ih (by simpa using e)
theorem strs_length {vs : List Value} {ks : List Str} (h : StrsAre vs ks) : vs.length = ks.length := by
  induction h with
  | nil => rfl
  | cons _ _ _ ih => simp [ih]
section
variable {prog : Program} {w : World} {A : Around} {E : Value → Shared → Prop} {s : Shared} {h₀ : Heap} {L a : Addr} {news : List (Addr × Obj)} {its : Array Value} {n : Nat} {ys : List Str} {x : Str} {u : Tok} {Q : Value → Shared → Prop}
theorem in_made (p : Str → Bool) (N : News h₀ L s.heap news) (hm : (a, ({ cls := .type "tuple", data := .seq its n } : Obj)) ∈ news) (hi : StrsAre its.toList ys) (hp : ys.any (· == x) = p x) (h : Q (.bool (p x)) s) :
    wpAny (model prog w) A (compareOp .In (.str x u) (.ref a)) Q E s :=
  in_tuple_strs ⟨_, N.get hm, rfl, _, rfl⟩ hi (by rw [hp]; exact h)
theorem notin_made (p : Str → Bool) (N : News h₀ L s.heap news) (hm : (a, ({ cls := .type "tuple", data := .seq its n } : Obj)) ∈ news) (hi : StrsAre its.toList ys) (hp : ys.any (· == x) = p x) (h : Q (.bool (!p x)) s) :
    wpAny (model prog w) A (compareOp .NotIn (.str x u) (.ref a)) Q E s :=
  notin_tuple_strs ⟨_, N.get hm, rfl, _, rfl⟩ hi (by rw [hp]; exact h)
end
/-! ## lists at their end -/
section
variable {prog : Program} {w : World} {A : Around} {E : Value → Shared → Prop} {s : Shared} {h₀ : Heap} {L f : Addr} {m : Str → Option Value} {news news' : List (Addr × Obj)} {us : List Value} {x v : Value} {n : Nat} {u : Tok}
theorem item_lastK {value slice : PySem.Expr} {Q : Value → Shared → Prop} (hl : s.heap.IsList f (us ++ [x]).toArray) (h : Q x s)
    (hs : subscripted slice false (.ref f) (.int (-1) u) = operate [.ref f, .int (-1) u] (getItem (.ref f) (.int (-1) u)) := by with_unfolding_all rfl) :
    wpAny (model prog w) A (subscriptTail value slice (.ref f) (.int (-1) u)) Q E s := by
  refine tail_any hl.typeIs slot_list_getitem.lookup (wpAny_getItem_list_neg (x := x) hl (by decide) (by simp; omega) (by decide) ?_ h) hs
  have e : (-1 + ((us ++ [x]).toArray.size : Int)).toNat = us.length := by simp; omega
  rw [e]; simp
theorem item_lastN {value slice : PySem.Expr} {Q : Value → Shared → Prop} (N : News h₀ L s.heap news) (hm : (f, listOf (us ++ [x]).toArray n) ∈ news) (h : Q x s)
    (hs : subscripted slice false (.ref f) (.int (-1) u) = operate [.ref f, .int (-1) u] (getItem (.ref f) (.int (-1) u)) := by with_unfolding_all rfl) :
    wpAny (model prog w) A (subscriptTail value slice (.ref f) (.int (-1) u)) Q E s := item_lastK ⟨_, N.get hm, rfl, _, rfl⟩ h hs
theorem setLast_K {Q : Unit → Shared → Prop} (F : Fr h₀ L s.heap m) (N : News h₀ L s.heap news) (U : Upd f (listOf (us ++ [x]).toArray n) (listOf (us ++ [v]).toArray n) news news')
    (h : ∀ h', Fr h₀ L h' m → News h₀ L h' news' → Q () { s with heap := h' }) : wpAny (model prog w) A (setItem (.ref f) (.int (-1) u) v) Q E s := by
  obtain ⟨pre, post, rfl, rfl, a, b⟩ := U.split
  have z := N (f, listOf (us ++ [x]).toArray n) (List.mem_append.mpr (.inr (.head _)))
  refine ki_setBack z.1 (by decide) (by simp; omega) (by decide) (h _ (F.change (Heap.SameBut.update ..) z.2.1 z.2.2) (ki_turn _ N a b ?_ ?_))
  · have e : (-1 + ((us ++ [x]).toArray.size : Int)).toNat = us.length := by simp; omega
    rw [e]
    apply Array.toList_inj.mp
    simp
  · simp
end
/-! ## lists as data -/
def unitD (u : Str × Int × Int) : PyData := .tuple [.str u.1, .int u.2.1, .int u.2.2]
def rowD (r : Int × Bool) : PyData := .tuple [.int r.1, .bool r.2]
theorem readsAll_strs {h : Heap} {vs : List Value} {ks : List Str} (hi : StrsAre vs ks) : ReadsAll h vs (ks.map PyData.str) [] := by
  induction hi with
  | nil => exact .nil
  | cons x t _ ih => exact ReadsAll.cons (as := []) (Reads.str x t) ih
theorem reads_strs {h : Heap} {a : Addr} {vs : List Value} {ks : List Str} (hl : h.IsList a vs.toArray) (hi : StrsAre vs ks) : Reads h (.ref a) (.list (ks.map PyData.str)) [a] := by
  obtain ⟨o, ho, hc, n, hd⟩ := hl
  exact Reads.list ho hc hd (by simpa using readsAll_strs hi)
theorem readsAll_units {h₀ h : Heap} {L : Addr} {news tl : List (Addr × Obj)} {us : List Value} {u : List (Str × Int × Int)} (N : News h₀ L h news) (hs : ∀ p ∈ tl, p ∈ news) (hu : UnitsIn tl us u) : ReadsAll h us (u.map unitD) [] := by
  induction hu with
  | nil => exact .nil
  | cons hm _ ih => exact ReadsAll.cons (as := []) (Reads.tuple (N _ (hs _ hm)).1 rfl rfl (ReadsAll.cons (as := []) (.str _ _) (ReadsAll.cons (as := []) (.int _ _) (ReadsAll.cons (as := []) (.int _ _) .nil)))) ih
theorem readsAll_rows {h₀ h : Heap} {L : Addr} {news tl : List (Addr × Obj)} {us : List Value} {u : List (Int × Bool)} (N : News h₀ L h news) (hs : ∀ p ∈ tl, p ∈ news) (hu : RowsIn tl us u) : ReadsAll h us (u.map rowD) [] := by
  induction hu with
  | nil => exact .nil
  | cons hm _ ih => exact ReadsAll.cons (as := []) (Reads.tuple (N _ (hs _ hm)).1 rfl rfl (ReadsAll.cons (as := []) (.int _ _) (ReadsAll.cons (as := []) (.bool _) .nil))) ih
theorem reads_listOf {h : Heap} {a : Addr} {us : List Value} {n : Nat} {ds : List PyData} {as : List Addr} (hl : h.get? a = some (listOf us.toArray n)) (r : ReadsAll h us ds as) : Reads h (.ref a) (.list ds) (a :: as) := Reads.list hl rfl rfl (by simpa using r)
theorem canLayAll_of {ds : List PyData} (h : ∀ d ∈ ds, d.canLay0 = true) : PyData.canLayAll0 ds = true := by
  induction ds with
  | nil => simp [PyData.canLayAll0]
  | cons d r ih => simp [PyData.canLayAll0, h d List.mem_cons_self, ih fun x hx => h x (List.mem_cons_of_mem _ hx)]
theorem depthAll_of {ds : List PyData} {k : Nat} (h : ∀ d ∈ ds, d.depth ≤ k) : PyData.depthAll ds ≤ k := by
  induction ds with
  | nil => simp [PyData.depthAll]
  | cons d r ih =>
    have h1 := h d List.mem_cons_self
    have h2 := ih fun x hx => h x (List.mem_cons_of_mem _ hx)
    simp only [PyData.depthAll]; omega
theorem shaped_of {ds : List PyData} (h : ∀ d ∈ ds, d.canLay0 = true ∧ d.depth ≤ 3) : SeqAt.shaped (.list ds) = true := by
  have h1 := canLayAll_of fun d hd => (h d hd).1
  have h2 := depthAll_of fun d hd => (h d hd).2
  have h3 : PyData.depth (.list ds) ≤ 64 := by simp only [PyData.depth]; omega
  show (PyData.canLay0 (.list ds) && decide (PyData.depth (.list ds) ≤ 64)) = true
  rw [Bool.and_eq_true]
  exact ⟨by simp only [PyData.canLay0]; exact h1, decide_eq_true h3⟩
theorem shaped_strs {ks : List Str} (h : ∀ k ∈ ks, PyData.strOk k = true) : SeqAt.shaped (.list (ks.map PyData.str)) = true := by
  refine shaped_of fun d hd => ?_
  obtain ⟨k, hk, rfl⟩ := List.mem_map.mp hd
  exact ⟨by simp [PyData.canLay0, h k hk], by simp [PyData.depth]⟩
theorem shaped_rows (rs : List (Int × Bool)) : SeqAt.shaped (.list (rs.map rowD)) = true := by
  refine shaped_of fun d hd => ?_
  obtain ⟨k, hk, rfl⟩ := List.mem_map.mp hd
  exact ⟨by simp [rowD, PyData.canLay0, PyData.canLayAll0], by simp [rowD, PyData.depth, PyData.depthAll]⟩
theorem shaped_units {us : List (Str × Int × Int)} (h : ∀ k ∈ us, PyData.strOk k.1 = true) : SeqAt.shaped (.list (us.map unitD)) = true := by
  refine shaped_of fun d hd => ?_
  obtain ⟨k, hk, rfl⟩ := List.mem_map.mp hd
  exact ⟨by simp [unitD, PyData.canLay0, PyData.canLayAll0, h k hk], by simp [unitD, PyData.depth, PyData.depthAll]⟩
theorem eqv_strs : ∀ ks ms : List Str, PyData.eqvAll (ks.map PyData.str) (ms.map PyData.str) = decide (ks = ms)
  | [], [] => by simp [PyData.eqvAll]
  | [], _ :: _ => by simp [PyData.eqvAll]
  | _ :: _, [] => by simp [PyData.eqvAll]
  | n :: r, k :: q => by
    simp only [List.map_cons, PyData.eqvAll, PyData.eqv, eqv_strs r q]
    by_cases h : n = k <;> simp [h]
theorem eqv_rows : ∀ ks ms : List (Int × Bool), PyData.eqvAll (ks.map rowD) (ms.map rowD) = decide (ks = ms)
  | [], [] => by simp [PyData.eqvAll]
  | [], _ :: _ => by simp [PyData.eqvAll]
  | _ :: _, [] => by simp [PyData.eqvAll]
  | (n, b) :: r, (k, c) :: q => by
    simp only [List.map_cons, PyData.eqvAll, eqv_rows r q, rowD, PyData.eqv]
    by_cases h : n = k <;> by_cases h' : b = c <;> simp [h, h']
section
variable {prog : Program} {w : World} {A : Around} {E : Value → Shared → Prop} {s : Shared} {a b : Addr} {vs us : List Value} {ks ms : List Str} {Q : Value → Shared → Prop}
theorem ne_nil_data {ds : List PyData} {as : List Addr} (ra : Reads s.heap (.ref a) (.list ds) as) (hb : s.heap.IsList b #[]) (hd : SeqAt.shaped (.list ds) = true) (hu : A.units + 64 < cLine) (h : Q (.bool (!ds.isEmpty)) s) :
    wpAny (model prog w) A (compareOp .NotEq (.ref a) (.ref b)) Q E s := by
  refine ne_dataH ra (reads_strs (vs := []) (ks := []) hb .nil) hd (shaped_strs (ks := []) (fun _ h => nomatch h)) hu ?_
  cases ds with
  | nil => simpa [PyData.eqv, PyData.eqvAll] using h
  | cons => simpa [PyData.eqv, PyData.eqvAll] using h
theorem eq_nil_data {ds : List PyData} {as : List Addr} (ra : Reads s.heap (.ref a) (.list ds) as) (hb : s.heap.IsList b #[]) (hd : SeqAt.shaped (.list ds) = true) (hu : A.units + 64 < cLine) (h : Q (.bool ds.isEmpty) s) :
    wpAny (model prog w) A (compareOp .Eq (.ref a) (.ref b)) Q E s := by
  refine eq_dataH ra (reads_strs (vs := []) (ks := []) hb .nil) hd (shaped_strs (ks := []) (fun _ h => nomatch h)) hu ?_
  cases ds with
  | nil => simpa [PyData.eqv, PyData.eqvAll] using h
  | cons => simpa [PyData.eqv, PyData.eqvAll] using h
theorem eq_strsK (hl : s.heap.IsList a vs.toArray) (hi : StrsAre vs ks) (hl' : s.heap.IsList b us.toArray) (hi' : StrsAre us ms) (hk : ∀ k ∈ ks, PyData.strOk k = true) (hm : ∀ k ∈ ms, PyData.strOk k = true) (hu : A.units + 64 < cLine)
    (h : Q (.bool (decide (ks = ms))) s) : wpAny (model prog w) A (compareOp .Eq (.ref a) (.ref b)) Q E s :=
  eq_dataH (reads_strs hl hi) (reads_strs hl' hi') (shaped_strs hk) (shaped_strs hm) hu (by simp only [PyData.eqv]; rw [eqv_strs]; exact h)
theorem ne_strsK (hl : s.heap.IsList a vs.toArray) (hi : StrsAre vs ks) (hl' : s.heap.IsList b us.toArray) (hi' : StrsAre us ms) (hk : ∀ k ∈ ks, PyData.strOk k = true) (hm : ∀ k ∈ ms, PyData.strOk k = true) (hu : A.units + 64 < cLine)
    (h : Q (.bool (!decide (ks = ms))) s) : wpAny (model prog w) A (compareOp .NotEq (.ref a) (.ref b)) Q E s :=
  ne_dataH (reads_strs hl hi) (reads_strs hl' hi') (shaped_strs hk) (shaped_strs hm) hu (by simp only [PyData.eqv]; rw [eqv_strs]; exact h)
theorem ne_unitsK {h₀ : Heap} {L : Addr} {news tl : List (Addr × Obj)} {u : List (Str × Int × Int)} {n n' : Nat} (N : News h₀ L s.heap news) (ha : (a, listOf us.toArray n) ∈ news) (hu : UnitsIn tl us u) (hs : ∀ p ∈ tl, p ∈ news) (hb : (b, listOf ([] : List Value).toArray n') ∈ news)
    (hok : ∀ k ∈ u, PyData.strOk k.1 = true) (hun : A.units + 64 < cLine) (h : Q (.bool (!us.isEmpty)) s) : wpAny (model prog w) A (compareOp .NotEq (.ref a) (.ref b)) Q E s := by
  refine ne_nil_data (reads_listOf (N _ ha).1 (readsAll_units N hs hu)) ⟨_, (N _ hb).1, rfl, _, rfl⟩ (shaped_units hok) hun ?_
  have := hu.length
  cases us <;> cases u <;> simp_all
end
theorem unitsIn_snoc {tl : List (Addr × Obj)} {us : List Value} {u : List (Str × Int × Int)} (h : UnitsIn tl us u) : (us = [] ∧ u = []) ∨ ∃ us' u' t k t1 a t2 b t3 n, us = us' ++ [.ref t] ∧ u = u' ++ [(k, a, b)] ∧ (t, tup3 k t1 a t2 b t3 n) ∈ tl ∧ UnitsIn tl us' u' := by
  induction h with
  | nil => exact .inl ⟨rfl, rfl⟩
  | @cons t k t1 t2 t3 a b n vs u hm hr ih =>
    right
    rcases ih with ⟨rfl, rfl⟩ | ⟨us', u', t', k', t1', a', t2', b', t3', n', rfl, rfl, hm', hu'⟩
    · exact ⟨[], [], t, k, t1, a, t2, b, t3, n, rfl, rfl, hm, .nil⟩
    · exact ⟨.ref t :: us', (k, a, b) :: u', t', k', t1', a', t2', b', t3', n', rfl, rfl, hm', .cons hm hu'⟩
section
variable {prog : Program} {w : World} {A : Around} {E : Value → Shared → Prop} {s : Shared} {h₀ : Heap} {L t : Addr} {news tl : List (Addr × Obj)} {k : Str} {t1 t2 t3 u : Tok} {a b : Int} {n : Nat} {value slice : PySem.Expr} {Q : Value → Shared → Prop}
theorem item3_0 (N : News h₀ L s.heap news) (hm : (t, tup3 k t1 a t2 b t3 n) ∈ tl) (hs : ∀ p ∈ tl, p ∈ news) (h : Q (.str k t1) s)
    (he : subscripted slice false (.ref t) (.int 0 u) = operate [.ref t, .int 0 u] (getItem (.ref t) (.int 0 u)) := by with_unfolding_all rfl) :
    wpAny (model prog w) A (subscriptTail value slice (.ref t) (.int 0 u)) Q E s := item_tupleT (News.isTup N (hs _ hm)) (by decide) (by decide) rfl rfl h he
theorem item3_1 (N : News h₀ L s.heap news) (hm : (t, tup3 k t1 a t2 b t3 n) ∈ tl) (hs : ∀ p ∈ tl, p ∈ news) (h : Q (.int a t2) s)
    (he : subscripted slice false (.ref t) (.int 1 u) = operate [.ref t, .int 1 u] (getItem (.ref t) (.int 1 u)) := by with_unfolding_all rfl) :
    wpAny (model prog w) A (subscriptTail value slice (.ref t) (.int 1 u)) Q E s := item_tupleT (News.isTup N (hs _ hm)) (by decide) (by decide) rfl rfl h he
theorem item3_2 (N : News h₀ L s.heap news) (hm : (t, tup3 k t1 a t2 b t3 n) ∈ tl) (hs : ∀ p ∈ tl, p ∈ news) (h : Q (.int b t3) s)
    (he : subscripted slice false (.ref t) (.int 2 u) = operate [.ref t, .int 2 u] (getItem (.ref t) (.int 2 u)) := by with_unfolding_all rfl) :
    wpAny (model prog w) A (subscriptTail value slice (.ref t) (.int 2 u)) Q E s := item_tupleT (News.isTup N (hs _ hm)) (by decide) (by decide) rfl rfl h he
end
theorem unitsFrom_append : ∀ (ks ms : List Str) (i : Int) (us : List (Str × Int × Int)), unitsFrom i us (ks ++ ms) = unitsFrom (i + ks.length) (unitsFrom i us ks) ms
  | [], ms, i, us => by simp [unitsFrom]
  | k :: r, ms, i, us => by
    simp only [List.cons_append, unitsFrom]
    rw [unitsFrom_append r ms]
    congr 1
    simp; omega
theorem unitsS_succ {ks : List Str} {i : Nat} {k : Str} (h : ks[i]? = some k) : unitsS (ks.take (i + 1)) = unitsStep (unitsS (ks.take i)) (i : Int) k := by
  have hi : i < ks.length := (List.getElem?_eq_some_iff.mp h).1
  unfold unitsS
  rw [List.take_add_one, h, unitsFrom_append]
  simp only [Option.toList_some, unitsFrom, List.length_take, Nat.min_eq_left (Nat.le_of_lt hi), Int.zero_add]
theorem step_hit {u : List (Str × Int × Int)} {k kd : Str} {a b p : Int} (h : isHang kd = true) (h' : isPara k = false) : unitsStep (u ++ [(k, a, b)]) p kd = u ++ [(k, a, p + 1)] := by
  simp [unitsStep, h, h']
theorem step_miss {u : List (Str × Int × Int)} {kd : Str} {p : Int} (h : isHang kd = false ∨ u = [] ∨ ∃ u' k a b, u = u' ++ [(k, a, b)] ∧ isPara k = true) : unitsStep u p kd = u ++ [(kd, p, p + 1)] := by
  rcases h with h | h | ⟨u', k, a, b, h, h'⟩
  · unfold unitsStep; cases u.getLast? <;> simp [h]
  · subst h; rfl
  · subst h; simp [unitsStep, h']
theorem unitsStep_ok {P : Str → Prop} {us : List (Str × Int × Int)} {p : Int} {kd : Str} (h : ∀ u ∈ us, P u.1) (hk : P kd) : ∀ u ∈ unitsStep us p kd, P u.1 := by
  unfold unitsStep
  split
  · rename_i u hu
    have hm := h _ (List.mem_of_getLast? hu)
    split
    · intro x hx
      rcases List.mem_append.mp hx with hx | hx
      · exact h x (List.dropLast_subset _ hx)
      · rw [List.mem_singleton.mp hx]; exact hm
    · intro x hx
      rcases List.mem_append.mp hx with hx | hx
      · exact h x hx
      · rw [List.mem_singleton.mp hx]; exact hk
  · intro x hx
    rcases List.mem_append.mp hx with hx | hx
    · exact h x hx
    · rw [List.mem_singleton.mp hx]; exact hk
theorem unitsFrom_ok {P : Str → Prop} : ∀ {ks : List Str} {i : Int} {us : List (Str × Int × Int)}, (∀ u ∈ us, P u.1) → (∀ k ∈ ks, P k) → ∀ u ∈ unitsFrom i us ks, P u.1
  | [], _, _, h, _ => h
  | k :: r, i, us, h, hk => by
    show ∀ u ∈ unitsFrom (i + 1) (unitsStep us i k) r, P u.1
    exact unitsFrom_ok (ks := r) (unitsStep_ok h (hk k List.mem_cons_self)) fun x hx => hk x (List.mem_cons_of_mem _ hx)
theorem unitsS_ok {P : Str → Prop} {ks : List Str} (hk : ∀ k ∈ ks, P k) : ∀ u ∈ unitsS ks, P u.1 := unitsFrom_ok (fun _ h => nomatch h) hk
theorem unitsStep_length {us : List (Str × Int × Int)} {p : Int} {kd : Str} : (unitsStep us p kd).length ≤ us.length + 1 := by
  unfold unitsStep
  split
  · split <;> simp
  · simp
theorem unitsFrom_length : ∀ {ks : List Str} {i : Int} {us : List (Str × Int × Int)}, (unitsFrom i us ks).length ≤ us.length + ks.length
  | [], _, _ => by simp [unitsFrom]
  | k :: r, i, us => by
    have h1 := unitsFrom_length (ks := r) (i := i + 1) (us := unitsStep us i k)
    have h2 := unitsStep_length (us := us) (p := i) (kd := k)
    simp only [unitsFrom, List.length_cons]; omega
theorem unitsS_length (ks : List Str) : (unitsS ks).length ≤ ks.length := by have := unitsFrom_length (ks := ks) (i := 0) (us := []); simpa [unitsS] using this
/-- a turn of the units' loop is at its end -/
theorem units_end {h₀ h' : Heap} {L f t : Addr} {s₁ : Shared} {tk : Nat} {m' m₀ : Str → Option Value} {st : List Str} {its all tl : List (Addr × Obj)} {us us' : List Value} {u' : List (Str × Int × Int)} {k n : Nat} {kk : Str} {a b : Int} {t1 t2 t3 : Tok} {ks : List Str} {i : Nat}
    (F : Fr h₀ L h' m') (N : News h₀ L h' all) (hs : ∀ y, st.contains y = false → m' y = m₀ y) (hi : ∀ p ∈ its, p ∈ all) (hf : (f, listOf us.toArray k) ∈ all) (ht : (t, tup3 kk t1 a t2 b t3 n) ∈ all) (htl : ∀ p ∈ tl, p ∈ all)
    (T : TupTail f tl) (ne : @Ne Nat t f) (U : UnitsIn tl us' u') (e2 : us = us' ++ [Value.ref t]) (e : unitsS (ks.take (i + 1)) = u' ++ [(kk, a, b)]) :
    TurnEnd h₀ L its (fun m' n₁ => (∀ y, st.contains y = false → m' y = m₀ y) ∧ ∃ us tl k, n₁ = (f, listOf us.toArray k) :: tl ∧ UnitsIn tl us (unitsS (ks.take (i + 1))) ∧ TupTail f tl) s₁ { s₁ with heap := h', toks := tk } := by
  subst e2
  refine TurnEnd.intro ((f, listOf (us' ++ [Value.ref t]).toArray k) :: (t, tup3 kk t1 a t2 b t3 n) :: tl) F N hi ?_ ?_ ⟨hs, _, _, _, rfl, ?_, ?_⟩
  · intro p hp
    rcases List.mem_cons.mp hp with rfl | hp
    · exact hf
    · rcases List.mem_cons.mp hp with rfl | hp
      · exact ht
      · exact htl p hp
  · intro p hp
    rcases List.mem_cons.mp hp with rfl | hp
    · rfl
    · rcases List.mem_cons.mp hp with rfl | hp
      · rfl
      · rw [(T p hp).1]; rfl
  · rw [e]
    exact (U.mono fun p hp => List.mem_cons_of_mem _ hp).append (.cons List.mem_cons_self .nil)
  · intro p hp
    rcases List.mem_cons.mp hp with rfl | hp
    · exact ⟨rfl, ne⟩
    · exact T p hp
theorem news_of {h₀ h : Heap} {L : Addr} {news : List (Addr × Obj)} (N : News h₀ L h news) (p : Addr × Obj) (hp : p ∈ news) : h.get? p.1 = some p.2 ∧ p.1 ≠ L ∧ h₀.get? p.1 = none := N p hp
theorem ne_of_fresh {h : Heap} {a b : Addr} {o : Obj} (ha : h.get? a = none) (hb : h.get? b = some o) : @Ne Nat a b := fun e => by
  have e' : a = b := e
  rw [e', hb] at ha; cases ha
theorem ne_of_cls {h : Heap} {a b : Addr} {o o' : Obj} (ha : h.get? a = some o) (hb : h.get? b = some o') (hc : o.cls ≠ o'.cls) : @Ne Nat a b := fun e => by
  have e' : a = b := e
  rw [e', hb] at ha; exact hc (by rw [Option.some.inj ha])
/-- entering a def with cells whose every argument lies in the heap as it stands -/
theorem code_def0C {prog : Program} {w : World} {A A₀ : Around} {s : Shared} {K : Frag} {L : Addr} {h₀ base : Heap} {m mg mb : Str → Option Value} {p : Program} {loose : List Str} {mean : ExcName → Option Value}
    {env : Env} {outer : List Env} {R : Result → Shared → Prop} {name qual : Str} {params : Arguments} {body : List Stmt} {scope : Scope} {dV kV doc pm cdv ct oc : Value} {an od : Option Addr} {osl : Array (Option Value)} {f : Addr} {args : Args} {binds : List (Str × Value)}
    (B : Below A₀ base outer h₀) (F : Fr h₀ L s.heap m) (X₀ : K.In h₀) (T : Top p loose mean mg mb h₀) (hA : A.frames = some (env :: outer)) (hf : env.frame = some L) (hke : env.scope.kind = .function)
    (ho : K.lookup f = some ⟨oc, od, .func (fnOf name qual params body scope dV kV doc pm an cdv ct), osl⟩) (hcd : codeIn K cdv qual = true) (hroom : A.depth < recursionLimit)
    (hbind : BindsTo s (fnOf name qual params body scope dV kV doc pm an cdv ct) args binds) (hkind : (binds.all fun y => scope.names.lookup y.1 == some .local || scope.names.lookup y.1 == some .cell) = true)
    (hnd : ((cellsFrom 0 scope.names []).map (·.1)).Nodup)
    (h : ∀ L' h₁ tk cells, Fr s.heap L' h₁ (bindL (envOfC qual scope L' f cdv).kindOf binds fun _ => none) → News s.heap L' h₁ cells →
      CellsAre (bindC (envOfC qual scope L' f cdv).kindOf binds fun _ => none) (cellsFrom (L' + 1) scope.names []) cells → Below A base (env :: outer) s.heap → K.In s.heap → Top p loose mean mg mb s.heap →
      wpAny (model prog w) (A.deeper (envOfC qual scope L' f cdv)) (execs body (envOfC qual scope L' f cdv))
        (fun fl s' => LeaveK h₀ L m s.heap R (match fl with | .ret v => v | _ => .none) s')
        (fun e s' => wpAny (model prog w) (A.deeper (envOfC qual scope L' f cdv)) (leaving (envOfC qual scope L' f cdv) e) (fun _ s'' => R (.error e) s'') (fun e' s'' => R (.error e') s'') s')
        { s with heap := h₁, toks := tk })
    (hco : scope.isCoroutine = false) (hgen : scope.isGenerator = false) (hk : scope.kind = .function) : codeAny (model prog w) A (.call (.ref f) args) R s := by
  obtain ⟨FG, BG, st, lv⟩ := groundX (R := R) B F (News.nil (h₀ := h₀) (L := L) (h := s.heap)) hA hf hke
  refine codeAny_call_function hroom ((X₀.keeps F.keep) _ _ ho) rfl hco hgen rfl (codeRec_of (X₀.keeps F.keep) hcd) (hbind _ _ _ _ ?_)
  refine wpAny_newFunctionEnv_cells hk (kindsX hkind _) fun env' he s' x => ?_
  subst he
  refine ⟨((T.nolimit.keeps F.keep)).keeps x.toInCall.keep, codeAny_func ?_⟩
  obtain ⟨h₁, tk, rfl, _⟩ := x.done
  have hk₁ := x.toInCall.keep
  obtain ⟨cells, NC, Y⟩ := Cl.news (h₀ := s.heap) (Nat.le_refl _) fun n c hm => ⟨x.cell n c (lookup_of_mem_nodup (cellsFrom_names scope.names 0 (s.heap.objs.size + 1) [] [] rfl ▸ hnd) hm), x.above n c hm⟩
  exact wpAny_mono (h s.heap.objs.size h₁ tk cells ⟨x.toInCall.ns, hk₁, Nat.le_refl _⟩ NC Y BG (X₀.keeps F.keep) (T.keeps F.keep)) (fun fl s' hl => lv _ _ hl) fun _ _ y => y
/-! ## a comprehension with a test, turn by turn -/
section
open PyProof.Rows.LCg PyProof.Rows.LCt
variable {prog : Program} {w : World} {A : Around} {h₀ : Heap} {L : Addr} {m : Str → Option Value} {env : Env} {ct elt : PySem.Expr} {x : Str} {scope : Scope} {cl : List (Str × Addr)} {s : Shared} {S : List (Addr × Obj) → Prop} {P : Nat → Value → Prop} {Fin : List Value → List (Addr × Obj) → Prop}
theorem restT_J (J : Nat → List Value → List (Addr × Obj) → Prop) {n : Nat} {news : List (Addr × Obj)} (h0 : J 0 [] news)
    (turn : ∀ i v I oI C oC D m₂ ys nw h tk (E' : Value → Shared → Prop), i < n → P i v → J i ys nw → NsObj oC m₂ → m₂ x = some v → Fr h₀ L h m → News h₀ L h ((I, oI) :: (C, oC) :: (D, lst ys) :: nw) → Off3 I C D nw → ((@Ne Nat I C) ∧ (@Ne Nat I D) ∧ (@Ne Nat C D)) →
      wpAny (model prog w) A (isTrue ct (compEnvC scope cl C env) (eval ct (compEnvC scope cl C env))) (fun ok s' => if ok = true then
        wpAny (model prog w) A (eval elt (compEnvC scope cl C env)) (CompEnd h₀ L m { s with heap := h, toks := tk } I oI C oC D (lst ys) S (fun y nw' => J (i + 1) (ys ++ [y]) nw')) E' s'
        else CompEnd h₀ L m { s with heap := h, toks := tk } I oI C oC D (lst ys) S (fun _ nw' => J (i + 1) ys nw') Value.none s') E' { s with heap := h, toks := tk })
    (fin : ∀ ys nw, J n ys nw → Fin ys nw) : CompRestT prog w A h₀ L m env ct elt x scope cl s S P Fin n 0 [] news := by
  have key : ∀ (j i : Nat) (ys : List Value) nw, i + j = n → J i ys nw → CompRestT prog w A h₀ L m env ct elt x scope cl s S P Fin j i ys nw := by
    intro j
    induction j with
    | zero => intro i ys nw hi hj; obtain rfl : i = n := by omega
              exact CompRestT.zero (fin ys nw hj)
    | succ j ih =>
      intro i ys nw hi hj
      refine CompRestT.succ ?_
      intro v I oI C oC D m₂ h tk E' hv hC hx F N off ne
      have ce : ∀ {ys' : Value → List Value} {y : Value} {s₂ : Shared}, CompEnd h₀ L m { s with heap := h, toks := tk } I oI C oC D (lst ys) S (fun y nw' => J (i + 1) (ys' y) nw') y s₂ →
          CompEnd h₀ L m { s with heap := h, toks := tk } I oI C oC D (lst ys) S (fun y nw' => CompRestT prog w A h₀ L m env ct elt x scope cl s S P Fin j (i + 1) (ys' y) nw') y s₂ := by
        rintro ys' y s₂ ⟨h', tk', nw', e, F', N', off', hS, hj'⟩
        exact ⟨h', tk', nw', e, F', N', off', hS, ih (i + 1) _ nw' (by omega) hj'⟩
      refine wpAny_mono (turn i v I oI C oC D m₂ ys nw h tk E' (by omega) hv hj hC hx F N off ne) (fun ok s₂ hq => ?_) fun _ _ e => e
      cases ok with
      | true =>
        simp only [if_true] at hq ⊢
        exact wpAny_mono hq (fun y s₃ q => ce (ys' := fun y => ys ++ [y]) q) fun _ _ e => e
      | false =>
        simp only [Bool.false_eq_true, if_false] at hq ⊢
        exact ce (ys' := fun _ => ys) hq
  exact key n 0 [] news (by omega) h0
theorem unitsIn_get {tl : List (Addr × Obj)} {us : List Value} {u : List (Str × Int × Int)} (h : UnitsIn tl us u) : ∀ {i : Nat} {v : Value}, us[i]? = some v → ∃ t k t1 a t2 b t3 n, v = .ref t ∧ u[i]? = some (k, a, b) ∧ (t, tup3 k t1 a t2 b t3 n) ∈ tl := by
  induction h with
  | nil => intro i v e; simp at e
  | cons hm _ ih =>
    intro i v e
    cases i with
    | zero => simp at e; exact ⟨_, _, _, _, _, _, _, _, e.symm, rfl, hm⟩
    | succ i => exact ih (by simpa using e)
theorem strs_snoc {vs : List Value} {ks : List Str} (h : StrsAre vs ks) (k : Str) (t : Tok) : StrsAre (vs ++ [.str k t]) (ks ++ [k]) := by
  induction h with
  | nil => exact .cons _ _ .nil
  | cons x t _ ih => exact .cons _ _ ih
/-- the names of the units that pass a test -/
theorem restT_units {tl : List (Addr × Obj)} {us : List Value} {u : List (Str × Int × Int)} {news : List (Addr × Obj)} (hu : UnitsIn tl us u) (p : Str × Int × Int → Bool)
    (turn : ∀ t k t1 a t2 b t3 n I oI C oC D m₂ ys h tk (E' : Value → Shared → Prop), (t, tup3 k t1 a t2 b t3 n) ∈ tl → (ys.length ≤ us.length) → NsObj oC m₂ → m₂ x = some (.ref t) → Fr h₀ L h m → News h₀ L h ((I, oI) :: (C, oC) :: (D, lst ys) :: news) → Off3 I C D news → ((@Ne Nat I C) ∧ (@Ne Nat I D) ∧ (@Ne Nat C D)) →
      wpAny (model prog w) A (isTrue ct (compEnvC scope cl C env) (eval ct (compEnvC scope cl C env))) (fun ok s' => if ok = true then
        wpAny (model prog w) A (eval elt (compEnvC scope cl C env)) (CompEnd h₀ L m { s with heap := h, toks := tk } I oI C oC D (lst ys) S (fun y nw' => (∃ tk, y = .str k tk) ∧ nw' = news ∧ p (k, a, b) = true)) E' s'
        else CompEnd h₀ L m { s with heap := h, toks := tk } I oI C oC D (lst ys) S (fun _ nw' => nw' = news ∧ p (k, a, b) = false) Value.none s') E' { s with heap := h, toks := tk })
    (fin : ∀ ys, StrsAre ys ((u.filter p).map (·.1)) → Fin ys news) : CompRestT prog w A h₀ L m env ct elt x scope cl s S (fun i v => us.toArray[i]? = some v) Fin us.toArray.size 0 [] news := by
  refine restT_J (fun i ys nw => nw = news ∧ StrsAre ys (((u.take i).filter p).map (·.1)) ∧ ys.length ≤ i) ⟨rfl, .nil, Nat.le_refl _⟩ ?_ ?_
  · rintro i v I oI C oC D m₂ ys nw h tk E' hi hv ⟨rfl, hys, hyl⟩ hC hx F N off ne
    obtain ⟨t, k, t1, a, t2, b, t3, n, rfl, hui, hm⟩ := unitsIn_get hu (i := i) (v := v) (by simpa using hv)
    have e : u.take (i + 1) = u.take i ++ [(k, a, b)] := by rw [List.take_add_one, hui]; rfl
    have hi' : i < us.length := by simpa using hi
    refine wpAny_mono (turn t k t1 a t2 b t3 n I oI C oC D m₂ ys h tk E' hm (by omega) hC hx F N off ne) (fun ok s₂ hq => ?_) fun _ _ e => e
    cases ok with
    | true =>
      simp only [if_true] at hq ⊢
      refine wpAny_mono hq (fun y s₃ q => ?_) fun _ _ e => e
      obtain ⟨h', tk', nw', e', F', N', off', hS, ⟨tk9, rfl⟩, rfl, hp⟩ := q
      refine ⟨h', tk', nw', e', F', N', off', hS, rfl, ?_, by simp; omega⟩
      rw [e, List.filter_append, List.map_append]
      simpa [hp] using strs_snoc hys k tk9
    | false =>
      simp only [Bool.false_eq_true, if_false] at hq ⊢
      obtain ⟨h', tk', nw', e', F', N', off', hS, rfl, hp⟩ := hq
      refine ⟨h', tk', nw', e', F', N', off', hS, rfl, ?_, by omega⟩
      rw [e, List.filter_append, List.map_append]
      simpa [hp] using hys
  · rintro ys nw ⟨rfl, hys, _⟩
    refine fin ys ?_
    have e : u.take us.toArray.size = u := by rw [List.size_toArray, hu.length]; exact List.take_length ..
    rw [e] at hys; exact hys
/-- the texts of a list that pass a test -/
theorem restT_strs {vs : List Value} {ks : List Str} {news : List (Addr × Obj)} (hu : StrsAre vs ks) (p : Str → Bool)
    (turn : ∀ k t I oI C oC D m₂ ys h tk (E' : Value → Shared → Prop), (ys.length ≤ vs.length) → NsObj oC m₂ → m₂ x = some (.str k t) → Fr h₀ L h m → News h₀ L h ((I, oI) :: (C, oC) :: (D, lst ys) :: news) → Off3 I C D news → ((@Ne Nat I C) ∧ (@Ne Nat I D) ∧ (@Ne Nat C D)) →
      wpAny (model prog w) A (isTrue ct (compEnvC scope cl C env) (eval ct (compEnvC scope cl C env))) (fun ok s' => if ok = true then
        wpAny (model prog w) A (eval elt (compEnvC scope cl C env)) (CompEnd h₀ L m { s with heap := h, toks := tk } I oI C oC D (lst ys) S (fun y nw' => (∃ tk, y = .str k tk) ∧ nw' = news ∧ p k = true)) E' s'
        else CompEnd h₀ L m { s with heap := h, toks := tk } I oI C oC D (lst ys) S (fun _ nw' => nw' = news ∧ p k = false) Value.none s') E' { s with heap := h, toks := tk })
    (fin : ∀ ys, StrsAre ys (ks.filter p) → Fin ys news) : CompRestT prog w A h₀ L m env ct elt x scope cl s S (fun i v => vs.toArray[i]? = some v) Fin vs.toArray.size 0 [] news := by
  refine restT_J (fun i ys nw => nw = news ∧ StrsAre ys ((ks.take i).filter p) ∧ ys.length ≤ i) ⟨rfl, .nil, Nat.le_refl _⟩ ?_ ?_
  · rintro i v I oI C oC D m₂ ys nw h tk E' hi hv ⟨rfl, hys, hyl⟩ hC hx F N off ne
    obtain ⟨k, t, hui, rfl⟩ := strs_get hu (i := i) (v := v) (by simpa using hv)
    have e : ks.take (i + 1) = ks.take i ++ [k] := by rw [List.take_add_one, hui]; rfl
    have hi' : i < vs.length := by simpa using hi
    refine wpAny_mono (turn k t I oI C oC D m₂ ys h tk E' (by omega) hC hx F N off ne) (fun ok s₂ hq => ?_) fun _ _ e => e
    cases ok with
    | true =>
      simp only [if_true] at hq ⊢
      refine wpAny_mono hq (fun y s₃ q => ?_) fun _ _ e => e
      obtain ⟨h', tk', nw', e', F', N', off', hS, ⟨tk9, rfl⟩, rfl, hp⟩ := q
      refine ⟨h', tk', nw', e', F', N', off', hS, rfl, ?_, by simp; omega⟩
      rw [e, List.filter_append]
      simpa [hp] using strs_snoc hys k tk9
    | false =>
      simp only [Bool.false_eq_true, if_false] at hq ⊢
      obtain ⟨h', tk', nw', e', F', N', off', hS, rfl, hp⟩ := hq
      refine ⟨h', tk', nw', e', F', N', off', hS, rfl, ?_, by omega⟩
      rw [e, List.filter_append]
      simpa [hp] using hys
  · rintro ys nw ⟨rfl, hys, _⟩
    refine fin ys ?_
    have e : ks.take vs.toArray.size = ks := by rw [List.size_toArray, strs_length hu]; exact List.take_length ..
    rw [e] at hys; exact hys
end
/-! ## what the law's _law_is_break answers -/
def isLetterS (x : Str) : Bool := [Str.ofString "Sep", Str.ofString "CR", Str.ofString "LF", Str.ofString "ATerm", Str.ofString "STerm", Str.ofString "Lower", Str.ofString "Upper", Str.ofString "OLetter"].any (· == x)
def isStayS (x : Str) : Bool := [Str.ofString "SContinue", Str.ofString "Sp", Str.ofString "ATerm", Str.ofString "STerm", Str.ofString "Sep", Str.ofString "CR", Str.ofString "LF"].any (· == x)
def stripS (x : Str) (r : List Str) : List Str := (r.reverse.dropWhile (· == x)).reverse
theorem stripS_nil (x : Str) : stripS x [] = [] := rfl
theorem stripS_snoc (x y : Str) (r : List Str) : stripS x (r ++ [y]) = if (y == x) = true then stripS x r else r ++ [y] := by
  unfold stripS
  rw [List.reverse_append]
  simp only [List.reverse_cons, List.reverse_nil, List.nil_append, List.singleton_append, List.dropWhile_cons]
  split <;> simp
theorem stripS_length (x : Str) (r : List Str) : (stripS x r).length ≤ r.length := by
  unfold stripS
  rw [List.length_reverse]
  have := (List.dropWhile_suffix (fun y => y == x) (l := r.reverse)).length_le
  simpa using this
theorem stripS_all {x : Str} {r : List Str} {P : Str → Prop} (h : ∀ k ∈ r, P k) : ∀ k ∈ stripS x r, P k := fun k hk => by
  unfold stripS at hk
  rw [List.mem_reverse] at hk
  exact h k (List.mem_reverse.mp ((List.dropWhile_suffix (fun y => y == x)).subset hk))
def tailS (A B : List Str) : Bool :=
  let r1 := stripS (Str.ofString "Sp") A
  let spaced := decide (r1.length < A.length)
  let r2 := stripS (Str.ofString "Close") r1
  match r2.getLast? with
  | none => false
  | some x => if !isTerm x then false
    else if x == Str.ofString "ATerm" && decide ((B.filter isLetterS).take 1 = [Str.ofString "Lower"]) then false
    else !(isStayS (B.headD (Str.ofString "")) || (B.headD (Str.ofString "") == Str.ofString "Close" && !spaced))
def edgeS (A B : List Str) : Bool :=
  let near := A.getLastD (Str.ofString "")
  let far := B.headD (Str.ofString "")
  if near == Str.ofString "CR" && far == Str.ofString "LF" then false
  else if isPara near then true
  else if near == Str.ofString "ATerm" && (far == Str.ofString "Numeric" || (far == Str.ofString "Upper" && (decide (A.dropLast.getLast?.toList = [Str.ofString "Upper"]) || decide (A.dropLast.getLast?.toList = [Str.ofString "Lower"])))) then false
  else tailS A B
def aheadS (ks : List Str) (pl : Int) : List Str := ((unitsS ks).filter fun u => decide (u.2.2 ≤ pl)).map (·.1)
def behindS (ks : List Str) (pl : Int) : List Str := ((unitsS ks).filter fun u => decide (pl ≤ u.2.1)).map (·.1)
def isBreakS (ks : List Str) (pl : Int) : Bool :=
  if (aheadS ks pl).length + (behindS ks pl).length < (unitsS ks).length then false else edgeS (aheadS ks pl) (behindS ks pl)
/-- the units in their order: the first begins at the start, the last ends at the end, each is of some length -/
def Cover (us : List (Str × Int × Int)) (n : Int) : Prop := (∀ u ∈ us, u.2.1 < u.2.2) ∧ (∀ u, us.head? = some u → u.2.1 = 0) ∧ (∀ u, us.getLast? = some u → u.2.2 = n)
theorem cover_step {us : List (Str × Int × Int)} {n : Int} {k : Str} (h : Cover us n) (he : us = [] → n = 0) : Cover (unitsStep us n k) (n + 1) ∧ unitsStep us n k ≠ [] := by
  obtain ⟨h1, h2, h3⟩ := h
  rcases List.eq_nil_or_concat us with rfl | ⟨us', u, rfl⟩
  · have := he rfl; subst this
    refine ⟨⟨?_, ?_, ?_⟩, ?_⟩ <;> simp [unitsStep]
  · have hu := h1 u (by simp)
    have hl := h3 u (by simp)
    simp only [List.concat_eq_append] at *
    unfold unitsStep
    simp only [List.getLast?_append, List.getLast?_singleton, Option.some_or, List.dropLast_concat]
    split
    · refine ⟨⟨?_, ?_, ?_⟩, by simp⟩
      · intro v hv
        rcases List.mem_append.mp hv with hv | hv
        · exact h1 v (by simp [hv])
        · rw [List.mem_singleton.mp hv]; show u.2.1 < n + 1; omega
      · intro v hv
        cases us' with
        | nil => simp at hv; rw [← hv]; exact h2 u (by simp)
        | cons a r => simp at hv; exact h2 v (by simp [hv])
      · intro v hv; simp at hv; rw [← hv]
    · refine ⟨⟨?_, ?_, ?_⟩, by simp⟩
      · intro v hv
        rcases List.mem_append.mp hv with hv | hv
        · exact h1 v hv
        · rw [List.mem_singleton.mp hv]; show n < n + 1; omega
      · intro v hv
        refine h2 v ?_
        cases us' with
        | nil => simpa using hv
        | cons a r => simpa using hv
      · intro v hv; simp at hv; rw [← hv]
theorem cover_from : ∀ (ks : List Str) (i : Int) (us : List (Str × Int × Int)), Cover us i → (us = [] → i = 0) → Cover (unitsFrom i us ks) (i + ks.length)
  | [], i, us, h, _ => by simpa [unitsFrom] using h
  | k :: r, i, us, h, he => by
    have hs := cover_step (k := k) h he
    have := cover_from r (i + 1) (unitsStep us i k) hs.1 fun e => absurd e hs.2
    simp only [unitsFrom, List.length_cons]
    rw [show i + ((r.length + 1 : Nat) : Int) = i + 1 + (r.length : Int) from by omega]
    exact this
theorem cover_units (ks : List Str) : Cover (unitsS ks) ks.length := by
  have := cover_from ks 0 [] ⟨fun _ h => (nomatch h), fun _ h => by simp at h, fun _ h => by simp at h⟩ fun _ => rfl
  simpa [unitsS] using this
theorem both_sides {us : List (Str × Int × Int)} {pl : Int} : ∀ (_ : ∀ u ∈ us, u.2.1 < u.2.2), (us.filter fun u => decide (u.2.2 ≤ pl)).length + (us.filter fun u => decide (pl ≤ u.2.1)).length ≤ us.length ∧
    (us.length ≤ (us.filter fun u => decide (u.2.2 ≤ pl)).length + (us.filter fun u => decide (pl ≤ u.2.1)).length → ∀ u ∈ us, u.2.2 ≤ pl ∨ pl ≤ u.2.1) := by
  induction us with
  | nil => intro _; exact ⟨Nat.le_refl _, fun _ _ h => nomatch h⟩
  | cons u r ih =>
    intro h
    obtain ⟨i1, i2⟩ := ih fun v hv => h v (List.mem_cons_of_mem _ hv)
    have hu := h u List.mem_cons_self
    by_cases ha : u.2.2 ≤ pl
    · have hb : ¬ pl ≤ u.2.1 := by omega
      simp only [List.filter_cons, ha, hb, decide_true, decide_false, if_true, Bool.false_eq_true, if_false, List.length_cons]
      refine ⟨by omega, fun hh v hv => ?_⟩
      rcases List.mem_cons.mp hv with rfl | hv
      · exact .inl ha
      · exact i2 (by omega) v hv
    · by_cases hb : pl ≤ u.2.1
      · simp only [List.filter_cons, ha, hb, decide_true, decide_false, if_true, Bool.false_eq_true, if_false, List.length_cons]
        refine ⟨by omega, fun hh v hv => ?_⟩
        rcases List.mem_cons.mp hv with rfl | hv
        · exact .inr hb
        · exact i2 (by omega) v hv
      · simp only [List.filter_cons, ha, hb, decide_false, Bool.false_eq_true, if_false, List.length_cons]
        exact ⟨by omega, fun hh => by omega⟩
theorem ends_there {ks : List Str} {pl : Int} (h0 : 0 < pl) (h1 : pl < ks.length) (hn : (unitsS ks).length ≤ (aheadS ks pl).length + (behindS ks pl).length) : (∃ A near, aheadS ks pl = A ++ [near]) ∧ ∃ far B, behindS ks pl = far :: B := by
  obtain ⟨c1, c2, c3⟩ := cover_units ks
  have hb := (both_sides (pl := pl) c1).2 (by simpa [aheadS, behindS] using hn)
  have hne : unitsS ks ≠ [] := by
    intro e
    cases ks with
    | nil => simp at h1; omega
    | cons k r =>
      have := (cover_step (us := []) (n := 0) (k := k) ⟨fun _ h => (nomatch h), fun _ h => by simp at h, fun _ h => by simp at h⟩ fun _ => rfl).2
      have c3' := c3
      have hl : ∀ (r : List Str) (i : Int) (us : List (Str × Int × Int)), us ≠ [] → unitsFrom i us r ≠ [] := by
        intro r
        induction r with
        | nil => intro i us h; exact h
        | cons k r ih =>
          intro i us h
          refine ih (i + 1) _ ?_
          unfold unitsStep
          split
          · split <;> simp
          · simp
      exact hl r 1 _ this e
  constructor
  · rcases List.eq_nil_or_concat (aheadS ks pl) with e | ⟨A, n, e⟩
    · exfalso
      obtain ⟨u, r, eu⟩ := List.exists_cons_of_ne_nil hne
      have hu0 := c2 u (by rw [eu]; rfl)
      have hm : u ∈ unitsS ks := by rw [eu]; exact List.mem_cons_self
      rcases hb u hm with h | h
      · have : u.1 ∈ aheadS ks pl := List.mem_map_of_mem (List.mem_filter.mpr ⟨hm, by simpa using h⟩)
        rw [e] at this; cases this
      · omega
    · exact ⟨A, n, by rw [e, List.concat_eq_append]⟩
  · cases e : behindS ks pl with
    | cons f B => exact ⟨f, B, rfl⟩
    | nil =>
      exfalso
      rcases List.eq_nil_or_concat (unitsS ks) with e' | ⟨r, u, eu⟩
      · exact hne e'
      · rw [List.concat_eq_append] at eu
        have hl := c3 u (by rw [eu]; simp)
        have hm : u ∈ unitsS ks := by rw [eu]; simp
        rcases hb u hm with h | h
        · omega
        · have : u.1 ∈ behindS ks pl := List.mem_map_of_mem (List.mem_filter.mpr ⟨hm, by simpa using h⟩)
          rw [e] at this; cases this
theorem strs_unsnoc {vs : List Value} {ks : List Str} {k : Str} (h : StrsAre vs (ks ++ [k])) : ∃ vs' t, vs = vs' ++ [Value.str k t] ∧ StrsAre vs' ks := by
  generalize e : ks ++ [k] = ms at h
  induction h generalizing ks with
  | nil => simp at e
  | cons x t hr ih =>
    cases ks with
    | nil =>
      simp at e
      obtain ⟨rfl, rfl⟩ := e
      cases hr
      exact ⟨[], t, rfl, .nil⟩
    | cons y r =>
      simp at e
      obtain ⟨rfl, e⟩ := e
      obtain ⟨vs', t', rfl, h'⟩ := ih e
      exact ⟨_ :: vs', t', rfl, .cons _ _ h'⟩
theorem strs_uncons {vs : List Value} {ks : List Str} {k : Str} (h : StrsAre vs (k :: ks)) : ∃ t vs', vs = Value.str k t :: vs' ∧ StrsAre vs' ks := by
  cases h with
  | cons x t h => exact ⟨t, _, rfl, h⟩
/-! ## a cut behind the first statements: the frame and the ledger stand as they were -/
section
variable {M : Model} {A : Around} {env : Env} {Q : Flow → Shared → Prop} {E : Value → Shared → Prop} {σ : Shared} {s1 s2 s3 : Stmt} {rest : List Stmt} {h₀ : Heap} {L : Addr} {m : Str → Option Value} {news : List (Addr × Obj)}
def CutTo (M : Model) (A : Around) (env : Env) (Q : Flow → Shared → Prop) (E : Value → Shared → Prop) (h₀ : Heap) (L : Addr) (m : Str → Option Value) (news : List (Addr × Obj)) (P : Prop) (σ : Shared) (rest : List Stmt) : Prop :=
  ∀ h' tk all, P → Fr h₀ L h' m → News h₀ L h' all → (∀ p ∈ news, p ∈ all) → wpAny M A (execs rest env) Q E { σ with heap := h', toks := tk }
theorem CutTo.of {P : Prop} (h : ∀ h' tk, P → Fr h₀ L h' m → News h₀ L h' news → wpAny M A (execs rest env) Q E { σ with heap := h', toks := tk }) : CutTo M A env Q E h₀ L m news P σ rest :=
  fun h' tk _ p F N hs => h h' tk p F fun q hq => N q (hs q hq)
theorem cut1S (F : Fr h₀ L σ.heap m) (N : News h₀ L σ.heap news) (P : Prop) (hrest : ∀ h' tk, P → Fr h₀ L h' m → News h₀ L h' news → wpAny M A (execs rest env) Q E { σ with heap := h', toks := tk })
    (h : ∀ rest', CutTo M A env Q E h₀ L m news P σ rest' → wpAny M A (execs (s1 :: rest') env) Q E σ) : wpAny M A (execs (s1 :: rest) env) Q E σ :=
  let _ := F
  let _ := N
  h rest (CutTo.of hrest)
theorem cut2S (F : Fr h₀ L σ.heap m) (N : News h₀ L σ.heap news) (P : Prop) (hrest : ∀ h' tk, P → Fr h₀ L h' m → News h₀ L h' news → wpAny M A (execs rest env) Q E { σ with heap := h', toks := tk })
    (h : ∀ rest', CutTo M A env Q E h₀ L m news P σ rest' → wpAny M A (execs (s1 :: s2 :: rest') env) Q E σ) : wpAny M A (execs (s1 :: s2 :: rest) env) Q E σ :=
  let _ := F
  let _ := N
  h rest (CutTo.of hrest)
theorem cut3S (F : Fr h₀ L σ.heap m) (N : News h₀ L σ.heap news) (P : Prop) (hrest : ∀ h' tk, P → Fr h₀ L h' m → News h₀ L h' news → wpAny M A (execs rest env) Q E { σ with heap := h', toks := tk })
    (h : ∀ rest', CutTo M A env Q E h₀ L m news P σ rest' → wpAny M A (execs (s1 :: s2 :: s3 :: rest') env) Q E σ) : wpAny M A (execs (s1 :: s2 :: s3 :: rest) env) Q E σ :=
  let _ := F
  let _ := N
  h rest (CutTo.of hrest)
end
/-! ## slices of texts; a list sought in a pair of lists -/
def pickS (ks : List Str) (lo hi : Option Int) : List Str := (ks.drop (kms_lo lo ks.length)).take (kms_hi hi ks.length - kms_lo lo ks.length)
theorem strs_drop {vs : List Value} {ks : List Str} (h : StrsAre vs ks) : ∀ n, StrsAre (vs.drop n) (ks.drop n) := by
  induction h with
  | nil => intro n; simp only [List.drop_nil]; exact .nil
  | cons x t h ih =>
    intro n
    cases n with
    | zero => exact .cons x t h
    | succ n => exact ih n
theorem strs_take {vs : List Value} {ks : List Str} (h : StrsAre vs ks) : ∀ n, StrsAre (vs.take n) (ks.take n) := by
  induction h with
  | nil => intro n; simp only [List.take_nil]; exact .nil
  | cons x t h ih =>
    intro n
    cases n with
    | zero => exact .nil
    | succ n => exact .cons x t (ih n)
theorem strs_pick {vs : List Value} {ks : List Str} {lo hi : Option Int} (h : StrsAre vs ks) : StrsAre (kms_pick vs lo hi) (pickS ks lo hi) := by
  unfold kms_pick pickS
  rw [strs_length h]
  exact strs_take (strs_drop h _) _
theorem pick_sub {ks : List Str} {lo hi : Option Int} {P : Str → Prop} (h : ∀ k ∈ ks, P k) : ∀ k ∈ pickS ks lo hi, P k := fun k hk => h k (List.mem_of_mem_drop (List.mem_of_mem_take hk))
theorem pick_second (A : List Str) (x : Str) : pickS (A ++ [x]) (some (-2)) (some (-1)) = (A ++ [x]).dropLast.getLast?.toList := by
  rcases List.eq_nil_or_concat A with rfl | ⟨B, y, rfl⟩
  · simp [pickS, kms_lo, kms_hi]
  · rw [List.concat_eq_append]
    have e : (B ++ [y] ++ [x]).length = B.length + 2 := by simp
    unfold pickS
    rw [e]
    simp only [kms_lo, kms_hi, show ((-2 : Int) < 0) = True by simp, show ((-1 : Int) < 0) = True by simp, if_true]
    have e1 : B.length + 2 - (-(-2 : Int)).toNat = B.length := by simp
    have e2 : B.length + 2 - (-(-1 : Int)).toNat = B.length + 1 := by simp
    rw [e1, e2]
    simp
theorem pick_first (ks : List Str) : pickS ks none (some 1) = ks.take 1 := by
  cases ks with
  | nil => rfl
  | cons k r => simp [pickS, kms_lo, kms_hi]
section
variable {prog : Program} {w : World} {A : Around} {E : Value → Shared → Prop} {s : Shared} {h₀ : Heap} {L D T a b : Addr} {news : List (Addr × Obj)} {vs va vb : List Value} {ks ka kb : List Str} {n n' na nb : Nat} {Q : Value → Shared → Prop}
theorem in_two (N : News h₀ L s.heap news) (hx : (D, listOf vs.toArray n) ∈ news) (hv : StrsAre vs ks) (ht : (T, ({ cls := .type "tuple", data := .seq #[.ref a, .ref b] n' } : Obj)) ∈ news) (ha : (a, listOf va.toArray na) ∈ news) (hva : StrsAre va ka) (hb : (b, listOf vb.toArray nb) ∈ news) (hvb : StrsAre vb kb)
    (ok : ∀ k ∈ ks, PyData.strOk k = true) (oka : ∀ k ∈ ka, PyData.strOk k = true) (okb : ∀ k ∈ kb, PyData.strOk k = true) (hu : A.units + 65 < cLine) (h : Q (.bool (decide (ks = ka) || decide (ks = kb))) s) :
    wpAny (model prog w) A (compareOp .In (.ref D) (.ref T)) Q E s := by
  have rD := reads_listOf (N _ hx).1 (readsAll_strs (h := s.heap) hv)
  have ra := reads_listOf (N _ ha).1 (readsAll_strs (h := s.heap) hva)
  have rb := reads_listOf (N _ hb).1 (readsAll_strs (h := s.heap) hvb)
  have sa := shaped_strs oka
  have sb := shaped_strs okb
  have sD := shaped_strs ok
  have rT : Reads s.heap (.ref T) (.tuple [.list (ka.map PyData.str), .list (kb.map PyData.str)]) _ := Reads.tuple (N _ ht).1 rfl rfl (ReadsAll.cons ra (ReadsAll.cons rb .nil))
  have cl : ∀ {l : List Str}, (∀ k ∈ l, PyData.strOk k = true) → PyData.canLay0 (.list (l.map PyData.str)) = true := fun {l} hl => by
    simp only [PyData.canLay0]
    exact canLayAll_of fun d hd => by
      obtain ⟨k, hk, rfl⟩ := List.mem_map.mp hd
      simp [PyData.canLay0, hl k hk]
  have dl : ∀ l : List Str, PyData.depth (.list (l.map PyData.str)) ≤ 2 := fun l => by
    have : PyData.depthAll (l.map PyData.str) ≤ 1 := depthAll_of fun d hd => by
      obtain ⟨k, hk, rfl⟩ := List.mem_map.mp hd
      simp [PyData.depth]
    simp only [PyData.depth]; omega
  have sT : SeqAt.shaped (.tuple [.list (ka.map PyData.str), .list (kb.map PyData.str)]) = true := by
    have c1 := cl oka
    have c2 := cl okb
    have d1 := dl ka
    have d2 := dl kb
    have d3 : PyData.depth (.tuple [.list (ka.map PyData.str), .list (kb.map PyData.str)]) ≤ 64 := by
      simp only [PyData.depth, PyData.depthAll] at d1 d2 ⊢; omega
    show (PyData.canLay0 (.tuple [.list (ka.map PyData.str), .list (kb.map PyData.str)]) && decide (PyData.depth (.tuple [.list (ka.map PyData.str), .list (kb.map PyData.str)]) ≤ 64)) = true
    rw [Bool.and_eq_true]
    refine ⟨?_, decide_eq_true d3⟩
    simp only [PyData.canLay0, PyData.canLayAll0] at c1 c2 ⊢
    simp [c1, c2]
  have nm : ∀ x y : List Str, SeqAt.noMix (.list (x.map PyData.str)) (.list (y.map PyData.str)) = true := by
    intro x y
    simp only [SeqAt.noMix]
    induction x generalizing y with
    | nil => cases y <;> simp [SeqAt.noMixAll]
    | cons p r ih => cases y with
      | nil => simp [SeqAt.noMixAll]
      | cons q t => simp [SeqAt.noMixAll, SeqAt.noMix, ih t]
  refine in_tuple_dataH rT rD sT sD hu ?_ ?_
  · intro y hy
    rcases List.mem_cons.mp hy with rfl | hy
    · exact nm _ _
    · rw [List.mem_singleton.mp hy]; exact nm _ _
  · have e : decide (PySem.Spec.countIn (.list (ks.map PyData.str)) [.list (ka.map PyData.str), .list (kb.map PyData.str)] ≠ 0) = (decide (ks = ka) || decide (ks = kb)) := by
      have se : ∀ x y : List Str, PySem.Spec.same (.list (x.map PyData.str)) (.list (y.map PyData.str)) = decide (y = x) := by
        intro x y
        rw [SeqAt.same_eq_eqv _ _ (nm x y)]
        simp only [PyData.eqv]
        rw [eqv_strs]
        by_cases h : x = y
        · simp [h]
        · have : ¬ y = x := fun e => h e.symm
          simp [h, this]
      simp only [PySem.Spec.countIn, se]
      by_cases h1 : ks = ka <;> by_cases h2 : ks = kb <;> simp [h1, h2]
      all_goals (try (subst h1)) <;> simp_all
    rw [e]; exact h
theorem slice_K {L : Addr} {m : Str → Option Value} {value slice : PySem.Expr} {its : Array Value} {vl vu : Value} {lo hi : Option Int} {l : Addr} (F : Fr h₀ L s.heap m) (N : News h₀ L s.heap news) (hl : s.heap.IsList l its) (pl : IsPart vl lo) (pu : IsPart vu hi)
    (h : ∀ D h', Fr h₀ L h' m → News h₀ L h' ((D, listOf (kms_pick its.toList lo hi).toArray 0) :: news) → (∀ p ∈ news, p.1 < D) → Q (.ref D) { s with heap := h' })
    (hs : subscripted slice false (.ref l) (.ref s.heap.objs.size) = operate [.ref s.heap.objs.size, .ref l] (getItem (.ref l) (.ref s.heap.objs.size))) (ht : ∀ r, letTemporaryGo value (.ref l) r = pure ()) (hz : its.size ≤ sizeLine) :
    wpAny (model prog w) A (subscriptTail value slice (.ref l) (.ref s.heap.objs.size)) Q E { s with heap := s.heap.push { cls := .type "slice", data := .fields #[vl, vu, .none] } } :=
  kms_slice_lit F N hl pl pu rfl h hs ht hz
end
/-! ## a while that takes a sign off a list's end -/
theorem kl_last_snoc : ∀ (p : List Value) (y : Value), kl_last (p ++ [y]) = some (p, y)
  | [], _ => rfl
  | x :: r, y => by
    rw [List.cons_append]
    unfold kl_last
    rw [kl_last_snoc r y]
section
variable {prog : Program} {w : World} {A : Around} {E : Value → Shared → Prop} {s : Shared} {env : Env} {h₀ : Heap} {L R : Addr} {m₀ : Str → Option Value} {nws : List (Addr × Obj)}
theorem pop_snoc {news news' : List (Addr × Obj)} {D : Addr} {p : List Value} {y : Value} {n : Nat} {m : Str → Option Value} {Q : Value → Shared → Prop} (F : Fr h₀ L s.heap m) (N : News h₀ L s.heap news) (U : Upd D (listOf (p ++ [y]).toArray n) (listOf p.toArray (n + 1)) news news')
    (hz : (p ++ [y]).length ≤ sizeLine) (h : ∀ h', Fr h₀ L h' m → News h₀ L h' news' → Q y { s with heap := h' }) : wpAny (model prog w) A (call (.builtin "list.pop") [.ref D]) Q E s :=
  kl_pop F N (by rw [List.toList_toArray]; exact kl_last_snoc p y) U (by simpa using hz) h
theorem ne_snocK {news : List (Addr × Obj)} {a b : Addr} {vs : List Value} {ks : List Str} {y : Str} {t : Tok} {n n' : Nat} {Q : Value → Shared → Prop} (N : News h₀ L s.heap news) (ha : (a, listOf (vs ++ [Value.str y t]).toArray n) ∈ news) (hv : StrsAre vs ks) (hb : (b, listOf ([] : List Value).toArray n') ∈ news)
    (ok : ∀ k ∈ ks ++ [y], PyData.strOk k = true) (hu : A.units + 64 < cLine) (h : Q (.bool true) s) : wpAny (model prog w) A (compareOp .NotEq (.ref a) (.ref b)) Q E s := by
  refine ne_strsK ⟨_, N.get ha, rfl, _, rfl⟩ (strs_snoc hv y t) ⟨_, N.get hb, rfl, _, rfl⟩ .nil ok (fun _ h => (nomatch h)) hu ?_
  simpa using h
theorem eq_snocK {news : List (Addr × Obj)} {a b : Addr} {vs : List Value} {ks : List Str} {y : Str} {t : Tok} {n n' : Nat} {Q : Value → Shared → Prop} (N : News h₀ L s.heap news) (ha : (a, listOf (vs ++ [Value.str y t]).toArray n) ∈ news) (hv : StrsAre vs ks) (hb : (b, listOf ([] : List Value).toArray n') ∈ news)
    (ok : ∀ k ∈ ks ++ [y], PyData.strOk k = true) (hu : A.units + 64 < cLine) (h : Q (.bool false) s) : wpAny (model prog w) A (compareOp .Eq (.ref a) (.ref b)) Q E s := by
  refine eq_strsK ⟨_, N.get ha, rfl, _, rfl⟩ (strs_snoc hv y t) ⟨_, N.get hb, rfl, _, rfl⟩ .nil ok (fun _ h => (nomatch h)) hu ?_
  simpa using h
theorem ne_bothK {news : List (Addr × Obj)} {a b : Addr} {n n' : Nat} {Q : Value → Shared → Prop} (N : News h₀ L s.heap news) (ha : (a, listOf ([] : List Value).toArray n) ∈ news) (hb : (b, listOf ([] : List Value).toArray n') ∈ news) (hu : A.units + 64 < cLine) (h : Q (.bool false) s) : wpAny (model prog w) A (compareOp .NotEq (.ref a) (.ref b)) Q E s := by
  refine ne_strsK ⟨_, N.get ha, rfl, _, rfl⟩ .nil ⟨_, N.get hb, rfl, _, rfl⟩ .nil (fun _ h => (nomatch h)) (fun _ h => (nomatch h)) hu ?_
  simpa using h
theorem eq_bothK {news : List (Addr × Obj)} {a b : Addr} {n n' : Nat} {Q : Value → Shared → Prop} (N : News h₀ L s.heap news) (ha : (a, listOf ([] : List Value).toArray n) ∈ news) (hb : (b, listOf ([] : List Value).toArray n') ∈ news) (hu : A.units + 64 < cLine) (h : Q (.bool true) s) : wpAny (model prog w) A (compareOp .Eq (.ref a) (.ref b)) Q E s := by
  refine eq_strsK ⟨_, N.get ha, rfl, _, rfl⟩ .nil ⟨_, N.get hb, rfl, _, rfl⟩ .nil (fun _ h => (nomatch h)) (fun _ h => (nomatch h)) hu ?_
  simpa using h
def SameAt (h₀ : Heap) (L : Addr) (m₀ : Str → Option Value) (led : List (Addr × Obj)) (s s₂ : Shared) : Prop := ∃ h' tk' all, s₂ = { s with heap := h', toks := tk' } ∧ Fr h₀ L h' m₀ ∧ News h₀ L h' all ∧ ∀ p ∈ led, p ∈ all
theorem SameAt.intro {led all : List (Addr × Obj)} {h' : Heap} {tk' : Nat} (F : Fr h₀ L h' m₀) (N : News h₀ L h' all) (hs : ∀ p ∈ led, p ∈ all) : SameAt h₀ L m₀ led s { s with heap := h', toks := tk' } := ⟨h', tk', all, rfl, F, N, hs⟩
def PopEnd (h₀ : Heap) (L : Addr) (m₀ : Str → Option Value) (R : Addr) (nws : List (Addr × Obj)) (rv' : List Value) (s : Shared) (f : Flow) (s₂ : Shared) : Prop := f = .next ∧ ∃ c', SameAt h₀ L m₀ ((R, listOf rv'.toArray c') :: nws) s s₂
theorem PopEnd.intro {R : Addr} {rv' : List Value} {c' : Nat} {all : List (Addr × Obj)} {h' : Heap} {tk' : Nat} (F : Fr h₀ L h' m₀) (N : News h₀ L h' all) (h1 : (R, listOf rv'.toArray c') ∈ all) (hs : ∀ p ∈ nws, p ∈ all) : PopEnd h₀ L m₀ R nws rv' s .next { s with heap := h', toks := tk' } :=
  ⟨rfl, c', SameAt.intro F N fun p hp => (List.mem_cons.mp hp).elim (fun e => e ▸ h1) (hs p)⟩
theorem while_pop {test : PySem.Expr} {body : List Stmt} {pos : Pos} {Q : Flow → Shared → Prop} {rv : List Value} {rs : List Str} {c₀ : Nat} (x : Str)
    (F : Fr h₀ L s.heap m₀) (N : News h₀ L s.heap ((R, listOf rv.toArray c₀) :: nws)) (hr : StrsAre rv rs) (hl : rs.length ≤ 100) (ok : ∀ k ∈ rs, PyData.strOk k = true)
    (turn0 : ∀ h tk c, Fr h₀ L h m₀ → News h₀ L h ((R, listOf ([] : List Value).toArray c) :: nws) →
      wpAny (model prog w) A (isTrue test env (eval test env)) (fun b s₂ => b = false ∧ SameAt h₀ L m₀ ((R, listOf ([] : List Value).toArray c) :: nws) s s₂) E { s with heap := h, toks := tk })
    (turn1 : ∀ h tk c rv' rs' y t, StrsAre rv' rs' → rv'.length ≤ 100 → (∀ k ∈ rs' ++ [y], PyData.strOk k = true) → Fr h₀ L h m₀ → News h₀ L h ((R, listOf (rv' ++ [Value.str y t]).toArray c) :: nws) →
      wpAny (model prog w) A (isTrue test env (eval test env)) (fun b s₂ => b = (y == x) ∧ SameAt h₀ L m₀ ((R, listOf (rv' ++ [Value.str y t]).toArray c) :: nws) s s₂) E { s with heap := h, toks := tk })
    (bodyW : ∀ h tk c rv' y t, rv'.length ≤ 100 → Fr h₀ L h m₀ → News h₀ L h ((R, listOf (rv' ++ [Value.str y t]).toArray c) :: nws) →
      wpAny (model prog w) A (execs body env) (PopEnd h₀ L m₀ R nws rv' s) E { s with heap := h, toks := tk })
    (done : ∀ h tk c rv', StrsAre rv' (stripS x rs) → Fr h₀ L h m₀ → News h₀ L h ((R, listOf rv'.toArray c) :: nws) → Q .next { s with heap := h, toks := tk })
    (hE : PassesOwn (model prog w) A env E := by passes_own) :
    wpAny (model prog w) A (exec (.While test body [] pos) env) Q E s := by
  refine While_inv2 (fun n m nx => m = m₀ ∧ ∃ rv' rs' c, nx = (R, listOf rv'.toArray c) :: nws ∧ StrsAre rv' rs' ∧ rs'.length = n ∧ rs'.length ≤ 100 ∧ stripS x rs' = stripS x rs ∧ ∀ k ∈ rs', PyData.strOk k = true) F N ⟨rfl, rv, rs, c₀, rfl, hr, rfl, hl, rfl, ok⟩ ?_ hE
  rintro n m₁ nx h tk F₁ N₁ ⟨rfl, rv', rs', c, rfl, hr', hn, hl', hst, ok'⟩
  rcases List.eq_nil_or_concat rs' with rfl | ⟨rs2, y, e⟩
  · cases hr'
    refine wpAny_mono (turn0 h tk c F₁ N₁) (fun b s₂ hb => ?_) fun _ _ e => e
    obtain ⟨rfl, h', tk', all, rfl, F', N', hs⟩ := hb
    simp only [Bool.false_eq_true, if_false]
    exact done h' tk' c [] (by rw [← hst]; exact .nil) F' fun p hp => N' p (hs p hp)
  · rw [List.concat_eq_append] at e
    subst e
    obtain ⟨rv2, t, rfl, hr2⟩ := strs_unsnoc hr'
    have hlen := strs_length hr2
    have hl2 : rv2.length ≤ 100 := by rw [hlen]; simp at hl'; omega
    refine wpAny_mono (turn1 h tk c rv2 rs2 y t hr2 hl2 ok' F₁ N₁) (fun b s₂ hb => ?_) fun _ _ e => e
    obtain ⟨rfl, h', tk', all, rfl, F', N', hs⟩ := hb
    have N'' := fun p hp => N' p (hs p hp)
    cases hyx : (y == x) with
    | false =>
      simp only [Bool.false_eq_true, if_false]
      refine done h' tk' c _ ?_ F' N''
      rw [← hst, stripS_snoc, hyx]
      exact hr'
    | true =>
      simp only [if_true]
      refine wpAny_mono (bodyW h' tk' c rv2 y t hl2 F' N'') (fun f s₃ hf => ?_) fun _ _ e => e
      obtain ⟨rfl, c', h3, tk3, all3, rfl, F3, N3, hs3⟩ := hf
      refine ⟨h3, tk3, m₁, _, rs2.length, rfl, F3, fun p hp => N3 p (hs3 p hp), ?_, rfl, rv2, rs2, c', rfl, hr2, rfl, by simp at hl'; omega, ?_, fun k hk => ok' k (List.mem_append_left _ hk)⟩
      · rw [← hn]; simp
      · rw [← hst, stripS_snoc, hyx]; rfl
end
end Genpart
section Gen2part
theorem CutTo.go {M : Model} {A : Around} {env : Env} {Q : Flow → Shared → Prop} {E : Value → Shared → Prop} {h₀ : Heap} {L : Addr} {m : Str → Option Value} {news all : List (Addr × Obj)} {P : Prop} {σ : Shared} {rest : List Stmt} {h' : Heap} {tk : Nat}
    (c : CutTo M A env Q E h₀ L m news P σ rest) (F : Fr h₀ L h' m) (N : News h₀ L h' all) (hs : ∀ p ∈ news, p ∈ all) (p : P) : wpAny M A (execs rest env) Q E { σ with heap := h', toks := tk } := c h' tk all p F N hs
/-- a cut whose ledger is told by a word -/
def CutG (M : Model) (A : Around) (env : Env) (Q : Flow → Shared → Prop) (E : Value → Shared → Prop) (h₀ : Heap) (L : Addr) (m : Str → Option Value) (P : List (Addr × Obj) → Prop) (σ : Shared) (rest : List Stmt) : Prop :=
  ∀ h' tk all, P all → Fr h₀ L h' m → News h₀ L h' all → wpAny M A (execs rest env) Q E { σ with heap := h', toks := tk }
theorem cutG {M : Model} {A : Around} {env : Env} {Q : Flow → Shared → Prop} {E : Value → Shared → Prop} {h₀ : Heap} {L : Addr} {m : Str → Option Value} {news : List (Addr × Obj)} {σ : Shared} {s1 : Stmt} {rest : List Stmt} (F : Fr h₀ L σ.heap m) (_ : News h₀ L σ.heap news) (P : List (Addr × Obj) → Prop)
    (hrest : ∀ h' tk all, P all → Fr h₀ L h' m → News h₀ L h' all → wpAny M A (execs rest env) Q E { σ with heap := h', toks := tk })
    (h : ∀ rest', CutG M A env Q E h₀ L m P σ rest' → wpAny M A (execs (s1 :: rest') env) Q E σ) : wpAny M A (execs (s1 :: rest) env) Q E σ :=
  let _ := F
  h rest hrest
theorem CutG.go {M : Model} {A : Around} {env : Env} {Q : Flow → Shared → Prop} {E : Value → Shared → Prop} {h₀ : Heap} {L : Addr} {m : Str → Option Value} {all : List (Addr × Obj)} {P : List (Addr × Obj) → Prop} {σ : Shared} {rest : List Stmt} {h' : Heap} {tk : Nat}
    (c : CutG M A env Q E h₀ L m P σ rest) (F : Fr h₀ L h' m) (N : News h₀ L h' all) (p : P all) : wpAny M A (execs rest env) Q E { σ with heap := h', toks := tk } := c h' tk all p F N
/-- a call that gives a bool back and leaves the caller's frame and ledger as they were -/
theorem end_b {h₀ : Heap} {L L' : Addr} {m m' : Str → Option Value} {news : List (Addr × Obj)} {s : Shared} {Q : Value → Shared → Prop} {b v : Bool} {h' : Heap} {tk : Nat} (F' : Fr s.heap L' h' m') (F : Fr h₀ L s.heap m) (N : News h₀ L s.heap news)
    (hret : ∀ h' tk', s.heap.StaysIn h' → Fr h₀ L h' m → News h₀ L h' news → Q (.bool v) { s with heap := h', toks := tk' }) (e : b = v) : Q (.bool b) { s with heap := h', toks := tk } := by
  subst e
  exact hret h' tk F'.keep (fr_grow F F'.keep) (news_grow N F'.keep)
theorem eq_pickK {prog : Program} {w : World} {A : Around} {E : Value → Shared → Prop} {s : Shared} {h₀ : Heap} {L a b : Addr} {news : List (Addr × Obj)} {vs us : List Value} {ks ms : List Str} {n n' : Nat} {Q : Value → Shared → Prop} (N : News h₀ L s.heap news) (ha : (a, listOf vs.toArray n) ∈ news) (hv : StrsAre vs ks) (hb : (b, listOf us.toArray n') ∈ news) (hv' : StrsAre us ms)
    (ok : ∀ k ∈ ks, PyData.strOk k = true) (ok' : ∀ k ∈ ms, PyData.strOk k = true) (hu : A.units + 64 < cLine) (h : Q (.bool (decide (ks = ms))) s) : wpAny (model prog w) A (compareOp .Eq (.ref a) (.ref b)) Q E s :=
  eq_strsK ⟨_, N.get ha, rfl, _, rfl⟩ hv ⟨_, N.get hb, rfl, _, rfl⟩ hv' ok ok' hu h
theorem isBreakS_eq {ks A Bh : List Str} {near far : Str} {pl : Int} (hge : (aheadS ks pl).length + (behindS ks pl).length ≥ (unitsS ks).length) (eA : aheadS ks pl = A ++ [near]) (eB : behindS ks pl = far :: Bh) :
    isBreakS ks pl = if near == Str.ofString "CR" && far == Str.ofString "LF" then false else if isPara near then true
      else if near == Str.ofString "ATerm" && (far == Str.ofString "Numeric" || (far == Str.ofString "Upper" && (decide (pickS (A ++ [near]) (some (-2)) (some (-1)) = [Str.ofString "Upper"]) || decide (pickS (A ++ [near]) (some (-2)) (some (-1)) = [Str.ofString "Lower"])))) then false else tailS (A ++ [near]) (far :: Bh) := by
  have h1 : ¬ (aheadS ks pl).length + (behindS ks pl).length < (unitsS ks).length := Nat.not_lt.mpr hge
  unfold isBreakS
  rw [if_neg h1, eA, eB]
  unfold edgeS
  rw [pick_second]
  simp
theorem tailS_nil {A B : List Str} (h : stripS (Str.ofString "Close") (stripS (Str.ofString "Sp") A) = []) : tailS A B = false := by
  unfold tailS; simp only [h]; rfl
theorem tailS_snoc {A B R : List Str} {z : Str} (h : stripS (Str.ofString "Close") (stripS (Str.ofString "Sp") A) = R ++ [z]) : tailS A B = if !isTerm z then false
    else if z == Str.ofString "ATerm" && decide (pickS (B.filter isLetterS) none (some 1) = [Str.ofString "Lower"]) then false
    else !(isStayS (B.headD (Str.ofString "")) || (B.headD (Str.ofString "") == Str.ofString "Close" && !decide ((stripS (Str.ofString "Sp") A).length < A.length))) := by
  unfold tailS
  simp only [h]
  rw [pick_first]
  simp
end Gen2part
section V1part
theorem lines1 : True := by
  k_with_none
  (k_with "k_inst" => exact IsInst.at (by assumption) (by k_asm))
  (k_with "compareOp In str ref" => (k_here; (first | (with_reducible refine' in_22 ?Fq2w ?Xq2w ?_) | (with_reducible refine' in_23 ?Fq2w ?Xq2w ?_) | (with_reducible refine' in_24 ?Fq2w ?Xq2w ?_) | (with_reducible refine' in_25 ?Fq2w ?Xq2w ?_) | (with_reducible refine' in_26 ?Fq2w ?Xq2w ?_)); (case Fq2w => k_asm); (case Xq2w => k_asm); k_whole))
  (k_with "compareOp NotIn str ref" => (k_here; (with_reducible refine' notin_22 ?Fq3w ?Xq3w ?_); (case Fq3w => k_asm); (case Xq3w => k_asm); k_whole))
  (k_with "exec For Tuple Call cons nil" => (k_here; (rename Fr _ _ _ _ => lFzz); (with_unfolding_all refine' For_turns lFzz ?_; k_whole)))
  (k_with "call type:enumerate" => (k_here; (with_reducible show wpAny _ _ (call (Value.type _) [Value.ref _]) (fun xv s₁ => wpAny _ _ (pyIter xv) (fun it s₂ => TurnsAt _ _ _ _ _ _ _ _ _ it s₂) _ s₁) _ _); refine halt_ ?_))
  (k_with "TurnPost" => (dsimp only [TurnPost]))
  (k_with "compareOp In str ref" => (k_here; k_dflt (first | (refine' in_made isHang ?Nq7w ?mq7w ?iq7w ?pq7w ?_; (case Nq7w => k_asm); (case mq7w => k_mem); (case iq7w => repeat constructor); (case pq7w => rfl); k_whole) | (refine' in_made isPara ?Nq7w ?mq7w ?iq7w ?pq7w ?_; (case Nq7w => k_asm); (case mq7w => k_mem); (case iq7w => repeat constructor); (case pq7w => rfl); k_whole) | (refine' in_made isLetterS ?Nq7w ?mq7w ?iq7w ?pq7w ?_; (case Nq7w => k_asm); (case mq7w => k_mem); (case iq7w => repeat constructor); (case pq7w => rfl); k_whole) | (refine' in_made isStayS ?Nq7w ?mq7w ?iq7w ?pq7w ?_; (case Nq7w => k_asm); (case mq7w => k_mem); (case iq7w => repeat constructor); (case pq7w => rfl); k_whole))))
  (k_with "compareOp NotIn str ref" => (k_here; k_dflt (first | (refine' notin_made isTerm ?Nq8w ?mq8w ?iq8w ?pq8w ?_; (case Nq8w => k_asm); (case mq8w => k_mem); (case iq8w => repeat constructor); (case pq8w => rfl); k_whole) | (refine' notin_made isPara ?Nq8w ?mq8w ?iq8w ?pq8w ?_; (case Nq8w => k_asm); (case mq8w => k_mem); (case iq8w => repeat constructor); (case pq8w => rfl); k_whole))))
  (k_with "compareOp NotEq ref ref" => (k_here; k_dflt (refine' ne_unitsK ?Nq9w ?aq9w ?uq9w ?sq9w ?bq9w ?oq9w ?rq9w ?_; (case Nq9w => k_asm); (case aq9w => k_mem); (case uq9w => assumption); (case sq9w => kcf_all); (case bq9w => k_mem); (case oq9w => assumption); (case rq9w => ktr_units); k_whole)))
  (k_with "subscriptTail" => (k_here; (with_reducible show wpAny _ _ (subscriptTail _ _ (Value.ref _) (Value.int (-1) _)) _ _ _); k_dflt (refine' item_lastN ?Nq10w ?aq10w ?_ ?hq10w; (case Nq10w => k_asm); (case aq10w => k_mem); (case hq10w => with_unfolding_all rfl); k_whole)))
  (k_with "subscriptTail" => (k_here; (first | ((with_reducible show wpAny _ _ (subscriptTail _ _ (Value.ref _) (Value.int 0 _)) _ _ _); k_dflt (refine' item3_0 ?Nq11w ?aq11w ?sq11w ?_ ?hq11w; (case Nq11w => k_asm); (case aq11w => with_reducible assumption); (case sq11w => kcf_all); (case hq11w => with_unfolding_all rfl); k_whole)) | ((with_reducible show wpAny _ _ (subscriptTail _ _ (Value.ref _) (Value.int 1 _)) _ _ _); k_dflt (refine' item3_1 ?Nq11w ?aq11w ?sq11w ?_ ?hq11w; (case Nq11w => k_asm); (case aq11w => with_reducible assumption); (case sq11w => kcf_all); (case hq11w => with_unfolding_all rfl); k_whole)) | ((with_reducible show wpAny _ _ (subscriptTail _ _ (Value.ref _) (Value.int 2 _)) _ _ _); k_dflt (refine' item3_2 ?Nq11w ?aq11w ?sq11w ?_ ?hq11w; (case Nq11w => k_asm); (case aq11w => with_reducible assumption); (case sq11w => kcf_all); (case hq11w => with_unfolding_all rfl); k_whole)))))
  (k_with "setItem ref int ref" => (k_here; k_dflt (refine' setLast_K ?Fq12w ?Nq12w ?Uq12w ?_; (case Fq12w => k_asm); (case Nq12w => k_asm); (case Uq12w => k_upd); k_whole); intro _ _ _; (try k_sweep)))
  (k_with "k_all" => assumption)
  (k_with "size_fits" => ((rw [PySem.sizeLine_eq]); (simp only [List.size_toArray, List.length_append, List.length_cons, List.length_nil]); omega))
  (k_with "CompSrcT" => (k_here; k_dflt (refine' LCt.CompSrcT.ledger ?hhq15w ?Fq15w ?Nq15w ?mq15w ?zq15w ?_; (case hhq15w => exact rfl); (case Fq15w => k_asm); (case Nq15w => k_asm); (case mq15w => k_mem); (case zq15w => size_fits)); intro _; refine halt_ ?_))
  (k_with "exec Assign cons ListComp" => (k_here; lct_look; k_dflt (refine LCt.Assign_ListComp_T (F₀ := by k_asm) (by rfl) (by with_unfolding_all rfl) (by with_unfolding_all rfl) (by decide) (by rfl) (by decide) (by rfl) (by rfl) (by rfl) ?_)))
  (k_with "CompEnd" => (refine LCg.CompEnd.intro (by assumption) (by assumption) _ (fun _ h9 => h9) (by first | assumption | (simp only [LCg.Off3, and_true]; assumption)) (by lcg_src) ?_; first | exact ⟨⟨_, rfl⟩, rfl, by first | assumption | exact decide_eq_true (by assumption)⟩ | exact ⟨rfl, by first | assumption | exact decide_eq_false (by assumption)⟩))
  (k_with "call builtin:len" => (k_here; (with_reducible show wpAny _ _ (call (Value.builtin "len") [Value.ref _]) _ _ _); k_dflt (refine' kst_len ?k1q18w ?k2q18w ?k3q18w ?k4q18w ?_; (case k1q18w => k_asm); (case k2q18w => k_mem); (case k3q18w => exact rfl); (case k4q18w => omega); k_whole)))
  (k_with "subscriptTail Name Slice ref ref" => (k_here; (with_reducible show wpAny _ _ (subscriptTail _ (PySem.Expr.Slice _ _ none _) (Value.ref _) (Value.ref _)) _ _ _); k_dflt (refine' slice_K ?Fq19w ?Nq19w ?lq19w ?pq19w ?qq19w ?_ ?sq19w ?tq19w ?zq19w; (case Fq19w => k_asm); (case Nq19w => k_asm); (case lq19w => first | exact News.isList (by k_asm) (by k_mem) | exact listBase (by k_asm) (by assumption)); (case pq19w => kmk_part); (case qq19w => kmk_part); (case sq19w => with_unfolding_all rfl); (case tq19w => kmk_pure); (case zq19w => size_fits)); intro _ _ _ Nzz l1zz; (try k_lt l1zz); (try dsimp only at Nzz); (try k_sweep)))
  (k_with "compareOp In ref ref" => (k_here; k_dflt (refine' in_two ?Nq20w ?xq20w ?vq20w ?tq20w ?aq20w ?vaq20w ?bq20w ?vbq20w ?okq20w ?okaq20w ?okbq20w ?uq20w ?_; (case Nq20w => k_asm); (case xq20w => k_mem); (case vq20w => exact strs_pick (by assumption)); (case tq20w => k_mem); (case aq20w => k_mem); (case vaq20w => exact .cons _ _ .nil); (case bq20w => k_mem); (case vbq20w => exact .cons _ _ .nil); (case okq20w => exact pick_sub (by assumption)); (case okaq20w => decide +kernel); (case okbq20w => decide +kernel); (case uq20w => ktr_units); k_whole)))
  (k_with "exec While" => (k_here; refine halt_ ?_))
  (k_with "compareOp NotEq ref ref" => (k_here; k_dflt (first | (refine' ne_bothK ?Nq22w ?aq22w ?bq22w ?uq22w ?_; (case Nq22w => k_asm); (case aq22w => k_mem); (case bq22w => k_mem); (case uq22w => ktr_units); k_whole) | (refine' ne_snocK ?Nq22w ?aq22w ?vq22w ?bq22w ?oq22w ?uq22w ?_; (case Nq22w => k_asm); (case aq22w => k_mem); (case vq22w => assumption); (case bq22w => k_mem); (case oq22w => assumption); (case uq22w => ktr_units); k_whole))))
  (k_with "compareOp Eq ref ref" => (k_here; k_dflt (first | (refine' eq_bothK ?Nq23w ?aq23w ?bq23w ?uq23w ?_; (case Nq23w => k_asm); (case aq23w => k_mem); (case bq23w => k_mem); (case uq23w => ktr_units); k_whole) | (refine' eq_snocK ?Nq23w ?aq23w ?vq23w ?bq23w ?oq23w ?uq23w ?_; (case Nq23w => k_asm); (case aq23w => k_mem); (case vq23w => assumption); (case bq23w => k_mem); (case oq23w => assumption); (case uq23w => ktr_units); k_whole))))
  (k_with "call builtin:list.pop" => (k_here; (with_reducible show wpAny _ _ (call (Value.builtin _) [Value.ref _]) _ _ _); k_dflt (refine' pop_snoc ?Fq24w ?Nq24w ?Uq24w ?zq24w ?_; (case Fq24w => k_asm); (case Nq24w => k_asm); (case Uq24w => k_upd); (case zq24w => size_fits); k_whole); intro _ _ _; (try k_sweep)))
  (k_with "call ref" => (k_here; refine halt_ ?_))
  (k_with "k_ne" => (apply nn8; (try dsimp only); with_reducible ((fail_if_success show @Ne Nat 987654321 _); (fail_if_success show @Ne Nat _ 987654321); first | assumption | (apply nq1; assumption) | (apply nq2; assumption) | (apply nq3; assumption) | (apply nc1; assumption; (first | exact And.left | exact fun z => z.2.1 | exact fun z => z.2.2.1 | exact fun z => z.2.2.2.1 | exact fun z => z.2.2.2.2.1 | exact fun z => z.2.2.2.2.2.1 | exact fun z => z.2.2.2.2.2.2.1 | exact fun z => z.2.2.2.2.2.2.2.1 | exact fun z => z.2.2.2.2.2.2.2.2.1 | exact fun z => z.2.2.2.2.2.2.2.2.2.1 | exact fun z => z.2.2.2.2.2.2.2.2.2.2.1 | exact fun z => z.2.2.2.2.2.2.2.2.2.2.2.1 | exact fun z => z.2.2.2.2.2.2.2.2.2.2.2.2.1 | exact fun z => z.2.2.2.2.2.2.2.2.2.2.2.2.2.1 | exact And.right | exact fun z => z.2.2 | exact fun z => z.2.2.2 | exact fun z => z.2.2.2.2 | exact fun z => z.2.2.2.2.2 | exact fun z => z.2.2.2.2.2.2 | exact fun z => z.2.2.2.2.2.2.2 | exact fun z => z.2.2.2.2.2.2.2.2 | exact fun z => z.2.2.2.2.2.2.2.2.2 | exact fun z => z.2.2.2.2.2.2.2.2.2.2 | exact fun z => z.2.2.2.2.2.2.2.2.2.2.2 | exact fun z => z.2.2.2.2.2.2.2.2.2.2.2.2 | exact fun z => z.2.2.2.2.2.2.2.2.2.2.2.2.2)) | (apply nc2; assumption; (first | exact And.left | exact fun z => z.2.1 | exact fun z => z.2.2.1 | exact fun z => z.2.2.2.1 | exact fun z => z.2.2.2.2.1 | exact fun z => z.2.2.2.2.2.1 | exact fun z => z.2.2.2.2.2.2.1 | exact fun z => z.2.2.2.2.2.2.2.1 | exact fun z => z.2.2.2.2.2.2.2.2.1 | exact fun z => z.2.2.2.2.2.2.2.2.2.1 | exact fun z => z.2.2.2.2.2.2.2.2.2.2.1 | exact fun z => z.2.2.2.2.2.2.2.2.2.2.2.1 | exact fun z => z.2.2.2.2.2.2.2.2.2.2.2.2.1 | exact fun z => z.2.2.2.2.2.2.2.2.2.2.2.2.2.1 | exact And.right | exact fun z => z.2.2 | exact fun z => z.2.2.2 | exact fun z => z.2.2.2.2 | exact fun z => z.2.2.2.2.2 | exact fun z => z.2.2.2.2.2.2 | exact fun z => z.2.2.2.2.2.2.2 | exact fun z => z.2.2.2.2.2.2.2.2 | exact fun z => z.2.2.2.2.2.2.2.2.2 | exact fun z => z.2.2.2.2.2.2.2.2.2.2 | exact fun z => z.2.2.2.2.2.2.2.2.2.2.2 | exact fun z => z.2.2.2.2.2.2.2.2.2.2.2.2 | exact fun z => z.2.2.2.2.2.2.2.2.2.2.2.2.2)) | (apply nc3; assumption; (first | exact And.left | exact fun z => z.2.1 | exact fun z => z.2.2.1 | exact fun z => z.2.2.2.1 | exact fun z => z.2.2.2.2.1 | exact fun z => z.2.2.2.2.2.1 | exact fun z => z.2.2.2.2.2.2.1 | exact fun z => z.2.2.2.2.2.2.2.1 | exact fun z => z.2.2.2.2.2.2.2.2.1 | exact fun z => z.2.2.2.2.2.2.2.2.2.1 | exact fun z => z.2.2.2.2.2.2.2.2.2.2.1 | exact fun z => z.2.2.2.2.2.2.2.2.2.2.2.1 | exact fun z => z.2.2.2.2.2.2.2.2.2.2.2.2.1 | exact fun z => z.2.2.2.2.2.2.2.2.2.2.2.2.2.1 | exact And.right | exact fun z => z.2.2 | exact fun z => z.2.2.2 | exact fun z => z.2.2.2.2 | exact fun z => z.2.2.2.2.2 | exact fun z => z.2.2.2.2.2.2 | exact fun z => z.2.2.2.2.2.2.2 | exact fun z => z.2.2.2.2.2.2.2.2 | exact fun z => z.2.2.2.2.2.2.2.2.2 | exact fun z => z.2.2.2.2.2.2.2.2.2.2 | exact fun z => z.2.2.2.2.2.2.2.2.2.2.2 | exact fun z => z.2.2.2.2.2.2.2.2.2.2.2.2 | exact fun z => z.2.2.2.2.2.2.2.2.2.2.2.2.2)) | (apply nc4; assumption; (first | exact And.left | exact fun z => z.2.1 | exact fun z => z.2.2.1 | exact fun z => z.2.2.2.1 | exact fun z => z.2.2.2.2.1 | exact fun z => z.2.2.2.2.2.1 | exact fun z => z.2.2.2.2.2.2.1 | exact fun z => z.2.2.2.2.2.2.2.1 | exact fun z => z.2.2.2.2.2.2.2.2.1 | exact fun z => z.2.2.2.2.2.2.2.2.2.1 | exact fun z => z.2.2.2.2.2.2.2.2.2.2.1 | exact fun z => z.2.2.2.2.2.2.2.2.2.2.2.1 | exact fun z => z.2.2.2.2.2.2.2.2.2.2.2.2.1 | exact fun z => z.2.2.2.2.2.2.2.2.2.2.2.2.2.1 | exact And.right | exact fun z => z.2.2 | exact fun z => z.2.2.2 | exact fun z => z.2.2.2.2 | exact fun z => z.2.2.2.2.2 | exact fun z => z.2.2.2.2.2.2 | exact fun z => z.2.2.2.2.2.2.2 | exact fun z => z.2.2.2.2.2.2.2.2 | exact fun z => z.2.2.2.2.2.2.2.2.2 | exact fun z => z.2.2.2.2.2.2.2.2.2.2 | exact fun z => z.2.2.2.2.2.2.2.2.2.2.2 | exact fun z => z.2.2.2.2.2.2.2.2.2.2.2.2 | exact fun z => z.2.2.2.2.2.2.2.2.2.2.2.2.2)))))
  (k_with "k_upd" => first | (apply uh8; k_all) | (apply ut8; k_ne; k_upd))
  (k_with "k_updF" => first | (apply fh8; k_all) | (apply ft8; k_ne; k_updF))
  (k_with "k_all" => first | exact List.forall_mem_nil _ | (apply an8; k_ne; k_all))
  (k_with "kcf_all" => first | exact fun _ hp => hp | (apply sb8; (focus kcf_m); kcf_all))
  (k_with "ktr_units" => first | exact uu2 hu rfl | exact uu1 hu rfl | exact uu3 hu rfl | exact uu4 hu rfl)
  (k_with "ktr_room" => first | exact uu2 hdp rfl | exact uu1 hdp rfl | exact uu3 hdp rfl | exact uu4 hdp rfl)
  (k_with "subscriptTail Name UnaryOp ref int" => k_extra "subscriptTail")
  exact trivial
def vS7 (kind : Str) : Str := if kind == Str.ofString "Lower" then Str.ofString "none" else Str.ofString "wait"
def vS6 (c : St) (kind : Str) : Str := if c.term == Str.ofString "STerm" || kind == Str.ofString "OLetter" || kind == Str.ofString "Upper" then Str.ofString "break" else vS7 kind
def vS5 (c : St) (kind : Str) : Str := if kind == Str.ofString "Close" && !c.spaced then Str.ofString "none" else vS6 c kind
def vS4 (c : St) (kind : Str) : Str := if c.term == Str.ofString "" || kind == Str.ofString "SContinue" || isTerm kind || kind == Str.ofString "Sp" || isPara kind then Str.ofString "none" else vS5 c kind
def vS3 (c : St) (kind : Str) : Str := if c.bas == Str.ofString "ATerm" && (kind == Str.ofString "Numeric" || (kind == Str.ofString "Upper" && isCased c.prior)) then Str.ofString "none" else vS4 c kind
def vS2 (c : St) (kind : Str) : Str := if isHang kind then Str.ofString "none" else vS3 c kind
def vS1 (c : St) (kind : Str) : Str := if isPara c.last then (if c.last == Str.ofString "CR" && kind == Str.ofString "LF" then Str.ofString "none" else Str.ofString "break") else vS2 c kind
theorem verdictS_0 (c : St) (kind : Str) : verdictS c kind = if c.pos = 0 then Str.ofString "break" else vS1 c kind := rfl
set_option maxRecDepth 100000 in
set_option maxHeartbeats 8000000 in
theorem C_verdict {w : World} {mean : ExcName → Option Value} {mg mb : Str → Option Value} {dp un : Nat} {gd : Option (List Code)} {cn : Str} {cs : Scope} {a : Addr} {ccd : Value} {cl : List (Str × Addr)} {outer : List Env} {A₀ : Around} {base h₀ : Heap} {L : Addr} {m : Str → Option Value} {s : Shared} {Q E : Value → Shared → Prop} (B : Below A₀ base outer h₀) (F : Fr h₀ L s.heap m) (X : (hd.heap_1 w.params).In h₀) (T : (Top view9 (looseW view9 []) mean mg mb h₀)) (hk : cs.kind = .function) {x dx d : Addr} {c : St} {es : List DictEntry} {kind : Str} {tk : Tok} {n : Nat} {news : List (Addr × Obj)}
    (N : News h₀ L s.heap news) (I : IsInst s.heap x 76 dx es n) (S : SIs w d c es)
    (hdp : dp + 4 < recursionLimit) (hu : un + 40 < cLine)
    (hret : ∀ t' h' tk', s.heap.StaysIn h' → Fr h₀ L h' m → News h₀ L h' news → Q (.str (verdictS c kind) t') { s with heap := h', toks := tk' }) :
    wpAny (model PySem.Challenge.rw_on0369_01.row.prog w) (ktrTop dp un gd cn cs L a ccd cl outer) (call (.ref 47) [.ref x, .str kind tk]) Q E s := by
  w_top off
  refine SIs.out S ?_
  clear S
  intro t0 t1 t2 t3 t4 t5 t6 t7 t8 t9 t10 t11 t12 t13  e9
  subst e9
  refine wpAny_call ?_
  k_dflt (refine' code_def0 ?k1 ?k2 ?k3 ?k5 ?kA ?kF ?kK ?k6 ?k7 ?k8 ?k9 ?kB ?_ ?c2 ?c3 ?c4 ?c5; (case kA => exact rfl); (case kF => exact rfl); (case kK => assumption); (case k1 => k_asm); (case k2 => k_asm); (case k3 => k_asm); (case k5 => k_asm); (case k6 => k_is); (case k7 => k_is); (case k8 => ktr_room); (case k9 => exact BindsTo.of_eq rfl); (case c5 => decide); (case kB => exact locs rfl); (case c2 => exact rfl); (case c3 => exact rfl); (case c4 => exact rfl); k_whole; intro L' h' F' N' B' X' T'; (try dsimp only); (try k_fold); refine toks_any fun tk9 => ?_; refine let_fr F' ?_; clear F'; intro m9 F'; refine let_A ?_; intro A9)
  have hP := verdictS_0 c kind
  refine cut1S F' N' (verdictS c kind = vS1 c kind) ?_ ?_
  rotate_left
  · intro rest' hrest
    k_steps
    all_goals first
      | (refine ret_s (y := verdictS c kind) ?_ (hret _ _ _ (by assumption : Fr s.heap _ _ _).keep (fr_grow F (by assumption : Fr s.heap _ _ _).keep) (news_grow N (by assumption : Fr s.heap _ _ _).keep)); rw [hP]; (try clear hrest); clear hret B F X T N I B' X' T' qk ek; simp [*]; done)
      | (refine CutTo.go hrest (by assumption) (by assumption) (by kcf_all) ?_; rw [hP]; clear hret B F X T N I B' X' T' qk ek hrest; simp [*]; done)
  intro h2 tk2 hP F2 N2
  refine cut1S F2 N2 (verdictS c kind = vS2 c kind) ?_ ?_
  rotate_left
  · intro rest' hrest
    k_steps
    all_goals first
      | (refine ret_s (y := verdictS c kind) ?_ (hret _ _ _ (by assumption : Fr s.heap _ _ _).keep (fr_grow F (by assumption : Fr s.heap _ _ _).keep) (news_grow N (by assumption : Fr s.heap _ _ _).keep)); rw [hP]; (try clear hrest); clear hret B F X T N I B' X' T' qk ek; simp [vS1, *]; done)
      | (refine CutTo.go hrest (by assumption) (by assumption) (by kcf_all) ?_; rw [hP]; clear hret B F X T N I B' X' T' qk ek hrest; simp [vS1, *]; done)
  intro h3 tk3 hP F3 N3
  clear F2 N2
  refine cut1S F3 N3 (verdictS c kind = vS3 c kind) ?_ ?_
  rotate_left
  · intro rest' hrest
    k_steps
    all_goals first
      | (refine ret_s (y := verdictS c kind) ?_ (hret _ _ _ (by assumption : Fr s.heap _ _ _).keep (fr_grow F (by assumption : Fr s.heap _ _ _).keep) (news_grow N (by assumption : Fr s.heap _ _ _).keep)); rw [hP]; (try clear hrest); clear hret B F X T N I B' X' T' qk ek; simp [vS2, *]; done)
      | (refine CutTo.go hrest (by assumption) (by assumption) (by kcf_all) ?_; rw [hP]; clear hret B F X T N I B' X' T' qk ek hrest; simp [vS2, *]; done)
  intro h4 tk4 hP F4 N4
  clear F3 N3
  refine cut1S F4 N4 (verdictS c kind = vS4 c kind) ?_ ?_
  rotate_left
  · intro rest' hrest
    k_steps
    all_goals first
      | (refine ret_s (y := verdictS c kind) ?_ (hret _ _ _ (by assumption : Fr s.heap _ _ _).keep (fr_grow F (by assumption : Fr s.heap _ _ _).keep) (news_grow N (by assumption : Fr s.heap _ _ _).keep)); rw [hP]; (try clear hrest); clear hret B F X T N I B' X' T' qk ek; simp [vS3, *]; done)
      | (refine CutTo.go hrest (by assumption) (by assumption) (by kcf_all) ?_; rw [hP]; clear hret B F X T N I B' X' T' qk ek hrest; simp [vS3, *]; done)
  intro h5 tk5 hP F5 N5
  clear F4 N4
  refine cut1S F5 N5 (verdictS c kind = vS5 c kind) ?_ ?_
  rotate_left
  · intro rest' hrest
    k_steps
    all_goals first
      | (refine ret_s (y := verdictS c kind) ?_ (hret _ _ _ (by assumption : Fr s.heap _ _ _).keep (fr_grow F (by assumption : Fr s.heap _ _ _).keep) (news_grow N (by assumption : Fr s.heap _ _ _).keep)); rw [hP]; (try clear hrest); clear hret B F X T N I B' X' T' qk ek; simp [vS4, *]; done)
      | (refine CutTo.go hrest (by assumption) (by assumption) (by kcf_all) ?_; rw [hP]; clear hret B F X T N I B' X' T' qk ek hrest; simp [vS4, *]; done)
  intro h6 tk6 hP F6 N6
  clear F5 N5
  refine cut1S F6 N6 (verdictS c kind = vS6 c kind) ?_ ?_
  rotate_left
  · intro rest' hrest
    k_steps
    all_goals first
      | (refine ret_s (y := verdictS c kind) ?_ (hret _ _ _ (by assumption : Fr s.heap _ _ _).keep (fr_grow F (by assumption : Fr s.heap _ _ _).keep) (news_grow N (by assumption : Fr s.heap _ _ _).keep)); rw [hP]; (try clear hrest); clear hret B F X T N I B' X' T' qk ek; simp [vS5, *]; done)
      | (refine CutTo.go hrest (by assumption) (by assumption) (by kcf_all) ?_; rw [hP]; clear hret B F X T N I B' X' T' qk ek hrest; simp [vS5, *]; done)
  intro h7 tk7 hP F7 N7
  clear F6 N6
  refine cut1S F7 N7 (verdictS c kind = vS7 kind) ?_ ?_
  rotate_left
  · intro rest' hrest
    k_steps
    all_goals first
      | (refine ret_s (y := verdictS c kind) ?_ (hret _ _ _ (by assumption : Fr s.heap _ _ _).keep (fr_grow F (by assumption : Fr s.heap _ _ _).keep) (news_grow N (by assumption : Fr s.heap _ _ _).keep)); rw [hP]; (try clear hrest); clear hret B F X T N I B' X' T' qk ek; simp [vS6, *]; done)
      | (refine CutTo.go hrest (by assumption) (by assumption) (by kcf_all) ?_; rw [hP]; clear hret B F X T N I B' X' T' qk ek hrest; simp [vS6, *]; done)
  intro h8 tk8 hP F8 N8
  clear F7 N7
  (try k_fold)
  k_steps
  all_goals (refine ret_s (y := verdictS c kind) ?_ (hret _ _ _ (by assumption : Fr s.heap _ _ _).keep (fr_grow F (by assumption : Fr s.heap _ _ _).keep) (news_grow N (by assumption : Fr s.heap _ _ _).keep)); rw [hP]; (try clear hrest); clear hret B F X T N I B' X' T' qk ek; simp [vS7, *]; done)
end V1part
section V2part
theorem lines2 : True := by
  k_with_none
  (k_with "k_inst" => exact IsInst.at (by assumption) (by k_asm))
  (k_with "compareOp In str ref" => (k_here; (first | (with_reducible refine' in_22 ?Fq35w ?Xq35w ?_) | (with_reducible refine' in_23 ?Fq35w ?Xq35w ?_) | (with_reducible refine' in_24 ?Fq35w ?Xq35w ?_) | (with_reducible refine' in_25 ?Fq35w ?Xq35w ?_) | (with_reducible refine' in_26 ?Fq35w ?Xq35w ?_)); (case Fq35w => k_asm); (case Xq35w => k_asm); k_whole))
  (k_with "compareOp NotIn str ref" => (k_here; (with_reducible refine' notin_22 ?Fq36w ?Xq36w ?_); (case Fq36w => k_asm); (case Xq36w => k_asm); k_whole))
  (k_with "exec For Tuple Call cons nil" => (k_here; (rename Fr _ _ _ _ => lFzz); (with_unfolding_all refine' For_turns lFzz ?_; k_whole)))
  (k_with "call type:enumerate" => (k_here; (with_reducible show wpAny _ _ (call (Value.type _) [Value.ref _]) (fun xv s₁ => wpAny _ _ (pyIter xv) (fun it s₂ => TurnsAt _ _ _ _ _ _ _ _ _ it s₂) _ s₁) _ _); refine halt_ ?_))
  (k_with "TurnPost" => (dsimp only [TurnPost]))
  (k_with "compareOp In str ref" => (k_here; k_dflt (first | (refine' in_made isHang ?Nq40w ?mq40w ?iq40w ?pq40w ?_; (case Nq40w => k_asm); (case mq40w => k_mem); (case iq40w => repeat constructor); (case pq40w => rfl); k_whole) | (refine' in_made isPara ?Nq40w ?mq40w ?iq40w ?pq40w ?_; (case Nq40w => k_asm); (case mq40w => k_mem); (case iq40w => repeat constructor); (case pq40w => rfl); k_whole) | (refine' in_made isLetterS ?Nq40w ?mq40w ?iq40w ?pq40w ?_; (case Nq40w => k_asm); (case mq40w => k_mem); (case iq40w => repeat constructor); (case pq40w => rfl); k_whole) | (refine' in_made isStayS ?Nq40w ?mq40w ?iq40w ?pq40w ?_; (case Nq40w => k_asm); (case mq40w => k_mem); (case iq40w => repeat constructor); (case pq40w => rfl); k_whole))))
  (k_with "compareOp NotIn str ref" => (k_here; k_dflt (first | (refine' notin_made isTerm ?Nq41w ?mq41w ?iq41w ?pq41w ?_; (case Nq41w => k_asm); (case mq41w => k_mem); (case iq41w => repeat constructor); (case pq41w => rfl); k_whole) | (refine' notin_made isPara ?Nq41w ?mq41w ?iq41w ?pq41w ?_; (case Nq41w => k_asm); (case mq41w => k_mem); (case iq41w => repeat constructor); (case pq41w => rfl); k_whole))))
  (k_with "compareOp NotEq ref ref" => (k_here; k_dflt (refine' ne_unitsK ?Nq42w ?aq42w ?uq42w ?sq42w ?bq42w ?oq42w ?rq42w ?_; (case Nq42w => k_asm); (case aq42w => k_mem); (case uq42w => assumption); (case sq42w => kcf_all); (case bq42w => k_mem); (case oq42w => assumption); (case rq42w => ktr_units); k_whole)))
  (k_with "subscriptTail" => (k_here; (with_reducible show wpAny _ _ (subscriptTail _ _ (Value.ref _) (Value.int (-1) _)) _ _ _); k_dflt (refine' item_lastN ?Nq43w ?aq43w ?_ ?hq43w; (case Nq43w => k_asm); (case aq43w => k_mem); (case hq43w => with_unfolding_all rfl); k_whole)))
  (k_with "subscriptTail" => (k_here; (first | ((with_reducible show wpAny _ _ (subscriptTail _ _ (Value.ref _) (Value.int 0 _)) _ _ _); k_dflt (refine' item3_0 ?Nq44w ?aq44w ?sq44w ?_ ?hq44w; (case Nq44w => k_asm); (case aq44w => with_reducible assumption); (case sq44w => kcf_all); (case hq44w => with_unfolding_all rfl); k_whole)) | ((with_reducible show wpAny _ _ (subscriptTail _ _ (Value.ref _) (Value.int 1 _)) _ _ _); k_dflt (refine' item3_1 ?Nq44w ?aq44w ?sq44w ?_ ?hq44w; (case Nq44w => k_asm); (case aq44w => with_reducible assumption); (case sq44w => kcf_all); (case hq44w => with_unfolding_all rfl); k_whole)) | ((with_reducible show wpAny _ _ (subscriptTail _ _ (Value.ref _) (Value.int 2 _)) _ _ _); k_dflt (refine' item3_2 ?Nq44w ?aq44w ?sq44w ?_ ?hq44w; (case Nq44w => k_asm); (case aq44w => with_reducible assumption); (case sq44w => kcf_all); (case hq44w => with_unfolding_all rfl); k_whole)))))
  (k_with "setItem ref int ref" => (k_here; k_dflt (refine' setLast_K ?Fq45w ?Nq45w ?Uq45w ?_; (case Fq45w => k_asm); (case Nq45w => k_asm); (case Uq45w => k_upd); k_whole); intro _ _ _; (try k_sweep)))
  (k_with "k_all" => assumption)
  (k_with "size_fits" => ((rw [PySem.sizeLine_eq]); (simp only [List.size_toArray, List.length_append, List.length_cons, List.length_nil]); omega))
  (k_with "CompSrcT" => (k_here; k_dflt (refine' LCt.CompSrcT.ledger ?hhq48w ?Fq48w ?Nq48w ?mq48w ?zq48w ?_; (case hhq48w => exact rfl); (case Fq48w => k_asm); (case Nq48w => k_asm); (case mq48w => k_mem); (case zq48w => size_fits)); intro _; refine halt_ ?_))
  (k_with "exec Assign cons ListComp" => (k_here; lct_look; k_dflt (refine LCt.Assign_ListComp_T (F₀ := by k_asm) (by rfl) (by with_unfolding_all rfl) (by with_unfolding_all rfl) (by decide) (by rfl) (by decide) (by rfl) (by rfl) (by rfl) ?_)))
  (k_with "CompEnd" => (refine LCg.CompEnd.intro (by assumption) (by assumption) _ (fun _ h9 => h9) (by first | assumption | (simp only [LCg.Off3, and_true]; assumption)) (by lcg_src) ?_; first | exact ⟨⟨_, rfl⟩, rfl, by first | assumption | exact decide_eq_true (by assumption)⟩ | exact ⟨rfl, by first | assumption | exact decide_eq_false (by assumption)⟩))
  (k_with "call builtin:len" => (k_here; (with_reducible show wpAny _ _ (call (Value.builtin "len") [Value.ref _]) _ _ _); k_dflt (refine' kst_len ?k1q51w ?k2q51w ?k3q51w ?k4q51w ?_; (case k1q51w => k_asm); (case k2q51w => k_mem); (case k3q51w => exact rfl); (case k4q51w => omega); k_whole)))
  (k_with "subscriptTail Name Slice ref ref" => (k_here; (with_reducible show wpAny _ _ (subscriptTail _ (PySem.Expr.Slice _ _ none _) (Value.ref _) (Value.ref _)) _ _ _); k_dflt (refine' slice_K ?Fq52w ?Nq52w ?lq52w ?pq52w ?qq52w ?_ ?sq52w ?tq52w ?zq52w; (case Fq52w => k_asm); (case Nq52w => k_asm); (case lq52w => first | exact News.isList (by k_asm) (by k_mem) | exact listBase (by k_asm) (by assumption)); (case pq52w => kmk_part); (case qq52w => kmk_part); (case sq52w => with_unfolding_all rfl); (case tq52w => kmk_pure); (case zq52w => size_fits)); intro _ _ _ Nzz l1zz; (try k_lt l1zz); (try dsimp only at Nzz); (try k_sweep)))
  (k_with "compareOp In ref ref" => (k_here; k_dflt (refine' in_two ?Nq53w ?xq53w ?vq53w ?tq53w ?aq53w ?vaq53w ?bq53w ?vbq53w ?okq53w ?okaq53w ?okbq53w ?uq53w ?_; (case Nq53w => k_asm); (case xq53w => k_mem); (case vq53w => exact strs_pick (by assumption)); (case tq53w => k_mem); (case aq53w => k_mem); (case vaq53w => exact .cons _ _ .nil); (case bq53w => k_mem); (case vbq53w => exact .cons _ _ .nil); (case okq53w => exact pick_sub (by assumption)); (case okaq53w => decide +kernel); (case okbq53w => decide +kernel); (case uq53w => ktr_units); k_whole)))
  (k_with "exec While" => (k_here; refine halt_ ?_))
  (k_with "compareOp NotEq ref ref" => (k_here; k_dflt (first | (refine' ne_bothK ?Nq55w ?aq55w ?bq55w ?uq55w ?_; (case Nq55w => k_asm); (case aq55w => k_mem); (case bq55w => k_mem); (case uq55w => ktr_units); k_whole) | (refine' ne_snocK ?Nq55w ?aq55w ?vq55w ?bq55w ?oq55w ?uq55w ?_; (case Nq55w => k_asm); (case aq55w => k_mem); (case vq55w => assumption); (case bq55w => k_mem); (case oq55w => assumption); (case uq55w => ktr_units); k_whole))))
  (k_with "compareOp Eq ref ref" => (k_here; k_dflt (first | (refine' eq_bothK ?Nq56w ?aq56w ?bq56w ?uq56w ?_; (case Nq56w => k_asm); (case aq56w => k_mem); (case bq56w => k_mem); (case uq56w => ktr_units); k_whole) | (refine' eq_snocK ?Nq56w ?aq56w ?vq56w ?bq56w ?oq56w ?uq56w ?_; (case Nq56w => k_asm); (case aq56w => k_mem); (case vq56w => assumption); (case bq56w => k_mem); (case oq56w => assumption); (case uq56w => ktr_units); k_whole))))
  (k_with "call builtin:list.pop" => (k_here; (with_reducible show wpAny _ _ (call (Value.builtin _) [Value.ref _]) _ _ _); k_dflt (refine' pop_snoc ?Fq57w ?Nq57w ?Uq57w ?zq57w ?_; (case Fq57w => k_asm); (case Nq57w => k_asm); (case Uq57w => k_upd); (case zq57w => size_fits); k_whole); intro _ _ _; (try k_sweep)))
  (k_with "call ref" => (k_here; refine halt_ ?_))
  (k_with "k_ne" => (apply nn8; (try dsimp only); with_reducible ((fail_if_success show @Ne Nat 987654321 _); (fail_if_success show @Ne Nat _ 987654321); first | assumption | (apply nq1; assumption) | (apply nq2; assumption) | (apply nq3; assumption) | (apply nc1; assumption; (first | exact And.left | exact fun z => z.2.1 | exact fun z => z.2.2.1 | exact fun z => z.2.2.2.1 | exact fun z => z.2.2.2.2.1 | exact fun z => z.2.2.2.2.2.1 | exact fun z => z.2.2.2.2.2.2.1 | exact fun z => z.2.2.2.2.2.2.2.1 | exact fun z => z.2.2.2.2.2.2.2.2.1 | exact fun z => z.2.2.2.2.2.2.2.2.2.1 | exact fun z => z.2.2.2.2.2.2.2.2.2.2.1 | exact fun z => z.2.2.2.2.2.2.2.2.2.2.2.1 | exact fun z => z.2.2.2.2.2.2.2.2.2.2.2.2.1 | exact fun z => z.2.2.2.2.2.2.2.2.2.2.2.2.2.1 | exact And.right | exact fun z => z.2.2 | exact fun z => z.2.2.2 | exact fun z => z.2.2.2.2 | exact fun z => z.2.2.2.2.2 | exact fun z => z.2.2.2.2.2.2 | exact fun z => z.2.2.2.2.2.2.2 | exact fun z => z.2.2.2.2.2.2.2.2 | exact fun z => z.2.2.2.2.2.2.2.2.2 | exact fun z => z.2.2.2.2.2.2.2.2.2.2 | exact fun z => z.2.2.2.2.2.2.2.2.2.2.2 | exact fun z => z.2.2.2.2.2.2.2.2.2.2.2.2 | exact fun z => z.2.2.2.2.2.2.2.2.2.2.2.2.2)) | (apply nc2; assumption; (first | exact And.left | exact fun z => z.2.1 | exact fun z => z.2.2.1 | exact fun z => z.2.2.2.1 | exact fun z => z.2.2.2.2.1 | exact fun z => z.2.2.2.2.2.1 | exact fun z => z.2.2.2.2.2.2.1 | exact fun z => z.2.2.2.2.2.2.2.1 | exact fun z => z.2.2.2.2.2.2.2.2.1 | exact fun z => z.2.2.2.2.2.2.2.2.2.1 | exact fun z => z.2.2.2.2.2.2.2.2.2.2.1 | exact fun z => z.2.2.2.2.2.2.2.2.2.2.2.1 | exact fun z => z.2.2.2.2.2.2.2.2.2.2.2.2.1 | exact fun z => z.2.2.2.2.2.2.2.2.2.2.2.2.2.1 | exact And.right | exact fun z => z.2.2 | exact fun z => z.2.2.2 | exact fun z => z.2.2.2.2 | exact fun z => z.2.2.2.2.2 | exact fun z => z.2.2.2.2.2.2 | exact fun z => z.2.2.2.2.2.2.2 | exact fun z => z.2.2.2.2.2.2.2.2 | exact fun z => z.2.2.2.2.2.2.2.2.2 | exact fun z => z.2.2.2.2.2.2.2.2.2.2 | exact fun z => z.2.2.2.2.2.2.2.2.2.2.2 | exact fun z => z.2.2.2.2.2.2.2.2.2.2.2.2 | exact fun z => z.2.2.2.2.2.2.2.2.2.2.2.2.2)) | (apply nc3; assumption; (first | exact And.left | exact fun z => z.2.1 | exact fun z => z.2.2.1 | exact fun z => z.2.2.2.1 | exact fun z => z.2.2.2.2.1 | exact fun z => z.2.2.2.2.2.1 | exact fun z => z.2.2.2.2.2.2.1 | exact fun z => z.2.2.2.2.2.2.2.1 | exact fun z => z.2.2.2.2.2.2.2.2.1 | exact fun z => z.2.2.2.2.2.2.2.2.2.1 | exact fun z => z.2.2.2.2.2.2.2.2.2.2.1 | exact fun z => z.2.2.2.2.2.2.2.2.2.2.2.1 | exact fun z => z.2.2.2.2.2.2.2.2.2.2.2.2.1 | exact fun z => z.2.2.2.2.2.2.2.2.2.2.2.2.2.1 | exact And.right | exact fun z => z.2.2 | exact fun z => z.2.2.2 | exact fun z => z.2.2.2.2 | exact fun z => z.2.2.2.2.2 | exact fun z => z.2.2.2.2.2.2 | exact fun z => z.2.2.2.2.2.2.2 | exact fun z => z.2.2.2.2.2.2.2.2 | exact fun z => z.2.2.2.2.2.2.2.2.2 | exact fun z => z.2.2.2.2.2.2.2.2.2.2 | exact fun z => z.2.2.2.2.2.2.2.2.2.2.2 | exact fun z => z.2.2.2.2.2.2.2.2.2.2.2.2 | exact fun z => z.2.2.2.2.2.2.2.2.2.2.2.2.2)) | (apply nc4; assumption; (first | exact And.left | exact fun z => z.2.1 | exact fun z => z.2.2.1 | exact fun z => z.2.2.2.1 | exact fun z => z.2.2.2.2.1 | exact fun z => z.2.2.2.2.2.1 | exact fun z => z.2.2.2.2.2.2.1 | exact fun z => z.2.2.2.2.2.2.2.1 | exact fun z => z.2.2.2.2.2.2.2.2.1 | exact fun z => z.2.2.2.2.2.2.2.2.2.1 | exact fun z => z.2.2.2.2.2.2.2.2.2.2.1 | exact fun z => z.2.2.2.2.2.2.2.2.2.2.2.1 | exact fun z => z.2.2.2.2.2.2.2.2.2.2.2.2.1 | exact fun z => z.2.2.2.2.2.2.2.2.2.2.2.2.2.1 | exact And.right | exact fun z => z.2.2 | exact fun z => z.2.2.2 | exact fun z => z.2.2.2.2 | exact fun z => z.2.2.2.2.2 | exact fun z => z.2.2.2.2.2.2 | exact fun z => z.2.2.2.2.2.2.2 | exact fun z => z.2.2.2.2.2.2.2.2 | exact fun z => z.2.2.2.2.2.2.2.2.2 | exact fun z => z.2.2.2.2.2.2.2.2.2.2 | exact fun z => z.2.2.2.2.2.2.2.2.2.2.2 | exact fun z => z.2.2.2.2.2.2.2.2.2.2.2.2 | exact fun z => z.2.2.2.2.2.2.2.2.2.2.2.2.2)))))
  (k_with "k_upd" => first | (apply uh8; k_all) | (apply ut8; k_ne; k_upd))
  (k_with "k_updF" => first | (apply fh8; k_all) | (apply ft8; k_ne; k_updF))
  (k_with "k_all" => first | exact List.forall_mem_nil _ | (apply an8; k_ne; k_all))
  (k_with "kcf_all" => first | exact fun _ hp => hp | (apply sb8; (focus kcf_m); kcf_all))
  (k_with "ktr_units" => first | exact uu2 hu rfl | exact uu1 hu rfl | exact uu3 hu rfl | exact uu4 hu rfl)
  (k_with "ktr_room" => first | exact uu2 hdp rfl | exact uu1 hdp rfl | exact uu3 hdp rfl | exact uu4 hdp rfl)
  (k_with "subscriptTail Name UnaryOp ref int" => k_extra "subscriptTail")
  exact trivial
set_option maxRecDepth 100000 in
set_option maxHeartbeats 8000000 in
theorem C_take {w : World} {mean : ExcName → Option Value} {mg mb : Str → Option Value} {dp un : Nat} {gd : Option (List Code)} {cn : Str} {cs : Scope} {a : Addr} {ccd : Value} {cl : List (Str × Addr)} {outer : List Env} {A₀ : Around} {base h₀ : Heap} {L : Addr} {m : Str → Option Value} {s : Shared} {Q E : Value → Shared → Prop} (B : Below A₀ base outer h₀) (F : Fr h₀ L s.heap m) (X : (hd.heap_1 w.params).In h₀) (T : (Top view9 (looseW view9 []) mean mg mb h₀)) (hk : cs.kind = .function) {x dx d : Addr} {c : St} {es : List DictEntry} {kind : Str} {tk : Tok}
    (N : News h₀ L s.heap [(x, instObj 76 dx), (dx, dictOf es 8)]) (hxd : @LT.lt Nat _ dx x) (S : SIs w d c es)
    (hdp : dp + 4 < recursionLimit) (hu : un + 40 < cLine)
    (hret : ∀ es' h' tk', KeepBut [x, dx] s.heap h' → Fr h₀ L h' m → News h₀ L h' [(x, instObj 76 dx), (dx, dictOf es' 8)] → SIs w d (takeS c kind) es' → Q .none { s with heap := h', toks := tk' }) :
    wpAny (model PySem.Challenge.rw_on0369_01.row.prog w) (ktrTop dp un gd cn cs L a ccd cl outer) (call (.ref 59) [.ref x, .str kind tk]) Q E s := by
  w_top off
  refine SIs.out S ?_
  clear S
  intro t0 t1 t2 t3 t4 t5 t6 t7 t8 t9 t10 t11 t12 t13  e9
  subst e9
  refine wpAny_call ?_
  k_dflt (refine' code_defG ?k1 ?k2 ?k3 N ?k5 ?kA ?kF ?kK ?k6 ?k7 ?k8 ?k9 ?kB ?_ ?c2 ?c3 ?c4 ?c5; (case kA => exact rfl); (case kF => exact rfl); (case kK => assumption); (case k1 => k_asm); (case k2 => k_asm); (case k3 => k_asm); (case k5 => k_asm); (case k6 => k_is); (case k7 => k_is); (case k8 => ktr_room); (case k9 => exact BindsTo.of_eq rfl); (case c5 => decide); (case kB => exact locs rfl); (case c2 => exact rfl); (case c3 => exact rfl); (case c4 => exact rfl); k_whole; intro g' L' h' FG' F' N' B' X' T' GS'; (try dsimp only); (try k_fold); refine toks_any fun tk9 => ?_; refine let_fr F' ?_; clear F'; intro m9 F'; refine let_A ?_; intro A9)
  refine cutG F' N' (fun all => (∃ es', (x, instObj 76 dx) ∈ all ∧ (dx, dictOf es' 8) ∈ all ∧ SIs w d c es') ∧ (isHang kind && decide (c.pos > 0) && !isPara c.last) = false) ?_ ?_
  rotate_left
  · intro rest' hrest
    k_steps
    all_goals first
      | (refine CutG.go hrest (by assumption) (by assumption) ⟨⟨_, by k_mem, by k_mem, sIs_of rfl⟩, ?_⟩; clear hrest; clear hret qk ek B' GS'; all_goals ((repeat (with_reducible rename News _ _ _ _ => z9; clear z9)); (repeat (with_reducible rename Fr _ _ _ _ => z9; clear z9)); (repeat (with_reducible rename Top _ _ _ _ _ _ => z9; clear z9)); (repeat (with_reducible rename Frag.In _ _ => z9; clear z9))); (first | (simp_all; done) | (simp_all; intros; omega)))
      | (refine hret _ _ _ (keepBut_of (by assumption) GS') (by k_asm) (news2 (by k_asm) (by k_mem) (by k_mem)) (sIs_of ?_); clear hrest; clear hret qk ek B' GS'; all_goals ((repeat (with_reducible rename News _ _ _ _ => z9; clear z9)); (repeat (with_reducible rename Fr _ _ _ _ => z9; clear z9)); (repeat (with_reducible rename Top _ _ _ _ _ _ => z9; clear z9)); (repeat (with_reducible rename Frag.In _ _ => z9; clear z9))); (first | (simp_all [takeS]; done) | (simp_all [takeS]; intros; omega)))
  rintro h2 tk2 all2 ⟨⟨es2, hx2, hd2, S2⟩, hc⟩ F2 N2
  refine SIs.out S2 ?_
  clear S2
  intro s0 s1 s2 s3 s4 s5 s6 s7 s8 s9 s10 s11 s12 s13 e9
  subst e9
  have N3 := news2 N2 hx2 hd2
  clear N2 N'
  (try k_fold)
  refine cutG F2 N3 (fun all => ∃ es', (x, instObj 76 dx) ∈ all ∧ (dx, dictOf es' 8) ∈ all ∧ SIs w d { c with term := (takeS c kind).term, spaced := (takeS c kind).spaced } es') ?_ ?_
  rotate_left
  · intro rest' hrest
    k_steps
    all_goals (refine CutG.go hrest (by assumption) (by assumption) ⟨_, by k_mem, by k_mem, sIs_of ?_⟩; clear hrest; clear hret qk ek B' GS'; all_goals ((repeat (with_reducible rename News _ _ _ _ => z9; clear z9)); (repeat (with_reducible rename Fr _ _ _ _ => z9; clear z9)); (repeat (with_reducible rename Top _ _ _ _ _ _ => z9; clear z9)); (repeat (with_reducible rename Frag.In _ _ => z9; clear z9))); unfold takeS; rw [if_neg (by simp [hc])]; (first | (simp_all; done) | (simp_all; intros; omega)))
  rintro h3 tk3 all3 ⟨es3, hx3, hd3, S3⟩ F3 N3'
  refine SIs.out S3 ?_
  clear S3
  intro t20 t21 t22 t23 t24 t25 t26 t27 t28 t29 t30 t31 t32 t33 e9
  subst e9
  have N4 := news2 N3' hx3 hd3
  clear N3 N3'
  (try k_fold)
  k_steps
  all_goals (refine hret _ _ _ (keepBut_of (by assumption) GS') (by k_asm) (news2 (by k_asm) (by k_mem) (by k_mem)) (sIs_of ?_))
  all_goals (clear hret qk ek B' GS')
  all_goals ((repeat (with_reducible rename News _ _ _ _ => z9; clear z9)); (repeat (with_reducible rename Fr _ _ _ _ => z9; clear z9)); (repeat (with_reducible rename Top _ _ _ _ _ _ => z9; clear z9)); (repeat (with_reducible rename Frag.In _ _ => z9; clear z9)))
  all_goals (unfold takeS; rw [if_neg (by simp [hc])])
end V2part
section Gen3part
/-! ## a comprehension without a test, turn by turn -/
section
open PyProof.Rows.LCg
variable {prog : Program} {w : World} {A : Around} {h₀ : Heap} {L : Addr} {m : Str → Option Value} {env : Env} {elt : PySem.Expr} {x : Str} {scope : Scope} {cl : List (Str × Addr)} {s : Shared} {S : List (Addr × Obj) → Prop} {P : Nat → Value → Prop} {Fin : List Value → List (Addr × Obj) → Prop}
theorem rest_J (J : Nat → List Value → List (Addr × Obj) → Prop) {n : Nat} {news : List (Addr × Obj)} (h0 : J 0 [] news)
    (turn : ∀ i v I oI C oC D m₂ ys nw h tk (E' : Value → Shared → Prop), i < n → P i v → J i ys nw → NsObj oC m₂ → m₂ x = some v → Fr h₀ L h m → News h₀ L h ((I, oI) :: (C, oC) :: (D, lst ys) :: nw) → Off3 I C D nw → ((@Ne Nat I C) ∧ (@Ne Nat I D) ∧ (@Ne Nat C D)) →
      wpAny (model prog w) A (eval elt (compEnvC scope cl C env)) (CompEnd h₀ L m { s with heap := h, toks := tk } I oI C oC D (lst ys) S (fun y nw' => J (i + 1) (ys ++ [y]) nw')) E' { s with heap := h, toks := tk })
    (fin : ∀ ys nw, J n ys nw → Fin ys nw) : CompRest prog w A h₀ L m env elt x scope cl s S P Fin n 0 [] news := by
  have key : ∀ (j i : Nat) (ys : List Value) nw, i + j = n → J i ys nw → CompRest prog w A h₀ L m env elt x scope cl s S P Fin j i ys nw := by
    intro j
    induction j with
    | zero => intro i ys nw hi hj; obtain rfl : i = n := by omega
              exact CompRest.zero (fin ys nw hj)
    | succ j ih =>
      intro i ys nw hi hj
      refine CompRest.succ ?_
      intro v I oI C oC D m₂ h tk E' hv hC hx F N off ne
      refine wpAny_mono (turn i v I oI C oC D m₂ ys nw h tk E' (by omega) hv hj hC hx F N off ne) (fun y s₃ q => ?_) fun _ _ e => e
      obtain ⟨h', tk', nw', e, F', N', off', hS, hj'⟩ := q
      exact ⟨h', tk', nw', e, F', N', off', hS, ih (i + 1) _ nw' (by omega) hj'⟩
  exact key n 0 [] news (by omega) h0
def TupAll (tl : List (Addr × Obj)) : Prop := ∀ p ∈ tl, p.2.cls = .type "tuple"
theorem off3_row {I C D : Addr} {news tl : List (Addr × Obj)} {q : Addr × Obj} (off : Off3 I C D (news ++ tl)) (nI : @Ne Nat q.1 I) (nC : @Ne Nat q.1 C) (nD : @Ne Nat q.1 D) : Off3 I C D (news ++ (tl ++ [q])) := by
  refine Off3.of fun p hp => ?_
  rcases List.mem_append.mp hp with hp | hp
  · exact off.mem p (List.mem_append_left _ hp)
  · rcases List.mem_append.mp hp with hp | hp
    · exact off.mem p (List.mem_append_right _ hp)
    · rw [List.mem_singleton.mp hp]; exact ⟨nI, nC, nD⟩
/-- a turn that has made one pair -/
theorem compEnd_row {I C D T : Addr} {oI oC oD oT : Obj} {news tl all : List (Addr × Obj)} {s₁ : Shared} {rest : Value → List (Addr × Obj) → Prop} {h' : Heap} {tk : Nat} {y : Value}
    (F : Fr h₀ L h' m) (N : News h₀ L h' all) (hI : (I, oI) ∈ all) (hC : (C, oC) ∈ all) (hD : (D, oD) ∈ all) (hT : (T, oT) ∈ all) (hn : ∀ q ∈ news, q ∈ all) (htl : ∀ q ∈ tl, q ∈ all) (off : Off3 I C D (news ++ tl))
    (nI : @Ne Nat T I) (nC : @Ne Nat T C) (nD : @Ne Nat T D) (hS : S (news ++ (tl ++ [(T, oT)]))) (r : rest y (news ++ (tl ++ [(T, oT)]))) : CompEnd h₀ L m s₁ I oI C oC D oD S rest y { s₁ with heap := h', toks := tk } := by
  refine CompEnd.intro F N (news ++ (tl ++ [(T, oT)])) ?_ (off3_row off nI nC nD) hS r
  intro p hp
  rcases List.mem_cons.mp hp with rfl | hp
  · exact hI
  · rcases List.mem_cons.mp hp with rfl | hp
    · exact hC
    · rcases List.mem_cons.mp hp with rfl | hp
      · exact hD
      · rcases List.mem_append.mp hp with hp | hp
        · exact hn p hp
        · rcases List.mem_append.mp hp with hp | hp
          · exact htl p hp
          · rw [List.mem_singleton.mp hp]; exact hT
def rowsR (a : Int) (n : Nat) : List (Int × Bool) := (List.range n).map fun i => (a + ((i : Nat) : Int), false)
theorem rowsR_succ (a : Int) (n : Nat) : rowsR a (n + 1) = rowsR a n ++ [(a + (n : Int), false)] := by simp [rowsR, List.range_succ]
/-- the rows of a run of places -/
theorem rest_rows {a : Int} {n : Nat} {news : List (Addr × Obj)} (hP : ∀ i v, P i v → ∃ t, v = .int (a + (i : Int)) t)
    (turn : ∀ i t I oI C oC D m₂ ys tl h tk (E' : Value → Shared → Prop), i < n → ys.length ≤ i → NsObj oC m₂ → m₂ x = some (.int (a + ((i : Nat) : Int)) t) → Fr h₀ L h m → News h₀ L h ((I, oI) :: (C, oC) :: (D, lst ys) :: (news ++ tl)) → Off3 I C D (news ++ tl) → ((@Ne Nat I C) ∧ (@Ne Nat I D) ∧ (@Ne Nat C D)) →
      wpAny (model prog w) A (eval elt (compEnvC scope cl C env)) (CompEnd h₀ L m { s with heap := h, toks := tk } I oI C oC D (lst ys) S (fun y nw' => ∃ T tk k, y = .ref T ∧ nw' = news ++ (tl ++ [(T, tup2 (a + ((i : Nat) : Int)) tk false k)]))) E' { s with heap := h, toks := tk })
    (fin : ∀ ys tl, RowsIn tl ys (rowsR a n) → TupAll tl → Fin ys (news ++ tl)) : CompRest prog w A h₀ L m env elt x scope cl s S P Fin n 0 [] news := by
  refine rest_J (fun i ys nw => ∃ tl, nw = news ++ tl ∧ RowsIn tl ys (rowsR a i) ∧ TupAll tl ∧ ys.length ≤ i) ⟨[], by simp, .nil, (fun _ h => nomatch h), Nat.le_refl _⟩ ?_ ?_
  · rintro i v I oI C oC D m₂ ys nw h tk E' hi hv ⟨tl, rfl, hr, ht, hyl⟩ hC hx F N off ne
    obtain ⟨t, rfl⟩ := hP i v hv
    refine wpAny_mono (turn i t I oI C oC D m₂ ys tl h tk E' hi hyl hC hx F N off ne) (fun y s₃ q => ?_) fun _ _ e => e
    obtain ⟨h', tk', nw', e, F', N', off', hS, T, tk9, k, rfl, rfl⟩ := q
    refine ⟨h', tk', _, e, F', N', off', hS, tl ++ [(T, tup2 (a + (i : Int)) tk9 false k)], rfl, ?_, ?_, by simp; omega⟩
    · rw [rowsR_succ]
      exact (hr.mono fun p hp => List.mem_append_left _ hp).append (.cons (List.mem_append_right _ (List.mem_singleton.mpr rfl)) .nil)
    · intro p hp
      rcases List.mem_append.mp hp with hp | hp
      · exact ht p hp
      · rw [List.mem_singleton.mp hp]
  · rintro ys nw ⟨tl, rfl, hr, ht, _⟩
    exact fin ys tl hr ht
end
theorem ints_get {vs : List Value} {ks : List Int} (h : IntsAre vs ks) : ∀ {i : Nat} {k : Int}, ks[i]? = some k → ∃ t, vs[i]? = some (.int k t) := by
  induction h with
  | nil => intro i v e; simp at e
  | cons x t _ ih =>
    intro i v e
    cases i with
    | zero => simp at e; subst e; exact ⟨t, rfl⟩
    | succ i => exact ih (by simpa using e)
theorem ints_length {vs : List Value} {ks : List Int} (h : IntsAre vs ks) : vs.length = ks.length := by
  induction h with
  | nil => rfl
  | cons _ _ _ ih => simp [ih]
/-! ## a ledger of which a callee has turned one object -/
theorem news_upd {h₀ h h' : Heap} {L x dx : Addr} {ox o o' : Obj} {big big' : List (Addr × Obj)} (U : Upd dx o o' big big') (N : News h₀ L h big) (hx : (x, ox) ∈ big) (k : KeepBut [x, dx] h h') (N2 : News h₀ L h' [(x, ox), (dx, o')]) : News h₀ L h' big' := by
  obtain ⟨pre, post, rfl, rfl, a, b⟩ := U.split
  have other : ∀ p ∈ pre ++ (dx, o) :: post, p.1 ≠ dx → h'.get? p.1 = some p.2 ∧ p.1 ≠ L ∧ h₀.get? p.1 = none := by
    intro p hp hd
    have hp1 := N p hp
    by_cases e : p.1 = x
    · have e2 : p = (x, ox) := Prod.ext e (by have := hp1.1; rw [e, (N _ hx).1] at this; exact (Option.some.inj this).symm)
      rw [e2]; exact N2 _ (.head _)
    · exact ⟨k _ _ hp1.1 (by simp [e, hd]), hp1.2⟩
  intro p hp
  rcases List.mem_append.mp hp with hp | hp
  · exact other p (List.mem_append_left _ hp) (a p hp)
  · rcases List.mem_cons.mp hp with rfl | hp
    · exact N2 _ (.tail _ (.head _))
    · exact other p (List.mem_append_right _ (List.mem_cons_of_mem _ hp)) (b p hp)
def tupCls (v : Value) : Bool := match v with
  | .type s => s == "tuple"
  | _ => false
theorem tup_off {h₀ h : Heap} {L f : Addr} {tl all : List (Addr × Obj)} {o : Obj} (N : News h₀ L h all) (hf : (f, o) ∈ all) (htl : ∀ p ∈ tl, p ∈ all) (ht : TupAll tl) (ho : tupCls o.cls = false) : ∀ p ∈ tl, @Ne Nat p.1 f := by
  intro p hp
  refine ne_of_cls (N p (htl p hp)).1 (N _ hf).1 ?_
  rw [ht p hp]
  intro e
  rw [show o.cls = Value.type "tuple" from e.symm] at ho
  exact absurd ho (by decide)
section
variable {prog : Program} {w : World} {A : Around} {E : Value → Shared → Prop} {s : Shared} {h₀ : Heap} {L D b : Addr} {m : Str → Option Value} {news : List (Addr × Obj)} {news' : Nat → List (Addr × Obj)} {vs ws : List Value} {n n2 : Nat}
theorem extend_K {Q : Value → Shared → Prop} (F : Fr h₀ L s.heap m) (N : News h₀ L s.heap news) (hb : (b, listOf ws.toArray n2) ∈ news)
    (U : ∀ n', Upd D (listOf vs.toArray n) (listOf (vs ++ ws).toArray n') news (news' n')) (hz : vs.length + ws.length ≤ 10000)
    (h : ∀ n' h', Fr h₀ L h' m → News h₀ L h' (news' n') → Q .none { s with heap := h' }) : wpAny (model prog w) A (call (.builtin "list.extend") [.ref D, .ref b]) Q E s := by
  have h1 : vs.toArray.toList.length ≤ sizeLine := by rw [PySem.sizeLine_eq]; simp; omega
  have h2 : vs.toArray.size + ws.toArray.size ≤ sizeLine + 1 := by rw [PySem.sizeLine_eq]; simp; omega
  have h3 : ¬(!vs.toArray.isEmpty && Builtin.List.listTooLong (vs.toArray.size + ws.toArray.size)) = true := by
    unfold Builtin.List.listTooLong
    rw [PySem.sizeLine_eq]
    simp only [List.size_toArray, Bool.and_eq_true, decide_eq_true_eq, not_and]
    intro _; omega
  by_cases e : ws = []
  · subst e
    refine kxn_extend F N hb rfl (n := n) (news' := news' n) ?_ h3 h1 h2 (h n)
    have := U n
    rw [List.append_nil] at this
    exact this
  · refine kl_extend F N hb (l := vs ++ ws) rfl ?_ (U _) h3 h1 h2 (h _)
    simp; exact e
end
theorem listBase {g h : Heap} {L l : Addr} {m : Str → Option Value} {its : Array Value} (F : Fr g L h m) (hl : g.IsList l its) : h.IsList l its := hl.at fun o e => F.keep _ _ e
theorem news_sub {h₀ h : Heap} {L : Addr} {all l : List (Addr × Obj)} (N : News h₀ L h all) (hs : ∀ p ∈ l, p ∈ all) : News h₀ L h l := fun p hp => N p (hs p hp)
theorem fresh_of {h₀ g : Heap} {L f : Addr} {all : List (Addr × Obj)} {o : Obj} {l : List Addr} (G : GSub h₀ g l) {h' : Heap} (N : News g L h' all) (hf : (f, o) ∈ all) (hn : f ∉ l) : h₀.get? f = none := by
  cases e : h₀.get? f with
  | none => rfl
  | some o' =>
    have h1 := G f o' e hn
    have h2 := (N _ hf).2.2
    rw [show g.get? f = none from h2] at h1; cases h1
theorem keepBut_get {l : List Addr} {h h' : Heap} (k : KeepBut l h h') {b : Addr} {o : Obj} (e : h.get? b = some o) (hb : b ∉ l) : h'.get? b = some o := k b o e hb
end Gen3part
section V3part
theorem lines3 : True := by
  k_with_none
  (k_with "k_inst" => exact IsInst.at (by assumption) (by k_asm))
  (k_with "compareOp In str ref" => (k_here; (first | (with_reducible refine' in_22 ?Fq68w ?Xq68w ?_) | (with_reducible refine' in_23 ?Fq68w ?Xq68w ?_) | (with_reducible refine' in_24 ?Fq68w ?Xq68w ?_) | (with_reducible refine' in_25 ?Fq68w ?Xq68w ?_) | (with_reducible refine' in_26 ?Fq68w ?Xq68w ?_)); (case Fq68w => k_asm); (case Xq68w => k_asm); k_whole))
  (k_with "compareOp NotIn str ref" => (k_here; (with_reducible refine' notin_22 ?Fq69w ?Xq69w ?_); (case Fq69w => k_asm); (case Xq69w => k_asm); k_whole))
  (k_with "exec For Tuple Call cons nil" => (k_here; (rename Fr _ _ _ _ => lFzz); (with_unfolding_all refine' For_turns lFzz ?_; k_whole)))
  (k_with "call type:enumerate" => (k_here; (with_reducible show wpAny _ _ (call (Value.type _) [Value.ref _]) (fun xv s₁ => wpAny _ _ (pyIter xv) (fun it s₂ => TurnsAt _ _ _ _ _ _ _ _ _ it s₂) _ s₁) _ _); refine halt_ ?_))
  (k_with "TurnPost" => (dsimp only [TurnPost]))
  (k_with "compareOp In str ref" => (k_here; k_dflt (first | (refine' in_made isHang ?Nq73w ?mq73w ?iq73w ?pq73w ?_; (case Nq73w => k_asm); (case mq73w => k_mem); (case iq73w => repeat constructor); (case pq73w => rfl); k_whole) | (refine' in_made isPara ?Nq73w ?mq73w ?iq73w ?pq73w ?_; (case Nq73w => k_asm); (case mq73w => k_mem); (case iq73w => repeat constructor); (case pq73w => rfl); k_whole) | (refine' in_made isLetterS ?Nq73w ?mq73w ?iq73w ?pq73w ?_; (case Nq73w => k_asm); (case mq73w => k_mem); (case iq73w => repeat constructor); (case pq73w => rfl); k_whole) | (refine' in_made isStayS ?Nq73w ?mq73w ?iq73w ?pq73w ?_; (case Nq73w => k_asm); (case mq73w => k_mem); (case iq73w => repeat constructor); (case pq73w => rfl); k_whole))))
  (k_with "compareOp NotIn str ref" => (k_here; k_dflt (first | (refine' notin_made isTerm ?Nq74w ?mq74w ?iq74w ?pq74w ?_; (case Nq74w => k_asm); (case mq74w => k_mem); (case iq74w => repeat constructor); (case pq74w => rfl); k_whole) | (refine' notin_made isPara ?Nq74w ?mq74w ?iq74w ?pq74w ?_; (case Nq74w => k_asm); (case mq74w => k_mem); (case iq74w => repeat constructor); (case pq74w => rfl); k_whole))))
  (k_with "compareOp NotEq ref ref" => (k_here; k_dflt (refine' ne_unitsK ?Nq75w ?aq75w ?uq75w ?sq75w ?bq75w ?oq75w ?rq75w ?_; (case Nq75w => k_asm); (case aq75w => k_mem); (case uq75w => assumption); (case sq75w => kcf_all); (case bq75w => k_mem); (case oq75w => assumption); (case rq75w => ktr_units); k_whole)))
  (k_with "subscriptTail" => (k_here; (with_reducible show wpAny _ _ (subscriptTail _ _ (Value.ref _) (Value.int (-1) _)) _ _ _); k_dflt (refine' item_lastN ?Nq76w ?aq76w ?_ ?hq76w; (case Nq76w => k_asm); (case aq76w => k_mem); (case hq76w => with_unfolding_all rfl); k_whole)))
  (k_with "subscriptTail" => (k_here; (first | ((with_reducible show wpAny _ _ (subscriptTail _ _ (Value.ref _) (Value.int 0 _)) _ _ _); k_dflt (refine' item3_0 ?Nq77w ?aq77w ?sq77w ?_ ?hq77w; (case Nq77w => k_asm); (case aq77w => with_reducible assumption); (case sq77w => kcf_all); (case hq77w => with_unfolding_all rfl); k_whole)) | ((with_reducible show wpAny _ _ (subscriptTail _ _ (Value.ref _) (Value.int 1 _)) _ _ _); k_dflt (refine' item3_1 ?Nq77w ?aq77w ?sq77w ?_ ?hq77w; (case Nq77w => k_asm); (case aq77w => with_reducible assumption); (case sq77w => kcf_all); (case hq77w => with_unfolding_all rfl); k_whole)) | ((with_reducible show wpAny _ _ (subscriptTail _ _ (Value.ref _) (Value.int 2 _)) _ _ _); k_dflt (refine' item3_2 ?Nq77w ?aq77w ?sq77w ?_ ?hq77w; (case Nq77w => k_asm); (case aq77w => with_reducible assumption); (case sq77w => kcf_all); (case hq77w => with_unfolding_all rfl); k_whole)))))
  (k_with "setItem ref int ref" => (k_here; k_dflt (refine' setLast_K ?Fq78w ?Nq78w ?Uq78w ?_; (case Fq78w => k_asm); (case Nq78w => k_asm); (case Uq78w => k_upd); k_whole); intro _ _ _; (try k_sweep)))
  (k_with "k_all" => assumption)
  (k_with "size_fits" => ((rw [PySem.sizeLine_eq]); (simp only [List.size_toArray, List.length_append, List.length_cons, List.length_nil]); omega))
  (k_with "CompSrcT" => (k_here; k_dflt (refine' LCt.CompSrcT.ledger ?hhq81w ?Fq81w ?Nq81w ?mq81w ?zq81w ?_; (case hhq81w => exact rfl); (case Fq81w => k_asm); (case Nq81w => k_asm); (case mq81w => k_mem); (case zq81w => size_fits)); intro _; refine halt_ ?_))
  (k_with "exec Assign cons ListComp" => (k_here; lct_look; k_dflt (refine LCt.Assign_ListComp_T (F₀ := by k_asm) (by rfl) (by with_unfolding_all rfl) (by with_unfolding_all rfl) (by decide) (by rfl) (by decide) (by rfl) (by rfl) (by rfl) ?_)))
  (k_with "CompEnd" => (refine LCg.CompEnd.intro (by assumption) (by assumption) _ (fun _ h9 => h9) (by first | assumption | (simp only [LCg.Off3, and_true]; assumption)) (by lcg_src) ?_; first | exact ⟨⟨_, rfl⟩, rfl, by first | assumption | exact decide_eq_true (by assumption)⟩ | exact ⟨rfl, by first | assumption | exact decide_eq_false (by assumption)⟩))
  (k_with "call builtin:len" => (k_here; (with_reducible show wpAny _ _ (call (Value.builtin "len") [Value.ref _]) _ _ _); k_dflt (refine' kst_len ?k1q84w ?k2q84w ?k3q84w ?k4q84w ?_; (case k1q84w => k_asm); (case k2q84w => k_mem); (case k3q84w => exact rfl); (case k4q84w => omega); k_whole)))
  (k_with "subscriptTail Name Slice ref ref" => (k_here; (with_reducible show wpAny _ _ (subscriptTail _ (PySem.Expr.Slice _ _ none _) (Value.ref _) (Value.ref _)) _ _ _); k_dflt (refine' slice_K ?Fq85w ?Nq85w ?lq85w ?pq85w ?qq85w ?_ ?sq85w ?tq85w ?zq85w; (case Fq85w => k_asm); (case Nq85w => k_asm); (case lq85w => first | exact News.isList (by k_asm) (by k_mem) | exact listBase (by k_asm) (by assumption)); (case pq85w => kmk_part); (case qq85w => kmk_part); (case sq85w => with_unfolding_all rfl); (case tq85w => kmk_pure); (case zq85w => size_fits)); intro _ _ _ Nzz l1zz; (try k_lt l1zz); (try dsimp only at Nzz); (try k_sweep)))
  (k_with "compareOp In ref ref" => (k_here; k_dflt (refine' in_two ?Nq86w ?xq86w ?vq86w ?tq86w ?aq86w ?vaq86w ?bq86w ?vbq86w ?okq86w ?okaq86w ?okbq86w ?uq86w ?_; (case Nq86w => k_asm); (case xq86w => k_mem); (case vq86w => exact strs_pick (by assumption)); (case tq86w => k_mem); (case aq86w => k_mem); (case vaq86w => exact .cons _ _ .nil); (case bq86w => k_mem); (case vbq86w => exact .cons _ _ .nil); (case okq86w => exact pick_sub (by assumption)); (case okaq86w => decide +kernel); (case okbq86w => decide +kernel); (case uq86w => ktr_units); k_whole)))
  (k_with "exec While" => (k_here; refine halt_ ?_))
  (k_with "compareOp NotEq ref ref" => (k_here; k_dflt (first | (refine' ne_bothK ?Nq88w ?aq88w ?bq88w ?uq88w ?_; (case Nq88w => k_asm); (case aq88w => k_mem); (case bq88w => k_mem); (case uq88w => ktr_units); k_whole) | (refine' ne_snocK ?Nq88w ?aq88w ?vq88w ?bq88w ?oq88w ?uq88w ?_; (case Nq88w => k_asm); (case aq88w => k_mem); (case vq88w => assumption); (case bq88w => k_mem); (case oq88w => assumption); (case uq88w => ktr_units); k_whole))))
  (k_with "compareOp Eq ref ref" => (k_here; k_dflt (first | (refine' eq_bothK ?Nq89w ?aq89w ?bq89w ?uq89w ?_; (case Nq89w => k_asm); (case aq89w => k_mem); (case bq89w => k_mem); (case uq89w => ktr_units); k_whole) | (refine' eq_snocK ?Nq89w ?aq89w ?vq89w ?bq89w ?oq89w ?uq89w ?_; (case Nq89w => k_asm); (case aq89w => k_mem); (case vq89w => assumption); (case bq89w => k_mem); (case oq89w => assumption); (case uq89w => ktr_units); k_whole))))
  (k_with "call builtin:list.pop" => (k_here; (with_reducible show wpAny _ _ (call (Value.builtin _) [Value.ref _]) _ _ _); k_dflt (refine' pop_snoc ?Fq90w ?Nq90w ?Uq90w ?zq90w ?_; (case Fq90w => k_asm); (case Nq90w => k_asm); (case Uq90w => k_upd); (case zq90w => size_fits); k_whole); intro _ _ _; (try k_sweep)))
  (k_with "call ref" => (k_here; refine halt_ ?_))
  (k_with "k_ne" => (apply nn8; (try dsimp only); with_reducible ((fail_if_success show @Ne Nat 987654321 _); (fail_if_success show @Ne Nat _ 987654321); first | assumption | (apply nq1; assumption) | (apply nq2; assumption) | (apply nq3; assumption) | (apply nc1; assumption; (first | exact And.left | exact fun z => z.2.1 | exact fun z => z.2.2.1 | exact fun z => z.2.2.2.1 | exact fun z => z.2.2.2.2.1 | exact fun z => z.2.2.2.2.2.1 | exact fun z => z.2.2.2.2.2.2.1 | exact fun z => z.2.2.2.2.2.2.2.1 | exact fun z => z.2.2.2.2.2.2.2.2.1 | exact fun z => z.2.2.2.2.2.2.2.2.2.1 | exact fun z => z.2.2.2.2.2.2.2.2.2.2.1 | exact fun z => z.2.2.2.2.2.2.2.2.2.2.2.1 | exact fun z => z.2.2.2.2.2.2.2.2.2.2.2.2.1 | exact fun z => z.2.2.2.2.2.2.2.2.2.2.2.2.2.1 | exact And.right | exact fun z => z.2.2 | exact fun z => z.2.2.2 | exact fun z => z.2.2.2.2 | exact fun z => z.2.2.2.2.2 | exact fun z => z.2.2.2.2.2.2 | exact fun z => z.2.2.2.2.2.2.2 | exact fun z => z.2.2.2.2.2.2.2.2 | exact fun z => z.2.2.2.2.2.2.2.2.2 | exact fun z => z.2.2.2.2.2.2.2.2.2.2 | exact fun z => z.2.2.2.2.2.2.2.2.2.2.2 | exact fun z => z.2.2.2.2.2.2.2.2.2.2.2.2 | exact fun z => z.2.2.2.2.2.2.2.2.2.2.2.2.2)) | (apply nc2; assumption; (first | exact And.left | exact fun z => z.2.1 | exact fun z => z.2.2.1 | exact fun z => z.2.2.2.1 | exact fun z => z.2.2.2.2.1 | exact fun z => z.2.2.2.2.2.1 | exact fun z => z.2.2.2.2.2.2.1 | exact fun z => z.2.2.2.2.2.2.2.1 | exact fun z => z.2.2.2.2.2.2.2.2.1 | exact fun z => z.2.2.2.2.2.2.2.2.2.1 | exact fun z => z.2.2.2.2.2.2.2.2.2.2.1 | exact fun z => z.2.2.2.2.2.2.2.2.2.2.2.1 | exact fun z => z.2.2.2.2.2.2.2.2.2.2.2.2.1 | exact fun z => z.2.2.2.2.2.2.2.2.2.2.2.2.2.1 | exact And.right | exact fun z => z.2.2 | exact fun z => z.2.2.2 | exact fun z => z.2.2.2.2 | exact fun z => z.2.2.2.2.2 | exact fun z => z.2.2.2.2.2.2 | exact fun z => z.2.2.2.2.2.2.2 | exact fun z => z.2.2.2.2.2.2.2.2 | exact fun z => z.2.2.2.2.2.2.2.2.2 | exact fun z => z.2.2.2.2.2.2.2.2.2.2 | exact fun z => z.2.2.2.2.2.2.2.2.2.2.2 | exact fun z => z.2.2.2.2.2.2.2.2.2.2.2.2 | exact fun z => z.2.2.2.2.2.2.2.2.2.2.2.2.2)) | (apply nc3; assumption; (first | exact And.left | exact fun z => z.2.1 | exact fun z => z.2.2.1 | exact fun z => z.2.2.2.1 | exact fun z => z.2.2.2.2.1 | exact fun z => z.2.2.2.2.2.1 | exact fun z => z.2.2.2.2.2.2.1 | exact fun z => z.2.2.2.2.2.2.2.1 | exact fun z => z.2.2.2.2.2.2.2.2.1 | exact fun z => z.2.2.2.2.2.2.2.2.2.1 | exact fun z => z.2.2.2.2.2.2.2.2.2.2.1 | exact fun z => z.2.2.2.2.2.2.2.2.2.2.2.1 | exact fun z => z.2.2.2.2.2.2.2.2.2.2.2.2.1 | exact fun z => z.2.2.2.2.2.2.2.2.2.2.2.2.2.1 | exact And.right | exact fun z => z.2.2 | exact fun z => z.2.2.2 | exact fun z => z.2.2.2.2 | exact fun z => z.2.2.2.2.2 | exact fun z => z.2.2.2.2.2.2 | exact fun z => z.2.2.2.2.2.2.2 | exact fun z => z.2.2.2.2.2.2.2.2 | exact fun z => z.2.2.2.2.2.2.2.2.2 | exact fun z => z.2.2.2.2.2.2.2.2.2.2 | exact fun z => z.2.2.2.2.2.2.2.2.2.2.2 | exact fun z => z.2.2.2.2.2.2.2.2.2.2.2.2 | exact fun z => z.2.2.2.2.2.2.2.2.2.2.2.2.2)) | (apply nc4; assumption; (first | exact And.left | exact fun z => z.2.1 | exact fun z => z.2.2.1 | exact fun z => z.2.2.2.1 | exact fun z => z.2.2.2.2.1 | exact fun z => z.2.2.2.2.2.1 | exact fun z => z.2.2.2.2.2.2.1 | exact fun z => z.2.2.2.2.2.2.2.1 | exact fun z => z.2.2.2.2.2.2.2.2.1 | exact fun z => z.2.2.2.2.2.2.2.2.2.1 | exact fun z => z.2.2.2.2.2.2.2.2.2.2.1 | exact fun z => z.2.2.2.2.2.2.2.2.2.2.2.1 | exact fun z => z.2.2.2.2.2.2.2.2.2.2.2.2.1 | exact fun z => z.2.2.2.2.2.2.2.2.2.2.2.2.2.1 | exact And.right | exact fun z => z.2.2 | exact fun z => z.2.2.2 | exact fun z => z.2.2.2.2 | exact fun z => z.2.2.2.2.2 | exact fun z => z.2.2.2.2.2.2 | exact fun z => z.2.2.2.2.2.2.2 | exact fun z => z.2.2.2.2.2.2.2.2 | exact fun z => z.2.2.2.2.2.2.2.2.2 | exact fun z => z.2.2.2.2.2.2.2.2.2.2 | exact fun z => z.2.2.2.2.2.2.2.2.2.2.2 | exact fun z => z.2.2.2.2.2.2.2.2.2.2.2.2 | exact fun z => z.2.2.2.2.2.2.2.2.2.2.2.2.2)))))
  (k_with "k_upd" => first | (apply uh8; k_all) | (apply ut8; k_ne; k_upd))
  (k_with "k_updF" => first | (apply fh8; k_all) | (apply ft8; k_ne; k_updF))
  (k_with "k_all" => first | exact List.forall_mem_nil _ | (apply an8; k_ne; k_all))
  (k_with "kcf_all" => first | exact fun _ hp => hp | (apply sb8; (focus kcf_m); kcf_all))
  (k_with "ktr_units" => first | exact uu2 hu rfl | exact uu1 hu rfl | exact uu3 hu rfl | exact uu4 hu rfl)
  (k_with "ktr_room" => first | exact uu2 hdp rfl | exact uu1 hdp rfl | exact uu3 hdp rfl | exact uu4 hdp rfl)
  (k_with "subscriptTail Name UnaryOp ref int" => k_extra "subscriptTail")
  exact trivial
def settledS (c : St) (b : Bool) : List (Int × Bool) := if c.held ≥ 0 then (c.held, b) :: rowsR (c.held + 1) (c.pos - (c.held + 1)).toNat else []
theorem lines4 : True := by
  (k_with "eval ListComp" => (k_here; k_dflt (refine LCg.ListComp_U (F₀ := by k_asm) (by rfl) (by decide) (by rfl) (by decide) (by rfl) ?_)))
  (k_with "CompSrc" => (k_here; refine halt_ ?_))
  (k_with "k_all" => exact tup_off (by k_asm) (by k_mem) (by kcf_all) (by assumption) (by rfl))
  (k_with "call builtin:list.extend" => (k_here; (with_reducible show wpAny _ _ (call (Value.builtin _) [Value.ref _, Value.ref _]) _ _ _); k_dflt (refine' extend_K ?Fq103w ?Nq103w ?bq103w ?Uq103w ?zq103w ?_; (case Fq103w => k_asm); (case Nq103w => k_asm); (case bq103w => k_mem); (case Uq103w => (intro nzz; k_upd)); (case zq103w => (simp only [List.concat_eq_append, List.nil_append, List.length_append, List.length_cons, List.length_nil]; omega)); k_whole); intro nzz _ _ Nzz; (try dsimp only [List.cons_append, List.nil_append] at Nzz); (try k_sweep)))
  exact trivial
set_option maxRecDepth 100000 in
set_option maxHeartbeats 2000000 in
theorem C_settled {w : World} {mean : ExcName → Option Value} {mg mb : Str → Option Value} {dp un : Nat} {gd : Option (List Code)} {cn : Str} {cs : Scope} {a : Addr} {ccd : Value} {cl : List (Str × Addr)} {outer : List Env} {A₀ : Around} {base h₀ : Heap} {L : Addr} {m : Str → Option Value} {s : Shared} {Q E : Value → Shared → Prop} (B : Below A₀ base outer h₀) (F : Fr h₀ L s.heap m) (X : (hd.heap_1 w.params).In h₀) (T : (Top view9 (looseW view9 []) mean mg mb h₀)) (hk : cs.kind = .function) {x dx d : Addr} {c : St} {es : List DictEntry} {b : Bool}
    (N : News h₀ L s.heap [(x, instObj 76 dx), (dx, dictOf es 8)]) (hxd : @LT.lt Nat _ dx x) (S : SIs w d c es) (hp : c.pos < 1000) (hp0 : 0 ≤ c.pos) (hh : c.held < 1000)
    (hdp : dp + 4 < recursionLimit) (hu : un + 40 < cLine)
    (hret : ∀ f vs tl k es' h' tk', KeepBut [x, dx] s.heap h' → Fr h₀ L h' m → News h₀ L h' ((f, listOf vs.toArray k) :: (x, instObj 76 dx) :: (dx, dictOf es' 8) :: tl) → s.heap.get? f = none → SIs w d { c with held := if c.held ≥ 0 then -1 else c.held } es' → RowsIn tl vs (settledS c b) → TupAll tl → Q (.ref f) { s with heap := h', toks := tk' }) :
    wpAny (model PySem.Challenge.rw_on0369_01.row.prog w) (ktrTop dp un gd cn cs L a ccd cl outer) (call (.ref 52) [.ref x, .bool b]) Q E s := by
  w_top off
  refine SIs.out S ?_
  clear S
  intro t0 t1 t2 t3 t4 t5 t6 t7 t8 t9 t10 t11 t12 t13  e9
  subst e9
  refine wpAny_call ?_
  k_dflt (refine' code_defG ?k1 ?k2 ?k3 N ?k5 ?kA ?kF ?kK ?k6 ?k7 ?k8 ?k9 ?kB ?_ ?c2 ?c3 ?c4 ?c5; (case kA => exact rfl); (case kF => exact rfl); (case kK => assumption); (case k1 => k_asm); (case k2 => k_asm); (case k3 => k_asm); (case k5 => k_asm); (case k6 => k_is); (case k7 => k_is); (case k8 => ktr_room); (case k9 => exact BindsTo.of_eq rfl); (case c5 => decide); (case kB => exact locs rfl); (case c2 => exact rfl); (case c3 => exact rfl); (case c4 => exact rfl); k_whole; intro g' L' h' FG' F' N' B' X' T' GS'; (try dsimp only); (try k_fold); refine toks_any fun tk9 => ?_; refine let_fr F' ?_; clear F'; intro m9 F'; refine let_A ?_; intro A9)
  k_steps
  · (with_reducible rename IsRange _ _ _ _ _ _ _ _ => hr1)
    (with_reducible rename Fr _ _ _ _ => F2)
    (with_reducible rename News _ _ _ _ => N2)
    refine Halt.go (LCg.CompSrc.range rfl F2 N2 hr1 (small_one (by omega) (by omega) (by omega) (by omega)) (rangeSize_nat _ _) (by rw [PySem.sizeLine_eq]; omega) fun g => ?_)
    refine rest_rows (fun i v h => h) ?_ ?_
    · intro i t I oI C oC D m₂ ys tl h tk E' hi hyl hC hx F3 N3 off ne
      (try simp only [List.cons_append, List.nil_append] at N3)
      (try k_fold)
      k_steps
      all_goals (refine compEnd_row (by assumption) (by assumption) (by k_mem) (by k_mem) (by k_mem) (by k_mem) (by kcf_all) (by kcf_all) off (by k_ne) (by k_ne) (by k_ne) trivial ⟨_, _, _, rfl, rfl⟩)
    · intro ys tl hr9 ht
      have hyl := hr9.length
      simp only [rowsR, List.length_map, List.length_range] at hyl
      intro D9 h9 tk9 F9 N9 o9
      simp only [List.cons_append, List.nil_append] at N9 o9
      simp only [LCg.Off1] at o9
      k_steps
      refine' hret _ _ ((_, tup2 _ _ _ _) :: tl) _ _ _ _ (keepBut_of (by assumption) GS') (by k_asm) ?n1 ?f1 ?s1 ?r1 ?t1
      case n1 => exact news_sub (by k_asm) (by kcf_all)
      case f1 => exact fresh_of GS' (by assumption) (by k_mem) (by simp only [List.map_cons, List.map_nil, List.mem_cons, List.not_mem_nil, or_false, not_or]; exact ⟨by k_ne, by k_ne⟩)
      case s1 =>
        refine sIs_of ?_
        rw [if_pos (by assumption)]
      case r1 =>
        unfold settledS
        rw [if_pos (by assumption)]
        exact RowsIn.cons (.head _) (hr9.mono fun p hp => .tail _ hp)
      case t1 =>
        intro p hp
        rcases List.mem_cons.mp hp with rfl | hp
        · rfl
        · exact ht p hp
  · refine' hret _ _ [] _ _ _ _ (keepBut_of (by assumption) GS') (by k_asm) ?n1 ?f1 ?s1 ?r1 (fun _ h => nomatch h)
    case n1 => exact news_sub (by k_asm) (by kcf_all)
    case f1 => exact fresh_of GS' (by assumption) (by k_mem) (by simp only [List.map_cons, List.map_nil, List.mem_cons, List.not_mem_nil, or_false, not_or]; exact ⟨by k_ne, by k_ne⟩)
    case s1 =>
      refine sIs_of ?_
      rw [if_neg (by assumption)]
    case r1 =>
      unfold settledS
      rw [if_neg (by assumption)]
      exact .nil
end V3part
section Gen4part
/-! ## the data's objects in the ledger -/
structure DA where
  (d dd mp rm rd sa va df pr wd : Addr)
  om : Obj
  (t0 t1 t2 t3 t5 t6 t7 t8 : Tok)
  (n0 n3 n4 : Nat)
abbrev dataL (w : World) (q : DA) (svs vvs : List Value) : List (Addr × Obj) :=
  [(q.d, instObj 188 q.dd),
   (q.dd, dictOf [⟨PyData.keyHash w.params (Str.ofString "defaults"), .str (Str.ofString "defaults") q.t0, .ref q.df⟩, ⟨PyData.keyHash w.params (Str.ofString "maps"), .str (Str.ofString "maps") q.t1, .ref q.mp⟩,
     ⟨PyData.keyHash w.params (Str.ofString "properties"), .str (Str.ofString "properties") q.t2, .ref q.pr⟩, ⟨PyData.keyHash w.params (Str.ofString "words"), .str (Str.ofString "words") q.t3, .ref q.wd⟩] q.n0),
   (q.mp, q.om),
   (q.rm, instObj 139 q.rd),
   (q.rd, dictOf [⟨PyData.keyHash w.params (Str.ofString "default"), .str (Str.ofString "default") q.t5, .str (Str.ofString "Other") q.t6⟩, ⟨PyData.keyHash w.params (Str.ofString "starts"), .str (Str.ofString "starts") q.t7, .ref q.sa⟩, ⟨PyData.keyHash w.params (Str.ofString "values"), .str (Str.ofString "values") q.t8, .ref q.va⟩] 3),
   (q.sa, listOf svs.toArray q.n3),
   (q.va, listOf vvs.toArray q.n4)]
structure DOk (prog : Program) (w : World) (q : DA) : Prop where
  m : q.om.IsDictOf (PySem.strKind prog w) [(Str.ofString "sb", .ref q.rm)]
  s : (q.mp == sysModules) = false
/-- a ledger of which a callee has read a part -/
theorem news_same {h₀ h h' : Heap} {L : Addr} {l big : List (Addr × Obj)} (N : News h₀ L h big) (hl : ∀ p ∈ l, p ∈ big) (k : KeepBut (l.map (·.1)) h h') (N2 : News h₀ L h' l) : News h₀ L h' big := by
  intro p hp
  by_cases e : p.1 ∈ l.map (·.1)
  · obtain ⟨q, hq, hqe⟩ := List.mem_map.mp e
    have h1 := (N q (hl q hq)).1
    have h2 := (N p hp).1
    have : q = p := Prod.ext hqe (by rw [hqe] at h1; rw [h1] at h2; exact Option.some.inj h2)
    exact this ▸ N2 q hq
  · exact ⟨k _ _ (N p hp).1 e, (N p hp).2⟩
end Gen4part
section V6part
theorem lines5 : True := by
  k_with_none
  (k_with "k_inst" => exact IsInst.at (by assumption) (by k_asm))
  (k_with "compareOp In str ref" => (k_here; (first | (with_reducible refine' in_22 ?Fq105w ?Xq105w ?_) | (with_reducible refine' in_23 ?Fq105w ?Xq105w ?_) | (with_reducible refine' in_24 ?Fq105w ?Xq105w ?_) | (with_reducible refine' in_25 ?Fq105w ?Xq105w ?_) | (with_reducible refine' in_26 ?Fq105w ?Xq105w ?_)); (case Fq105w => k_asm); (case Xq105w => k_asm); k_whole))
  (k_with "compareOp NotIn str ref" => (k_here; (with_reducible refine' notin_22 ?Fq106w ?Xq106w ?_); (case Fq106w => k_asm); (case Xq106w => k_asm); k_whole))
  (k_with "exec For Tuple Call cons nil" => (k_here; (rename Fr _ _ _ _ => lFzz); (with_unfolding_all refine' For_turns lFzz ?_; k_whole)))
  (k_with "call type:enumerate" => (k_here; (with_reducible show wpAny _ _ (call (Value.type _) [Value.ref _]) (fun xv s₁ => wpAny _ _ (pyIter xv) (fun it s₂ => TurnsAt _ _ _ _ _ _ _ _ _ it s₂) _ s₁) _ _); refine halt_ ?_))
  (k_with "TurnPost" => (dsimp only [TurnPost]))
  (k_with "compareOp In str ref" => (k_here; k_dflt (first | (refine' in_made isHang ?Nq110w ?mq110w ?iq110w ?pq110w ?_; (case Nq110w => k_asm); (case mq110w => k_mem); (case iq110w => repeat constructor); (case pq110w => rfl); k_whole) | (refine' in_made isPara ?Nq110w ?mq110w ?iq110w ?pq110w ?_; (case Nq110w => k_asm); (case mq110w => k_mem); (case iq110w => repeat constructor); (case pq110w => rfl); k_whole) | (refine' in_made isLetterS ?Nq110w ?mq110w ?iq110w ?pq110w ?_; (case Nq110w => k_asm); (case mq110w => k_mem); (case iq110w => repeat constructor); (case pq110w => rfl); k_whole) | (refine' in_made isStayS ?Nq110w ?mq110w ?iq110w ?pq110w ?_; (case Nq110w => k_asm); (case mq110w => k_mem); (case iq110w => repeat constructor); (case pq110w => rfl); k_whole))))
  (k_with "compareOp NotIn str ref" => (k_here; k_dflt (first | (refine' notin_made isTerm ?Nq111w ?mq111w ?iq111w ?pq111w ?_; (case Nq111w => k_asm); (case mq111w => k_mem); (case iq111w => repeat constructor); (case pq111w => rfl); k_whole) | (refine' notin_made isPara ?Nq111w ?mq111w ?iq111w ?pq111w ?_; (case Nq111w => k_asm); (case mq111w => k_mem); (case iq111w => repeat constructor); (case pq111w => rfl); k_whole))))
  (k_with "compareOp NotEq ref ref" => (k_here; k_dflt (refine' ne_unitsK ?Nq112w ?aq112w ?uq112w ?sq112w ?bq112w ?oq112w ?rq112w ?_; (case Nq112w => k_asm); (case aq112w => k_mem); (case uq112w => assumption); (case sq112w => kcf_all); (case bq112w => k_mem); (case oq112w => assumption); (case rq112w => ktr_units); k_whole)))
  (k_with "subscriptTail" => (k_here; (with_reducible show wpAny _ _ (subscriptTail _ _ (Value.ref _) (Value.int (-1) _)) _ _ _); k_dflt (refine' item_lastN ?Nq113w ?aq113w ?_ ?hq113w; (case Nq113w => k_asm); (case aq113w => k_mem); (case hq113w => with_unfolding_all rfl); k_whole)))
  (k_with "subscriptTail" => (k_here; (first | ((with_reducible show wpAny _ _ (subscriptTail _ _ (Value.ref _) (Value.int 0 _)) _ _ _); k_dflt (refine' item3_0 ?Nq114w ?aq114w ?sq114w ?_ ?hq114w; (case Nq114w => k_asm); (case aq114w => with_reducible assumption); (case sq114w => kcf_all); (case hq114w => with_unfolding_all rfl); k_whole)) | ((with_reducible show wpAny _ _ (subscriptTail _ _ (Value.ref _) (Value.int 1 _)) _ _ _); k_dflt (refine' item3_1 ?Nq114w ?aq114w ?sq114w ?_ ?hq114w; (case Nq114w => k_asm); (case aq114w => with_reducible assumption); (case sq114w => kcf_all); (case hq114w => with_unfolding_all rfl); k_whole)) | ((with_reducible show wpAny _ _ (subscriptTail _ _ (Value.ref _) (Value.int 2 _)) _ _ _); k_dflt (refine' item3_2 ?Nq114w ?aq114w ?sq114w ?_ ?hq114w; (case Nq114w => k_asm); (case aq114w => with_reducible assumption); (case sq114w => kcf_all); (case hq114w => with_unfolding_all rfl); k_whole)))))
  (k_with "setItem ref int ref" => (k_here; k_dflt (refine' setLast_K ?Fq115w ?Nq115w ?Uq115w ?_; (case Fq115w => k_asm); (case Nq115w => k_asm); (case Uq115w => k_upd); k_whole); intro _ _ _; (try k_sweep)))
  (k_with "k_all" => assumption)
  (k_with "size_fits" => ((rw [PySem.sizeLine_eq]); (simp only [List.size_toArray, List.length_append, List.length_cons, List.length_nil]); omega))
  (k_with "CompSrcT" => (k_here; k_dflt (refine' LCt.CompSrcT.ledger ?hhq118w ?Fq118w ?Nq118w ?mq118w ?zq118w ?_; (case hhq118w => exact rfl); (case Fq118w => k_asm); (case Nq118w => k_asm); (case mq118w => k_mem); (case zq118w => size_fits)); intro _; refine halt_ ?_))
  (k_with "exec Assign cons ListComp" => (k_here; lct_look; k_dflt (refine LCt.Assign_ListComp_T (F₀ := by k_asm) (by rfl) (by with_unfolding_all rfl) (by with_unfolding_all rfl) (by decide) (by rfl) (by decide) (by rfl) (by rfl) (by rfl) ?_)))
  (k_with "CompEnd" => (refine LCg.CompEnd.intro (by assumption) (by assumption) _ (fun _ h9 => h9) (by first | assumption | (simp only [LCg.Off3, and_true]; assumption)) (by lcg_src) ?_; first | exact ⟨⟨_, rfl⟩, rfl, by first | assumption | exact decide_eq_true (by assumption)⟩ | exact ⟨rfl, by first | assumption | exact decide_eq_false (by assumption)⟩))
  (k_with "call builtin:len" => (k_here; (with_reducible show wpAny _ _ (call (Value.builtin "len") [Value.ref _]) _ _ _); k_dflt (refine' kst_len ?k1q121w ?k2q121w ?k3q121w ?k4q121w ?_; (case k1q121w => k_asm); (case k2q121w => k_mem); (case k3q121w => exact rfl); (case k4q121w => omega); k_whole)))
  (k_with "subscriptTail Name Slice ref ref" => (k_here; (with_reducible show wpAny _ _ (subscriptTail _ (PySem.Expr.Slice _ _ none _) (Value.ref _) (Value.ref _)) _ _ _); k_dflt (refine' slice_K ?Fq122w ?Nq122w ?lq122w ?pq122w ?qq122w ?_ ?sq122w ?tq122w ?zq122w; (case Fq122w => k_asm); (case Nq122w => k_asm); (case lq122w => first | exact News.isList (by k_asm) (by k_mem) | exact listBase (by k_asm) (by assumption)); (case pq122w => kmk_part); (case qq122w => kmk_part); (case sq122w => with_unfolding_all rfl); (case tq122w => kmk_pure); (case zq122w => size_fits)); intro _ _ _ Nzz l1zz; (try k_lt l1zz); (try dsimp only at Nzz); (try k_sweep)))
  (k_with "compareOp In ref ref" => (k_here; k_dflt (refine' in_two ?Nq123w ?xq123w ?vq123w ?tq123w ?aq123w ?vaq123w ?bq123w ?vbq123w ?okq123w ?okaq123w ?okbq123w ?uq123w ?_; (case Nq123w => k_asm); (case xq123w => k_mem); (case vq123w => exact strs_pick (by assumption)); (case tq123w => k_mem); (case aq123w => k_mem); (case vaq123w => exact .cons _ _ .nil); (case bq123w => k_mem); (case vbq123w => exact .cons _ _ .nil); (case okq123w => exact pick_sub (by assumption)); (case okaq123w => decide +kernel); (case okbq123w => decide +kernel); (case uq123w => ktr_units); k_whole)))
  (k_with "exec While" => (k_here; refine halt_ ?_))
  (k_with "compareOp NotEq ref ref" => (k_here; k_dflt (first | (refine' ne_bothK ?Nq125w ?aq125w ?bq125w ?uq125w ?_; (case Nq125w => k_asm); (case aq125w => k_mem); (case bq125w => k_mem); (case uq125w => ktr_units); k_whole) | (refine' ne_snocK ?Nq125w ?aq125w ?vq125w ?bq125w ?oq125w ?uq125w ?_; (case Nq125w => k_asm); (case aq125w => k_mem); (case vq125w => assumption); (case bq125w => k_mem); (case oq125w => assumption); (case uq125w => ktr_units); k_whole))))
  (k_with "compareOp Eq ref ref" => (k_here; k_dflt (first | (refine' eq_bothK ?Nq126w ?aq126w ?bq126w ?uq126w ?_; (case Nq126w => k_asm); (case aq126w => k_mem); (case bq126w => k_mem); (case uq126w => ktr_units); k_whole) | (refine' eq_snocK ?Nq126w ?aq126w ?vq126w ?bq126w ?oq126w ?uq126w ?_; (case Nq126w => k_asm); (case aq126w => k_mem); (case vq126w => assumption); (case bq126w => k_mem); (case oq126w => assumption); (case uq126w => ktr_units); k_whole))))
  (k_with "call builtin:list.pop" => (k_here; (with_reducible show wpAny _ _ (call (Value.builtin _) [Value.ref _]) _ _ _); k_dflt (refine' pop_snoc ?Fq127w ?Nq127w ?Uq127w ?zq127w ?_; (case Fq127w => k_asm); (case Nq127w => k_asm); (case Uq127w => k_upd); (case zq127w => size_fits); k_whole); intro _ _ _; (try k_sweep)))
  (k_with "call ref" => (k_here; refine halt_ ?_))
  (k_with "k_ne" => (apply nn8; (try dsimp only); with_reducible ((fail_if_success show @Ne Nat 987654321 _); (fail_if_success show @Ne Nat _ 987654321); first | assumption | (apply nq1; assumption) | (apply nq2; assumption) | (apply nq3; assumption) | (apply nc1; assumption; (first | exact And.left | exact fun z => z.2.1 | exact fun z => z.2.2.1 | exact fun z => z.2.2.2.1 | exact fun z => z.2.2.2.2.1 | exact fun z => z.2.2.2.2.2.1 | exact fun z => z.2.2.2.2.2.2.1 | exact fun z => z.2.2.2.2.2.2.2.1 | exact fun z => z.2.2.2.2.2.2.2.2.1 | exact fun z => z.2.2.2.2.2.2.2.2.2.1 | exact fun z => z.2.2.2.2.2.2.2.2.2.2.1 | exact fun z => z.2.2.2.2.2.2.2.2.2.2.2.1 | exact fun z => z.2.2.2.2.2.2.2.2.2.2.2.2.1 | exact fun z => z.2.2.2.2.2.2.2.2.2.2.2.2.2.1 | exact And.right | exact fun z => z.2.2 | exact fun z => z.2.2.2 | exact fun z => z.2.2.2.2 | exact fun z => z.2.2.2.2.2 | exact fun z => z.2.2.2.2.2.2 | exact fun z => z.2.2.2.2.2.2.2 | exact fun z => z.2.2.2.2.2.2.2.2 | exact fun z => z.2.2.2.2.2.2.2.2.2 | exact fun z => z.2.2.2.2.2.2.2.2.2.2 | exact fun z => z.2.2.2.2.2.2.2.2.2.2.2 | exact fun z => z.2.2.2.2.2.2.2.2.2.2.2.2 | exact fun z => z.2.2.2.2.2.2.2.2.2.2.2.2.2)) | (apply nc2; assumption; (first | exact And.left | exact fun z => z.2.1 | exact fun z => z.2.2.1 | exact fun z => z.2.2.2.1 | exact fun z => z.2.2.2.2.1 | exact fun z => z.2.2.2.2.2.1 | exact fun z => z.2.2.2.2.2.2.1 | exact fun z => z.2.2.2.2.2.2.2.1 | exact fun z => z.2.2.2.2.2.2.2.2.1 | exact fun z => z.2.2.2.2.2.2.2.2.2.1 | exact fun z => z.2.2.2.2.2.2.2.2.2.2.1 | exact fun z => z.2.2.2.2.2.2.2.2.2.2.2.1 | exact fun z => z.2.2.2.2.2.2.2.2.2.2.2.2.1 | exact fun z => z.2.2.2.2.2.2.2.2.2.2.2.2.2.1 | exact And.right | exact fun z => z.2.2 | exact fun z => z.2.2.2 | exact fun z => z.2.2.2.2 | exact fun z => z.2.2.2.2.2 | exact fun z => z.2.2.2.2.2.2 | exact fun z => z.2.2.2.2.2.2.2 | exact fun z => z.2.2.2.2.2.2.2.2 | exact fun z => z.2.2.2.2.2.2.2.2.2 | exact fun z => z.2.2.2.2.2.2.2.2.2.2 | exact fun z => z.2.2.2.2.2.2.2.2.2.2.2 | exact fun z => z.2.2.2.2.2.2.2.2.2.2.2.2 | exact fun z => z.2.2.2.2.2.2.2.2.2.2.2.2.2)) | (apply nc3; assumption; (first | exact And.left | exact fun z => z.2.1 | exact fun z => z.2.2.1 | exact fun z => z.2.2.2.1 | exact fun z => z.2.2.2.2.1 | exact fun z => z.2.2.2.2.2.1 | exact fun z => z.2.2.2.2.2.2.1 | exact fun z => z.2.2.2.2.2.2.2.1 | exact fun z => z.2.2.2.2.2.2.2.2.1 | exact fun z => z.2.2.2.2.2.2.2.2.2.1 | exact fun z => z.2.2.2.2.2.2.2.2.2.2.1 | exact fun z => z.2.2.2.2.2.2.2.2.2.2.2.1 | exact fun z => z.2.2.2.2.2.2.2.2.2.2.2.2.1 | exact fun z => z.2.2.2.2.2.2.2.2.2.2.2.2.2.1 | exact And.right | exact fun z => z.2.2 | exact fun z => z.2.2.2 | exact fun z => z.2.2.2.2 | exact fun z => z.2.2.2.2.2 | exact fun z => z.2.2.2.2.2.2 | exact fun z => z.2.2.2.2.2.2.2 | exact fun z => z.2.2.2.2.2.2.2.2 | exact fun z => z.2.2.2.2.2.2.2.2.2 | exact fun z => z.2.2.2.2.2.2.2.2.2.2 | exact fun z => z.2.2.2.2.2.2.2.2.2.2.2 | exact fun z => z.2.2.2.2.2.2.2.2.2.2.2.2 | exact fun z => z.2.2.2.2.2.2.2.2.2.2.2.2.2)) | (apply nc4; assumption; (first | exact And.left | exact fun z => z.2.1 | exact fun z => z.2.2.1 | exact fun z => z.2.2.2.1 | exact fun z => z.2.2.2.2.1 | exact fun z => z.2.2.2.2.2.1 | exact fun z => z.2.2.2.2.2.2.1 | exact fun z => z.2.2.2.2.2.2.2.1 | exact fun z => z.2.2.2.2.2.2.2.2.1 | exact fun z => z.2.2.2.2.2.2.2.2.2.1 | exact fun z => z.2.2.2.2.2.2.2.2.2.2.1 | exact fun z => z.2.2.2.2.2.2.2.2.2.2.2.1 | exact fun z => z.2.2.2.2.2.2.2.2.2.2.2.2.1 | exact fun z => z.2.2.2.2.2.2.2.2.2.2.2.2.2.1 | exact And.right | exact fun z => z.2.2 | exact fun z => z.2.2.2 | exact fun z => z.2.2.2.2 | exact fun z => z.2.2.2.2.2 | exact fun z => z.2.2.2.2.2.2 | exact fun z => z.2.2.2.2.2.2.2 | exact fun z => z.2.2.2.2.2.2.2.2 | exact fun z => z.2.2.2.2.2.2.2.2.2 | exact fun z => z.2.2.2.2.2.2.2.2.2.2 | exact fun z => z.2.2.2.2.2.2.2.2.2.2.2 | exact fun z => z.2.2.2.2.2.2.2.2.2.2.2.2 | exact fun z => z.2.2.2.2.2.2.2.2.2.2.2.2.2)))))
  (k_with "k_upd" => first | (apply uh8; k_all) | (apply ut8; k_ne; k_upd))
  (k_with "k_updF" => first | (apply fh8; k_all) | (apply ft8; k_ne; k_updF))
  (k_with "k_all" => first | exact List.forall_mem_nil _ | (apply an8; k_ne; k_all))
  (k_with "kcf_all" => first | exact fun _ hp => hp | (apply sb8; (focus kcf_m); kcf_all))
  (k_with "ktr_units" => first | exact uu2 hu rfl | exact uu1 hu rfl | exact uu3 hu rfl | exact uu4 hu rfl)
  (k_with "ktr_room" => first | exact uu2 hdp rfl | exact uu1 hdp rfl | exact uu3 hdp rfl | exact uu4 hdp rfl)
  (k_with "subscriptTail Name UnaryOp ref int" => k_extra "subscriptTail")
  exact trivial
@[irreducible] def placeS (ns : List Int) (x : Int) : Int := ((ns.filter (fun n => decide (n ≤ x))).length : Int) - 1
theorem placeS_of {ns : List Int} {x : Int} {low : Nat} (hl : low ≤ ns.length) (h1 : ∀ i k, i < low → ns[i]? = some k → k ≤ x) (h2 : ∀ i k, low ≤ i → ns[i]? = some k → x < k) : placeS ns x = (low : Int) - 1 := by
  unfold placeS
  have e : ns = ns.take low ++ ns.drop low := (List.take_append_drop low ns).symm
  have a1 : (ns.take low).filter (fun n => decide (n ≤ x)) = ns.take low := List.filter_eq_self.mpr fun k hk => by
    obtain ⟨i, e⟩ := List.mem_iff_getElem?.mp hk
    have hi : i < low := by have := (List.getElem?_eq_some_iff.mp e).1; rw [List.length_take] at this; omega
    rw [List.getElem?_take_of_lt hi] at e
    exact decide_eq_true (h1 i k hi e)
  have a2 : (ns.drop low).filter (fun n => decide (n ≤ x)) = [] := List.filter_eq_nil_iff.mpr fun k hk => by
    obtain ⟨i, e⟩ := List.mem_iff_getElem?.mp hk
    rw [List.getElem?_drop] at e
    have := h2 _ _ (Nat.le_add_right _ _) e
    simp; omega
  rw [e, List.filter_append, a1, a2, List.append_nil, List.length_take, Nat.min_eq_left hl]
section
variable {prog : Program} {w : World} {A : Around} {E : Value → Shared → Prop} {s : Shared} {l : Addr} {vs : List Value} {k : Int} {u : Tok} {v : Value} {value slice : PySem.Expr} {Q : Value → Shared → Prop}
theorem item_at (hl : s.heap.IsList l vs.toArray) (h0 : 0 ≤ k) (h1 : k < 2 ^ 63) (hx : vs[k.toNat]? = some v) (h : Q v s)
    (hs : subscripted slice false (.ref l) (.int k u) = operate [.ref l, .int k u] (getItem (.ref l) (.int k u)) := by with_unfolding_all rfl) :
    wpAny (model prog w) A (subscriptTail value slice (.ref l) (.int k u)) Q E s :=
  tail_any hl.typeIs slot_list_getitem.lookup (wpAny_getItem_list hl h0 h1 (by simpa using hx) h) hs
theorem len_base (hl : s.heap.IsList l vs.toArray) (hz : vs.length < 10000) (h : Q (.int (vs.length : Int) (s.toks + 1)) { s with toks := s.toks + 1 + 1 }) : wpAny (model prog w) A (call (.builtin "len") [.ref l]) Q E s :=
  Calls.call_len_list hl (by simp; omega) (by simpa using h)
end
theorem ints_at {ns : List Int} (hs : ns.Pairwise (· < ·)) {i j : Nat} {a b : Int} (hi : ns[i]? = some a) (hj : ns[j]? = some b) (h : i ≤ j) : a ≤ b := by
  rcases Nat.lt_or_ge i j with h | h'
  · have h1 := (List.getElem?_eq_some_iff.mp hi)
    have h2 := (List.getElem?_eq_some_iff.mp hj)
    have := List.pairwise_iff_getElem.mp hs i j h1.1 h2.1 h
    rw [h1.2, h2.2] at this; omega
  · have : i = j := by omega
    subst this
    rw [hi] at hj; have := Option.some.inj hj; omega
theorem nLH : Str.ofString "low" ≠ Str.ofString "high" ∧ Str.ofString "low" ≠ Str.ofString "middle" ∧ Str.ofString "high" ≠ Str.ofString "middle" := by decide +kernel
section
variable {prog : Program} {w : World} {A : Around} {E : Value → Shared → Prop} {s : Shared} {env : Env} {h₀ : Heap} {L : Addr} {mB : Str → Option Value} {ns : List Int} {x : Int}
def PlaceEnd (h₀ : Heap) (L : Addr) (mB : Str → Option Value) (ns : List Int) (x lo hi : Int) (s : Shared) (f : Flow) (s₂ : Shared) : Prop :=
  f = .next ∧ ∃ h' tk' m' mi k lo' hi', s₂ = { s with heap := h', toks := tk' } ∧ Fr h₀ L h' m' ∧ (∃ t1 t2 mid, m' = fun y => if y = Str.ofString "low" then some (.int lo' t1) else if y = Str.ofString "high" then some (.int hi' t2) else if y = Str.ofString "middle" then mid else mB y) ∧
    lo ≤ mi ∧ mi < hi ∧ ns[mi.toNat]? = some k ∧ ((k ≤ x ∧ lo' = mi + 1 ∧ hi' = hi) ∨ (x < k ∧ lo' = lo ∧ hi' = mi))
theorem PlaceEnd.intro {lo hi mi k : Int} {h' : Heap} {tk' : Nat} {m' : Str → Option Value} (F : Fr h₀ L h' m') (lo' hi' : Int) (t1 t2 : Tok) (mid : Option Value)
    (e : ∀ y, m' y = if y = Str.ofString "low" then some (.int lo' t1) else if y = Str.ofString "high" then some (.int hi' t2) else if y = Str.ofString "middle" then mid else mB y)
    (h1 : lo ≤ mi) (h2 : mi < hi) (hk : ns[mi.toNat]? = some k) (h : (k ≤ x ∧ lo' = mi + 1 ∧ hi' = hi) ∨ (x < k ∧ lo' = lo ∧ hi' = mi)) : PlaceEnd h₀ L mB ns x lo hi s .next { s with heap := h', toks := tk' } :=
  ⟨rfl, h', tk', m', mi, k, lo', hi', rfl, F, ⟨t1, t2, mid, funext e⟩, h1, h2, hk, h⟩
theorem while_place {test : PySem.Expr} {body : List Stmt} {pos : Pos} {Q : Flow → Shared → Prop} {t1 : Tok} (hs : ns.Pairwise (· < ·))
    (F : Fr h₀ L s.heap mB) (N : News h₀ L s.heap []) (hlo : mB (Str.ofString "low") = some (.int 0 t1)) (hhi : ∃ t2, mB (Str.ofString "high") = some (.int ns.length t2))
    (turn : ∀ (lo hi : Int) t1 t2 mid h tk, 0 ≤ lo → lo ≤ hi → hi ≤ ns.length → Fr h₀ L h (fun y => if y = Str.ofString "low" then some (.int lo t1) else if y = Str.ofString "high" then some (.int hi t2) else if y = Str.ofString "middle" then mid else mB y) → News h₀ L h [] →
      wpAny (model prog w) A (isTrue test env (eval test env)) (fun b s₂ => b = decide (lo < hi) ∧ SameAt h₀ L (fun y => if y = Str.ofString "low" then some (.int lo t1) else if y = Str.ofString "high" then some (.int hi t2) else if y = Str.ofString "middle" then mid else mB y) [] s s₂) E { s with heap := h, toks := tk })
    (bodyW : ∀ (lo hi : Int) t1 t2 mid h tk, 0 ≤ lo → lo < hi → hi ≤ ns.length → Fr h₀ L h (fun y => if y = Str.ofString "low" then some (.int lo t1) else if y = Str.ofString "high" then some (.int hi t2) else if y = Str.ofString "middle" then mid else mB y) → News h₀ L h [] →
      wpAny (model prog w) A (execs body env) (PlaceEnd h₀ L mB ns x lo hi s) E { s with heap := h, toks := tk })
    (done : ∀ (lo : Int) t1 t2 mid h tk, placeS ns x = lo - 1 → 0 ≤ lo → lo ≤ ns.length → Fr h₀ L h (fun y => if y = Str.ofString "low" then some (.int lo t1) else if y = Str.ofString "high" then some (.int lo t2) else if y = Str.ofString "middle" then mid else mB y) → News h₀ L h [] → Q .next { s with heap := h, toks := tk })
    (hE : PassesOwn (model prog w) A env E := by passes_own) :
    wpAny (model prog w) A (exec (.While test body [] pos) env) Q E s := by
  obtain ⟨t2, hhi⟩ := hhi
  have e0 : mB = fun y => if y = Str.ofString "low" then some (.int 0 t1) else if y = Str.ofString "high" then some (.int ns.length t2) else if y = Str.ofString "middle" then mB (Str.ofString "middle") else mB y := by
    funext y
    split
    · rename_i h; rw [h, hlo]
    · split
      · rename_i h; rw [h, hhi]
      · split
        · rename_i h; rw [h]
        · rfl
  refine While_inv2 (n₀ := ns.length) (fun n m nx => nx = [] ∧ ∃ (lo hi : Int) (t1 t2 : Tok) (mid : Option Value), (m = fun y => if y = Str.ofString "low" then some (.int lo t1) else if y = Str.ofString "high" then some (.int hi t2) else if y = Str.ofString "middle" then mid else mB y) ∧ 0 ≤ lo ∧ lo ≤ hi ∧ hi ≤ ns.length ∧ (hi - lo).toNat = n ∧
    (∀ (i : Nat) (k : Int), i < lo.toNat → ns[i]? = some k → k ≤ x) ∧ (∀ (i : Nat) (k : Int), hi.toNat ≤ i → ns[i]? = some k → x < k)) F N ⟨rfl, 0, ns.length, t1, t2, mB (Str.ofString "middle"), e0, by omega, by omega, by omega, by omega, ?_, ?_⟩ ?_ hE
  · intro i k h; simp at h
  · intro i k h e
    have := (List.getElem?_eq_some_iff.mp e).1
    simp at h; omega
  rintro n m₁ nx h tk F₁ N₁ ⟨rfl, lo, hi, t1, t2, mid, rfl, h0, h1, h2, hn, hA, hB⟩
  refine wpAny_mono (turn lo hi t1 t2 mid h tk h0 h1 h2 F₁ N₁) (fun b s₂ hb => ?_) fun _ _ e => e
  obtain ⟨rfl, h', tk', all, rfl, F', N', hsub⟩ := hb
  by_cases hlt : lo < hi
  · simp only [decide_eq_true hlt, if_true]
    refine wpAny_mono (bodyW lo hi t1 t2 mid h' tk' h0 hlt h2 F' (fun _ h => nomatch h)) (fun f s₃ hf => ?_) fun _ _ e => e
    obtain ⟨rfl, h3, tk3, m', mi, k, lo', hi', rfl, F3, ⟨t1', t2', mid', rfl⟩, c1, c2, hk, hc⟩ := hf
    refine ⟨h3, tk3, _, [], (hi' - lo').toNat, rfl, F3, (fun _ h => nomatch h), ?_, rfl, lo', hi', t1', t2', mid', rfl, ?_, ?_, ?_, rfl, ?_, ?_⟩
    · omega
    · omega
    · omega
    · omega
    · rcases hc with ⟨hkx, rfl, rfl⟩ | ⟨hkx, rfl, rfl⟩
      · intro i a hi' e
        have := ints_at hs e hk (by omega)
        omega
      · exact hA
    · rcases hc with ⟨hkx, rfl, rfl⟩ | ⟨hkx, rfl, rfl⟩
      · exact hB
      · intro i a hi' e
        have := ints_at hs hk e (by omega)
        omega
  · simp only [decide_eq_false hlt, Bool.false_eq_true, if_false]
    have e : hi = lo := by omega
    subst e
    refine done hi t1 t2 mid h' tk' ?_ h0 h2 F' (fun _ h => nomatch h)
    rw [placeS_of (low := hi.toNat) (by omega) hA hB]
    omega
end
theorem lines6 : True := by
  (k_with "call builtin:len" => (k_here; (with_reducible show wpAny _ _ (call (Value.builtin "len") [Value.ref _]) _ _ _); k_dflt (refine' len_base ?k1q137w ?k2q137w ?_; (case k1q137w => exact listBase (by k_asm) (by assumption)); (case k2q137w => omega); k_whole)))
  (k_with "subscriptTail Name Name ref int" => (k_here; refine halt_ ?_))
  exact trivial
set_option maxRecDepth 100000 in
set_option maxHeartbeats 2000000 in
theorem C_place {w : World} {mean : ExcName → Option Value} {mg mb : Str → Option Value} {dp un : Nat} {gd : Option (List Code)} {cn : Str} {cs : Scope} {a : Addr} {ccd : Value} {cl : List (Str × Addr)} {outer : List Env} {A₀ : Around} {base h₀ : Heap} {L : Addr} {m : Str → Option Value} {s : Shared} {Q E : Value → Shared → Prop} (B : Below A₀ base outer h₀) (F : Fr h₀ L s.heap m) (X : (hd.heap_1 w.params).In h₀) (T : (Top view9 (looseW view9 []) mean mg mb h₀)) (hk : cs.kind = .function) {l : Addr} {vs : List Value} {ns : List Int} {nn : Nat} {x : Int} {xt : Tok} {news : List (Addr × Obj)}
    (N : News h₀ L s.heap news) (hl : s.heap.get? l = some (listOf vs.toArray nn)) (hv : IntsAre vs ns) (hlen : ns.length < 1000) (hsort : ns.Pairwise (· < ·))
    (hdp : dp + 4 < recursionLimit) (hu : un + 40 < cLine)
    (hret : ∀ t' h' tk', s.heap.StaysIn h' → Fr h₀ L h' m → News h₀ L h' news → Q (.int (placeS ns x) t') { s with heap := h', toks := tk' }) :
    wpAny (model PySem.Challenge.rw_on0369_01.row.prog w) (ktrTop dp un gd cn cs L a ccd cl outer) (call (.ref 87) [.ref l, .int x xt]) Q E s := by
  w_top off
  have hvl := ints_length hv
  have hL : s.heap.IsList l vs.toArray := ⟨_, hl, rfl, _, rfl⟩
  refine wpAny_call ?_
  k_dflt (refine' code_def0 ?k1 ?k2 ?k3 ?k5 ?kA ?kF ?kK ?k6 ?k7 ?k8 ?k9 ?kB ?_ ?c2 ?c3 ?c4 ?c5; (case kA => exact rfl); (case kF => exact rfl); (case kK => assumption); (case k1 => k_asm); (case k2 => k_asm); (case k3 => k_asm); (case k5 => k_asm); (case k6 => k_is); (case k7 => k_is); (case k8 => ktr_room); (case k9 => exact BindsTo.of_eq rfl); (case c5 => decide); (case kB => exact locs rfl); (case c2 => exact rfl); (case c3 => exact rfl); (case c4 => exact rfl); k_whole; intro L' h' F' N' B' X' T'; (try dsimp only); (try k_fold); refine toks_any fun tk9 => ?_; refine let_fr F' ?_; clear F'; intro m9 F'; refine let_A ?_; intro A9)
  k_steps
  (with_reducible rename Fr _ _ _ _ => F1)
  (with_reducible rename News _ _ _ _ => N1)
  refine Halt.go (while_place (x := x) hsort F1 N1 rfl ⟨_, by rw [← hvl]; rfl⟩ ?_ ?_ ?_)
  · intro lo hi t1 t2 mid h2 tk2 c1 c2 c3 F2 N2
    (try k_fold)
    k_steps
    all_goals first | exact SameAt.intro (by assumption) (by assumption) (by kcf_all) | rfl
  · intro lo hi t1 t2 mid h2 tk2 c1 c2 c3 F2 N2
    have hmi : Int.fdiv (lo + hi) 2 = (lo + hi) / 2 := Int.fdiv_eq_ediv_of_nonneg _ (by decide)
    have hm1 : lo ≤ Int.fdiv (lo + hi) 2 := by rw [hmi]; omega
    have hm2 : Int.fdiv (lo + hi) 2 < hi := by rw [hmi]; omega
    have hm3 : (Int.fdiv (lo + hi) 2).toNat < ns.length := by omega
    obtain ⟨k9, hk9⟩ : ∃ k, ns[(Int.fdiv (lo + hi) 2).toNat]? = some k := ⟨_, List.getElem?_eq_getElem hm3⟩
    obtain ⟨t9, hv9⟩ := ints_get hv hk9
    (try k_fold)
    k_steps
    refine Halt.go (item_at (listBase (by k_asm) (by assumption)) (by omega) (by omega) hv9 ?_)
    k_steps
    · refine' PlaceEnd.intro (by assumption) ((lo + hi).fdiv 2 + 1) hi _ t2 _ ?e hm1 hm2 hk9 (.inl ⟨by assumption, rfl, rfl⟩)
      case e =>
        intro y
        by_cases e1 : y = Str.ofString "low"
        · subst e1; rfl
        · by_cases e3 : y = Str.ofString "middle"
          · subst e3; rfl
          · by_cases e2 : y = Str.ofString "high"
            · subst e2; rfl
            · simp only [e1, e2, e3, if_false]
    · refine' PlaceEnd.intro (by assumption) lo ((lo + hi).fdiv 2) t1 _ _ ?e hm1 hm2 hk9 (.inr ⟨by omega, rfl, rfl⟩)
      case e =>
        intro y
        by_cases e1 : y = Str.ofString "low"
        · subst e1; rfl
        · by_cases e3 : y = Str.ofString "middle"
          · subst e3; rfl
          · by_cases e2 : y = Str.ofString "high"
            · subst e2; rfl
            · simp only [e1, e2, e3, if_false]
  · intro lo t1 t2 mid h2 tk2 hp c1 c2 F2 N2
    k_steps
    all_goals (rw [← hp]; exact hret _ _ _ F2.keep (fr_grow F F2.keep) (news_grow N F2.keep))
end V6part
section V7part
theorem lines7 : True := by
  k_with_none
  (k_with "k_inst" => exact IsInst.at (by assumption) (by k_asm))
  (k_with "compareOp In str ref" => (k_here; (first | (with_reducible refine' in_22 ?Fq140w ?Xq140w ?_) | (with_reducible refine' in_23 ?Fq140w ?Xq140w ?_) | (with_reducible refine' in_24 ?Fq140w ?Xq140w ?_) | (with_reducible refine' in_25 ?Fq140w ?Xq140w ?_) | (with_reducible refine' in_26 ?Fq140w ?Xq140w ?_)); (case Fq140w => k_asm); (case Xq140w => k_asm); k_whole))
  (k_with "compareOp NotIn str ref" => (k_here; (with_reducible refine' notin_22 ?Fq141w ?Xq141w ?_); (case Fq141w => k_asm); (case Xq141w => k_asm); k_whole))
  (k_with "exec For Tuple Call cons nil" => (k_here; (rename Fr _ _ _ _ => lFzz); (with_unfolding_all refine' For_turns lFzz ?_; k_whole)))
  (k_with "call type:enumerate" => (k_here; (with_reducible show wpAny _ _ (call (Value.type _) [Value.ref _]) (fun xv s₁ => wpAny _ _ (pyIter xv) (fun it s₂ => TurnsAt _ _ _ _ _ _ _ _ _ it s₂) _ s₁) _ _); refine halt_ ?_))
  (k_with "TurnPost" => (dsimp only [TurnPost]))
  (k_with "compareOp In str ref" => (k_here; k_dflt (first | (refine' in_made isHang ?Nq145w ?mq145w ?iq145w ?pq145w ?_; (case Nq145w => k_asm); (case mq145w => k_mem); (case iq145w => repeat constructor); (case pq145w => rfl); k_whole) | (refine' in_made isPara ?Nq145w ?mq145w ?iq145w ?pq145w ?_; (case Nq145w => k_asm); (case mq145w => k_mem); (case iq145w => repeat constructor); (case pq145w => rfl); k_whole) | (refine' in_made isLetterS ?Nq145w ?mq145w ?iq145w ?pq145w ?_; (case Nq145w => k_asm); (case mq145w => k_mem); (case iq145w => repeat constructor); (case pq145w => rfl); k_whole) | (refine' in_made isStayS ?Nq145w ?mq145w ?iq145w ?pq145w ?_; (case Nq145w => k_asm); (case mq145w => k_mem); (case iq145w => repeat constructor); (case pq145w => rfl); k_whole))))
  (k_with "compareOp NotIn str ref" => (k_here; k_dflt (first | (refine' notin_made isTerm ?Nq146w ?mq146w ?iq146w ?pq146w ?_; (case Nq146w => k_asm); (case mq146w => k_mem); (case iq146w => repeat constructor); (case pq146w => rfl); k_whole) | (refine' notin_made isPara ?Nq146w ?mq146w ?iq146w ?pq146w ?_; (case Nq146w => k_asm); (case mq146w => k_mem); (case iq146w => repeat constructor); (case pq146w => rfl); k_whole))))
  (k_with "compareOp NotEq ref ref" => (k_here; k_dflt (refine' ne_unitsK ?Nq147w ?aq147w ?uq147w ?sq147w ?bq147w ?oq147w ?rq147w ?_; (case Nq147w => k_asm); (case aq147w => k_mem); (case uq147w => assumption); (case sq147w => kcf_all); (case bq147w => k_mem); (case oq147w => assumption); (case rq147w => ktr_units); k_whole)))
  (k_with "subscriptTail" => (k_here; (with_reducible show wpAny _ _ (subscriptTail _ _ (Value.ref _) (Value.int (-1) _)) _ _ _); k_dflt (refine' item_lastN ?Nq148w ?aq148w ?_ ?hq148w; (case Nq148w => k_asm); (case aq148w => k_mem); (case hq148w => with_unfolding_all rfl); k_whole)))
  (k_with "subscriptTail" => (k_here; (first | ((with_reducible show wpAny _ _ (subscriptTail _ _ (Value.ref _) (Value.int 0 _)) _ _ _); k_dflt (refine' item3_0 ?Nq149w ?aq149w ?sq149w ?_ ?hq149w; (case Nq149w => k_asm); (case aq149w => with_reducible assumption); (case sq149w => kcf_all); (case hq149w => with_unfolding_all rfl); k_whole)) | ((with_reducible show wpAny _ _ (subscriptTail _ _ (Value.ref _) (Value.int 1 _)) _ _ _); k_dflt (refine' item3_1 ?Nq149w ?aq149w ?sq149w ?_ ?hq149w; (case Nq149w => k_asm); (case aq149w => with_reducible assumption); (case sq149w => kcf_all); (case hq149w => with_unfolding_all rfl); k_whole)) | ((with_reducible show wpAny _ _ (subscriptTail _ _ (Value.ref _) (Value.int 2 _)) _ _ _); k_dflt (refine' item3_2 ?Nq149w ?aq149w ?sq149w ?_ ?hq149w; (case Nq149w => k_asm); (case aq149w => with_reducible assumption); (case sq149w => kcf_all); (case hq149w => with_unfolding_all rfl); k_whole)))))
  (k_with "setItem ref int ref" => (k_here; k_dflt (refine' setLast_K ?Fq150w ?Nq150w ?Uq150w ?_; (case Fq150w => k_asm); (case Nq150w => k_asm); (case Uq150w => k_upd); k_whole); intro _ _ _; (try k_sweep)))
  (k_with "k_all" => assumption)
  (k_with "size_fits" => ((rw [PySem.sizeLine_eq]); (simp only [List.size_toArray, List.length_append, List.length_cons, List.length_nil]); omega))
  (k_with "CompSrcT" => (k_here; k_dflt (refine' LCt.CompSrcT.ledger ?hhq153w ?Fq153w ?Nq153w ?mq153w ?zq153w ?_; (case hhq153w => exact rfl); (case Fq153w => k_asm); (case Nq153w => k_asm); (case mq153w => k_mem); (case zq153w => size_fits)); intro _; refine halt_ ?_))
  (k_with "exec Assign cons ListComp" => (k_here; lct_look; k_dflt (refine LCt.Assign_ListComp_T (F₀ := by k_asm) (by rfl) (by with_unfolding_all rfl) (by with_unfolding_all rfl) (by decide) (by rfl) (by decide) (by rfl) (by rfl) (by rfl) ?_)))
  (k_with "CompEnd" => (refine LCg.CompEnd.intro (by assumption) (by assumption) _ (fun _ h9 => h9) (by first | assumption | (simp only [LCg.Off3, and_true]; assumption)) (by lcg_src) ?_; first | exact ⟨⟨_, rfl⟩, rfl, by first | assumption | exact decide_eq_true (by assumption)⟩ | exact ⟨rfl, by first | assumption | exact decide_eq_false (by assumption)⟩))
  (k_with "call builtin:len" => (k_here; (with_reducible show wpAny _ _ (call (Value.builtin "len") [Value.ref _]) _ _ _); k_dflt (refine' kst_len ?k1q156w ?k2q156w ?k3q156w ?k4q156w ?_; (case k1q156w => k_asm); (case k2q156w => k_mem); (case k3q156w => exact rfl); (case k4q156w => omega); k_whole)))
  (k_with "subscriptTail Name Slice ref ref" => (k_here; (with_reducible show wpAny _ _ (subscriptTail _ (PySem.Expr.Slice _ _ none _) (Value.ref _) (Value.ref _)) _ _ _); k_dflt (refine' slice_K ?Fq157w ?Nq157w ?lq157w ?pq157w ?qq157w ?_ ?sq157w ?tq157w ?zq157w; (case Fq157w => k_asm); (case Nq157w => k_asm); (case lq157w => first | exact News.isList (by k_asm) (by k_mem) | exact listBase (by k_asm) (by assumption)); (case pq157w => kmk_part); (case qq157w => kmk_part); (case sq157w => with_unfolding_all rfl); (case tq157w => kmk_pure); (case zq157w => size_fits)); intro _ _ _ Nzz l1zz; (try k_lt l1zz); (try dsimp only at Nzz); (try k_sweep)))
  (k_with "compareOp In ref ref" => (k_here; k_dflt (refine' in_two ?Nq158w ?xq158w ?vq158w ?tq158w ?aq158w ?vaq158w ?bq158w ?vbq158w ?okq158w ?okaq158w ?okbq158w ?uq158w ?_; (case Nq158w => k_asm); (case xq158w => k_mem); (case vq158w => exact strs_pick (by assumption)); (case tq158w => k_mem); (case aq158w => k_mem); (case vaq158w => exact .cons _ _ .nil); (case bq158w => k_mem); (case vbq158w => exact .cons _ _ .nil); (case okq158w => exact pick_sub (by assumption)); (case okaq158w => decide +kernel); (case okbq158w => decide +kernel); (case uq158w => ktr_units); k_whole)))
  (k_with "exec While" => (k_here; refine halt_ ?_))
  (k_with "compareOp NotEq ref ref" => (k_here; k_dflt (first | (refine' ne_bothK ?Nq160w ?aq160w ?bq160w ?uq160w ?_; (case Nq160w => k_asm); (case aq160w => k_mem); (case bq160w => k_mem); (case uq160w => ktr_units); k_whole) | (refine' ne_snocK ?Nq160w ?aq160w ?vq160w ?bq160w ?oq160w ?uq160w ?_; (case Nq160w => k_asm); (case aq160w => k_mem); (case vq160w => assumption); (case bq160w => k_mem); (case oq160w => assumption); (case uq160w => ktr_units); k_whole))))
  (k_with "compareOp Eq ref ref" => (k_here; k_dflt (first | (refine' eq_bothK ?Nq161w ?aq161w ?bq161w ?uq161w ?_; (case Nq161w => k_asm); (case aq161w => k_mem); (case bq161w => k_mem); (case uq161w => ktr_units); k_whole) | (refine' eq_snocK ?Nq161w ?aq161w ?vq161w ?bq161w ?oq161w ?uq161w ?_; (case Nq161w => k_asm); (case aq161w => k_mem); (case vq161w => assumption); (case bq161w => k_mem); (case oq161w => assumption); (case uq161w => ktr_units); k_whole))))
  (k_with "call builtin:list.pop" => (k_here; (with_reducible show wpAny _ _ (call (Value.builtin _) [Value.ref _]) _ _ _); k_dflt (refine' pop_snoc ?Fq162w ?Nq162w ?Uq162w ?zq162w ?_; (case Fq162w => k_asm); (case Nq162w => k_asm); (case Uq162w => k_upd); (case zq162w => size_fits); k_whole); intro _ _ _; (try k_sweep)))
  (k_with "call ref" => (k_here; refine halt_ ?_))
  (k_with "k_ne" => (apply nn8; (try dsimp only); with_reducible ((fail_if_success show @Ne Nat 987654321 _); (fail_if_success show @Ne Nat _ 987654321); first | assumption | (apply nq1; assumption) | (apply nq2; assumption) | (apply nq3; assumption) | (apply nc1; assumption; (first | exact And.left | exact fun z => z.2.1 | exact fun z => z.2.2.1 | exact fun z => z.2.2.2.1 | exact fun z => z.2.2.2.2.1 | exact fun z => z.2.2.2.2.2.1 | exact fun z => z.2.2.2.2.2.2.1 | exact fun z => z.2.2.2.2.2.2.2.1 | exact fun z => z.2.2.2.2.2.2.2.2.1 | exact fun z => z.2.2.2.2.2.2.2.2.2.1 | exact fun z => z.2.2.2.2.2.2.2.2.2.2.1 | exact fun z => z.2.2.2.2.2.2.2.2.2.2.2.1 | exact fun z => z.2.2.2.2.2.2.2.2.2.2.2.2.1 | exact fun z => z.2.2.2.2.2.2.2.2.2.2.2.2.2.1 | exact And.right | exact fun z => z.2.2 | exact fun z => z.2.2.2 | exact fun z => z.2.2.2.2 | exact fun z => z.2.2.2.2.2 | exact fun z => z.2.2.2.2.2.2 | exact fun z => z.2.2.2.2.2.2.2 | exact fun z => z.2.2.2.2.2.2.2.2 | exact fun z => z.2.2.2.2.2.2.2.2.2 | exact fun z => z.2.2.2.2.2.2.2.2.2.2 | exact fun z => z.2.2.2.2.2.2.2.2.2.2.2 | exact fun z => z.2.2.2.2.2.2.2.2.2.2.2.2 | exact fun z => z.2.2.2.2.2.2.2.2.2.2.2.2.2)) | (apply nc2; assumption; (first | exact And.left | exact fun z => z.2.1 | exact fun z => z.2.2.1 | exact fun z => z.2.2.2.1 | exact fun z => z.2.2.2.2.1 | exact fun z => z.2.2.2.2.2.1 | exact fun z => z.2.2.2.2.2.2.1 | exact fun z => z.2.2.2.2.2.2.2.1 | exact fun z => z.2.2.2.2.2.2.2.2.1 | exact fun z => z.2.2.2.2.2.2.2.2.2.1 | exact fun z => z.2.2.2.2.2.2.2.2.2.2.1 | exact fun z => z.2.2.2.2.2.2.2.2.2.2.2.1 | exact fun z => z.2.2.2.2.2.2.2.2.2.2.2.2.1 | exact fun z => z.2.2.2.2.2.2.2.2.2.2.2.2.2.1 | exact And.right | exact fun z => z.2.2 | exact fun z => z.2.2.2 | exact fun z => z.2.2.2.2 | exact fun z => z.2.2.2.2.2 | exact fun z => z.2.2.2.2.2.2 | exact fun z => z.2.2.2.2.2.2.2 | exact fun z => z.2.2.2.2.2.2.2.2 | exact fun z => z.2.2.2.2.2.2.2.2.2 | exact fun z => z.2.2.2.2.2.2.2.2.2.2 | exact fun z => z.2.2.2.2.2.2.2.2.2.2.2 | exact fun z => z.2.2.2.2.2.2.2.2.2.2.2.2 | exact fun z => z.2.2.2.2.2.2.2.2.2.2.2.2.2)) | (apply nc3; assumption; (first | exact And.left | exact fun z => z.2.1 | exact fun z => z.2.2.1 | exact fun z => z.2.2.2.1 | exact fun z => z.2.2.2.2.1 | exact fun z => z.2.2.2.2.2.1 | exact fun z => z.2.2.2.2.2.2.1 | exact fun z => z.2.2.2.2.2.2.2.1 | exact fun z => z.2.2.2.2.2.2.2.2.1 | exact fun z => z.2.2.2.2.2.2.2.2.2.1 | exact fun z => z.2.2.2.2.2.2.2.2.2.2.1 | exact fun z => z.2.2.2.2.2.2.2.2.2.2.2.1 | exact fun z => z.2.2.2.2.2.2.2.2.2.2.2.2.1 | exact fun z => z.2.2.2.2.2.2.2.2.2.2.2.2.2.1 | exact And.right | exact fun z => z.2.2 | exact fun z => z.2.2.2 | exact fun z => z.2.2.2.2 | exact fun z => z.2.2.2.2.2 | exact fun z => z.2.2.2.2.2.2 | exact fun z => z.2.2.2.2.2.2.2 | exact fun z => z.2.2.2.2.2.2.2.2 | exact fun z => z.2.2.2.2.2.2.2.2.2 | exact fun z => z.2.2.2.2.2.2.2.2.2.2 | exact fun z => z.2.2.2.2.2.2.2.2.2.2.2 | exact fun z => z.2.2.2.2.2.2.2.2.2.2.2.2 | exact fun z => z.2.2.2.2.2.2.2.2.2.2.2.2.2)) | (apply nc4; assumption; (first | exact And.left | exact fun z => z.2.1 | exact fun z => z.2.2.1 | exact fun z => z.2.2.2.1 | exact fun z => z.2.2.2.2.1 | exact fun z => z.2.2.2.2.2.1 | exact fun z => z.2.2.2.2.2.2.1 | exact fun z => z.2.2.2.2.2.2.2.1 | exact fun z => z.2.2.2.2.2.2.2.2.1 | exact fun z => z.2.2.2.2.2.2.2.2.2.1 | exact fun z => z.2.2.2.2.2.2.2.2.2.2.1 | exact fun z => z.2.2.2.2.2.2.2.2.2.2.2.1 | exact fun z => z.2.2.2.2.2.2.2.2.2.2.2.2.1 | exact fun z => z.2.2.2.2.2.2.2.2.2.2.2.2.2.1 | exact And.right | exact fun z => z.2.2 | exact fun z => z.2.2.2 | exact fun z => z.2.2.2.2 | exact fun z => z.2.2.2.2.2 | exact fun z => z.2.2.2.2.2.2 | exact fun z => z.2.2.2.2.2.2.2 | exact fun z => z.2.2.2.2.2.2.2.2 | exact fun z => z.2.2.2.2.2.2.2.2.2 | exact fun z => z.2.2.2.2.2.2.2.2.2.2 | exact fun z => z.2.2.2.2.2.2.2.2.2.2.2 | exact fun z => z.2.2.2.2.2.2.2.2.2.2.2.2 | exact fun z => z.2.2.2.2.2.2.2.2.2.2.2.2.2)))))
  (k_with "k_upd" => first | (apply uh8; k_all) | (apply ut8; k_ne; k_upd))
  (k_with "k_updF" => first | (apply fh8; k_all) | (apply ft8; k_ne; k_updF))
  (k_with "k_all" => first | exact List.forall_mem_nil _ | (apply an8; k_ne; k_all))
  (k_with "kcf_all" => first | exact fun _ hp => hp | (apply sb8; (focus kcf_m); kcf_all))
  (k_with "ktr_units" => first | exact uu2 hu rfl | exact uu1 hu rfl | exact uu3 hu rfl | exact uu4 hu rfl)
  (k_with "ktr_room" => first | exact uu2 hdp rfl | exact uu1 hdp rfl | exact uu3 hdp rfl | exact uu4 hdp rfl)
  (k_with "subscriptTail Name UnaryOp ref int" => k_extra "subscriptTail")
  exact trivial
theorem strs_at {vs : List Value} {ks : List Str} (h : StrsAre vs ks) : ∀ {i : Nat} {k : Str}, ks[i]? = some k → ∃ t, vs[i]? = some (.str k t) := by
  induction h with
  | nil => intro i v e; simp at e
  | cons x t _ ih =>
    intro i v e
    cases i with
    | zero => simp at e; subst e; exact ⟨t, rfl⟩
    | succ i => exact ih (by simpa using e)
theorem lines8 : True := by
  (k_with "subscriptTail" => (k_here; (with_reducible show wpAny _ _ (subscriptTail _ _ (Value.ref _) (Value.int _ _)) _ _ _); refine halt_ ?_))
  exact trivial
set_option maxRecDepth 100000 in
set_option maxHeartbeats 2000000 in
theorem C_rget {w : World} {mean : ExcName → Option Value} {mg mb : Str → Option Value} {dp un : Nat} {gd : Option (List Code)} {cn : Str} {cs : Scope} {a : Addr} {ccd : Value} {cl : List (Str × Addr)} {outer : List Env} {A₀ : Around} {base h₀ : Heap} {L : Addr} {m : Str → Option Value} {s : Shared} {Q E : Value → Shared → Prop} (B : Below A₀ base outer h₀) (F : Fr h₀ L s.heap m) (X : (hd.heap_1 w.params).In h₀) (T : (Top view9 (looseW view9 []) mean mg mb h₀)) (hk : cs.kind = .function) {q : DA} {svs vvs : List Value} {ns : List Int} {ks : List Str} {code : Int} {ct : Tok} {k : Str} {big : List (Addr × Obj)}
    (Nb : News h₀ L s.heap big) (hsub : ∀ p ∈ dataL w q svs vvs, p ∈ big) (hv : IntsAre svs ns) (hv' : StrsAre vvs ks) (hlen : ns.length < 1000) (hsort : ns.Pairwise (· < ·)) (hp0 : 0 ≤ placeS ns code) (hp1 : placeS ns code < 1000) (hk9 : ks[(placeS ns code).toNat]? = some k)
    (hdp : dp + 6 < recursionLimit) (hu : un + 60 < cLine)
    (hret : ∀ t' h' tk', Fr h₀ L h' m → News h₀ L h' big → Q (.str k t') { s with heap := h', toks := tk' }) :
    wpAny (model PySem.Challenge.rw_on0369_01.row.prog w) (ktrTop dp un gd cn cs L a ccd cl outer) (call (.ref 115) [.ref q.rm, .int code ct]) Q E s := by
  w_top off
  have N := news_sub Nb hsub
  obtain ⟨t9, hv9⟩ := strs_at hv' hk9
  simp only [dataL] at N
  refine wpAny_call ?_
  k_dflt (refine' code_defG ?k1 ?k2 ?k3 N ?k5 ?kA ?kF ?kK ?k6 ?k7 ?k8 ?k9 ?kB ?_ ?c2 ?c3 ?c4 ?c5; (case kA => exact rfl); (case kF => exact rfl); (case kK => assumption); (case k1 => k_asm); (case k2 => k_asm); (case k3 => k_asm); (case k5 => k_asm); (case k6 => k_is); (case k7 => k_is); (case k8 => ktr_room); (case k9 => exact BindsTo.of_eq rfl); (case c5 => decide); (case kB => exact locs rfl); (case c2 => exact rfl); (case c3 => exact rfl); (case c4 => exact rfl); k_whole; intro g' L' h' FG' F' N' B' X' T' GS'; (try dsimp only); (try k_fold); refine toks_any fun tk9 => ?_; refine let_fr F' ?_; clear F'; intro m9 F'; refine let_A ?_; intro A9)
  (k_steps; repeat (any_goals ((first | ((with_reducible show Halt (wpAny _ _ (call (Value.ref 87) _) _ _ _)); refine Halt.go ?_; k_dflt (refine' C_place ?B9z ?F9z ?X9z ?T9z ?hk9z ?N9z ?hl9z ?hv9z ?hlen9z ?hs9z ?hdp9z ?hu9z ?_; (case B9z => k_asm); (case F9z => k_asm); (case X9z => k_asm); (case T9z => k_asm); (case hk9z => first | exact rfl | assumption); (case N9z => k_asm); (case hl9z => first | exact News.get (by k_asm) (by k_mem) | exact Fr.keep (by k_asm) _ _ (by assumption)); (case hv9z => assumption); (case hlen9z => omega); (case hs9z => assumption); (case hdp9z => ktr_room); (case hu9z => ktr_units); k_whole); intro t'q h'q tk'q st'q F'q N'q; (try k_sweep)) | ((with_reducible show Halt (wpAny _ _ (call (Value.ref 115) _) _ _ _)); refine Halt.go ?_; k_dflt (refine' C_rget ?B9z ?F9z ?X9z ?T9z ?hk9z ?N9z ?s9z ?hv9z ?hvp9zq ?hlen9z ?hs9z ?p09z ?p19z ?k9z ?hdp9z ?hu9z ?_; (case B9z => k_asm); (case F9z => k_asm); (case X9z => k_asm); (case T9z => k_asm); (case hk9z => first | exact rfl | assumption); (case N9z => k_asm); (case s9z => (intro p hp; exact hp)); (case hv9z => assumption); (case hvp9zq => assumption); (case hlen9z => omega); (case hs9z => assumption); (case p09z => assumption); (case p19z => assumption); (case k9z => assumption); (case hdp9z => ktr_room); (case hu9z => ktr_units); k_whole); intro t'q h'q tk'q F'q N'q; (try k_sweep))); k_steps)))
  refine Halt.go (item_at (News.isList (by k_asm) (by k_mem)) hp0 (by omega) hv9 ?_)
  k_steps
  all_goals (refine hret _ _ _ (by k_asm) (news_same Nb hsub (keepBut_of (by assumption) GS') (by k_asm)))
set_option maxRecDepth 100000 in
set_option maxHeartbeats 2000000 in
theorem C_get {w : World} {mean : ExcName → Option Value} {mg mb : Str → Option Value} {dp un : Nat} {gd : Option (List Code)} {cn : Str} {cs : Scope} {a : Addr} {ccd : Value} {cl : List (Str × Addr)} {outer : List Env} {A₀ : Around} {base h₀ : Heap} {L : Addr} {m : Str → Option Value} {s : Shared} {Q E : Value → Shared → Prop} (B : Below A₀ base outer h₀) (F : Fr h₀ L s.heap m) (X : (hd.heap_1 w.params).In h₀) (T : (Top view9 (looseW view9 []) mean mg mb h₀)) (hk : cs.kind = .function) {q : DA} {svs vvs : List Value} {ns : List Int} {ks : List Str} {code : Int} {ct st : Tok} {k : Str} {big : List (Addr × Obj)}
    (Nb : News h₀ L s.heap big) (hsub : ∀ p ∈ dataL w q svs vvs, p ∈ big) (ok : DOk PySem.Challenge.rw_on0369_01.row.prog w q) (hv : IntsAre svs ns) (hv' : StrsAre vvs ks) (hlen : ns.length < 1000) (hsort : ns.Pairwise (· < ·)) (hp0 : 0 ≤ placeS ns code) (hp1 : placeS ns code < 1000) (hk9 : ks[(placeS ns code).toNat]? = some k)
    (hdp : dp + 8 < recursionLimit) (hu : un + 100 < cLine)
    (hret : ∀ t' h' tk', Fr h₀ L h' m → News h₀ L h' big → Q (.str k t') { s with heap := h', toks := tk' }) :
    wpAny (model PySem.Challenge.rw_on0369_01.row.prog w) (ktrTop dp un gd cn cs L a ccd cl outer) (call (.ref 178) [.ref q.d, .str (Str.ofString "sb") st, .int code ct]) Q E s := by
  w_top off
  have N := news_sub Nb hsub
  obtain ⟨okm, oks⟩ := ok
  simp only [dataL] at N
  refine wpAny_call ?_
  k_dflt (refine' code_defG ?k1 ?k2 ?k3 N ?k5 ?kA ?kF ?kK ?k6 ?k7 ?k8 ?k9 ?kB ?_ ?c2 ?c3 ?c4 ?c5; (case kA => exact rfl); (case kF => exact rfl); (case kK => assumption); (case k1 => k_asm); (case k2 => k_asm); (case k3 => k_asm); (case k5 => k_asm); (case k6 => k_is); (case k7 => k_is); (case k8 => ktr_room); (case k9 => exact BindsTo.of_eq rfl); (case c5 => decide); (case kB => exact locs rfl); (case c2 => exact rfl); (case c3 => exact rfl); (case c4 => exact rfl); k_whole; intro g' L' h' FG' F' N' B' X' T' GS'; (try dsimp only); (try k_fold); refine toks_any fun tk9 => ?_; refine let_fr F' ?_; clear F'; intro m9 F'; refine let_A ?_; intro A9)
  (k_steps; repeat (any_goals ((first | ((with_reducible show Halt (wpAny _ _ (call (Value.ref 87) _) _ _ _)); refine Halt.go ?_; k_dflt (refine' C_place ?B9z ?F9z ?X9z ?T9z ?hk9z ?N9z ?hl9z ?hv9z ?hlen9z ?hs9z ?hdp9z ?hu9z ?_; (case B9z => k_asm); (case F9z => k_asm); (case X9z => k_asm); (case T9z => k_asm); (case hk9z => first | exact rfl | assumption); (case N9z => k_asm); (case hl9z => first | exact News.get (by k_asm) (by k_mem) | exact Fr.keep (by k_asm) _ _ (by assumption)); (case hv9z => assumption); (case hlen9z => omega); (case hs9z => assumption); (case hdp9z => ktr_room); (case hu9z => ktr_units); k_whole); intro t'q h'q tk'q st'q F'q N'q; (try k_sweep)) | ((with_reducible show Halt (wpAny _ _ (call (Value.ref 115) _) _ _ _)); refine Halt.go ?_; k_dflt (refine' C_rget ?B9z ?F9z ?X9z ?T9z ?hk9z ?N9z ?s9z ?hv9z ?hvp9zq ?hlen9z ?hs9z ?p09z ?p19z ?k9z ?hdp9z ?hu9z ?_; (case B9z => k_asm); (case F9z => k_asm); (case X9z => k_asm); (case T9z => k_asm); (case hk9z => first | exact rfl | assumption); (case N9z => k_asm); (case s9z => (intro p hp; exact hp)); (case hv9z => assumption); (case hvp9zq => assumption); (case hlen9z => omega); (case hs9z => assumption); (case p09z => assumption); (case p19z => assumption); (case k9z => assumption); (case hdp9z => ktr_room); (case hu9z => ktr_units); k_whole); intro t'q h'q tk'q F'q N'q; (try k_sweep))); k_steps)))
  all_goals (refine hret _ _ _ (by k_asm) (news_same Nb hsub (keepBut_of (by assumption) GS') (by k_asm)))
end V7part
section V8part
theorem lines9 : True := by
  k_with_none
  (k_with "k_inst" => exact IsInst.at (by assumption) (by k_asm))
  (k_with "compareOp In str ref" => (k_here; (first | (with_reducible refine' in_22 ?Fq174w ?Xq174w ?_) | (with_reducible refine' in_23 ?Fq174w ?Xq174w ?_) | (with_reducible refine' in_24 ?Fq174w ?Xq174w ?_) | (with_reducible refine' in_25 ?Fq174w ?Xq174w ?_) | (with_reducible refine' in_26 ?Fq174w ?Xq174w ?_)); (case Fq174w => k_asm); (case Xq174w => k_asm); k_whole))
  (k_with "compareOp NotIn str ref" => (k_here; (with_reducible refine' notin_22 ?Fq175w ?Xq175w ?_); (case Fq175w => k_asm); (case Xq175w => k_asm); k_whole))
  (k_with "exec For Tuple Call cons nil" => (k_here; (rename Fr _ _ _ _ => lFzz); (with_unfolding_all refine' For_turns lFzz ?_; k_whole)))
  (k_with "call type:enumerate" => (k_here; (with_reducible show wpAny _ _ (call (Value.type _) [Value.ref _]) (fun xv s₁ => wpAny _ _ (pyIter xv) (fun it s₂ => TurnsAt _ _ _ _ _ _ _ _ _ it s₂) _ s₁) _ _); refine halt_ ?_))
  (k_with "TurnPost" => (dsimp only [TurnPost]))
  (k_with "compareOp In str ref" => (k_here; k_dflt (first | (refine' in_made isHang ?Nq179w ?mq179w ?iq179w ?pq179w ?_; (case Nq179w => k_asm); (case mq179w => k_mem); (case iq179w => repeat constructor); (case pq179w => rfl); k_whole) | (refine' in_made isPara ?Nq179w ?mq179w ?iq179w ?pq179w ?_; (case Nq179w => k_asm); (case mq179w => k_mem); (case iq179w => repeat constructor); (case pq179w => rfl); k_whole) | (refine' in_made isLetterS ?Nq179w ?mq179w ?iq179w ?pq179w ?_; (case Nq179w => k_asm); (case mq179w => k_mem); (case iq179w => repeat constructor); (case pq179w => rfl); k_whole) | (refine' in_made isStayS ?Nq179w ?mq179w ?iq179w ?pq179w ?_; (case Nq179w => k_asm); (case mq179w => k_mem); (case iq179w => repeat constructor); (case pq179w => rfl); k_whole))))
  (k_with "compareOp NotIn str ref" => (k_here; k_dflt (first | (refine' notin_made isTerm ?Nq180w ?mq180w ?iq180w ?pq180w ?_; (case Nq180w => k_asm); (case mq180w => k_mem); (case iq180w => repeat constructor); (case pq180w => rfl); k_whole) | (refine' notin_made isPara ?Nq180w ?mq180w ?iq180w ?pq180w ?_; (case Nq180w => k_asm); (case mq180w => k_mem); (case iq180w => repeat constructor); (case pq180w => rfl); k_whole))))
  (k_with "compareOp NotEq ref ref" => (k_here; k_dflt (refine' ne_unitsK ?Nq181w ?aq181w ?uq181w ?sq181w ?bq181w ?oq181w ?rq181w ?_; (case Nq181w => k_asm); (case aq181w => k_mem); (case uq181w => assumption); (case sq181w => kcf_all); (case bq181w => k_mem); (case oq181w => assumption); (case rq181w => ktr_units); k_whole)))
  (k_with "subscriptTail" => (k_here; (with_reducible show wpAny _ _ (subscriptTail _ _ (Value.ref _) (Value.int (-1) _)) _ _ _); k_dflt (refine' item_lastN ?Nq182w ?aq182w ?_ ?hq182w; (case Nq182w => k_asm); (case aq182w => k_mem); (case hq182w => with_unfolding_all rfl); k_whole)))
  (k_with "subscriptTail" => (k_here; (first | ((with_reducible show wpAny _ _ (subscriptTail _ _ (Value.ref _) (Value.int 0 _)) _ _ _); k_dflt (refine' item3_0 ?Nq183w ?aq183w ?sq183w ?_ ?hq183w; (case Nq183w => k_asm); (case aq183w => with_reducible assumption); (case sq183w => kcf_all); (case hq183w => with_unfolding_all rfl); k_whole)) | ((with_reducible show wpAny _ _ (subscriptTail _ _ (Value.ref _) (Value.int 1 _)) _ _ _); k_dflt (refine' item3_1 ?Nq183w ?aq183w ?sq183w ?_ ?hq183w; (case Nq183w => k_asm); (case aq183w => with_reducible assumption); (case sq183w => kcf_all); (case hq183w => with_unfolding_all rfl); k_whole)) | ((with_reducible show wpAny _ _ (subscriptTail _ _ (Value.ref _) (Value.int 2 _)) _ _ _); k_dflt (refine' item3_2 ?Nq183w ?aq183w ?sq183w ?_ ?hq183w; (case Nq183w => k_asm); (case aq183w => with_reducible assumption); (case sq183w => kcf_all); (case hq183w => with_unfolding_all rfl); k_whole)))))
  (k_with "setItem ref int ref" => (k_here; k_dflt (refine' setLast_K ?Fq184w ?Nq184w ?Uq184w ?_; (case Fq184w => k_asm); (case Nq184w => k_asm); (case Uq184w => k_upd); k_whole); intro _ _ _; (try k_sweep)))
  (k_with "k_all" => assumption)
  (k_with "size_fits" => ((rw [PySem.sizeLine_eq]); (simp only [List.size_toArray, List.length_append, List.length_cons, List.length_nil]); omega))
  (k_with "CompSrcT" => (k_here; k_dflt (refine' LCt.CompSrcT.ledger ?hhq187w ?Fq187w ?Nq187w ?mq187w ?zq187w ?_; (case hhq187w => exact rfl); (case Fq187w => k_asm); (case Nq187w => k_asm); (case mq187w => k_mem); (case zq187w => size_fits)); intro _; refine halt_ ?_))
  (k_with "exec Assign cons ListComp" => (k_here; lct_look; k_dflt (refine LCt.Assign_ListComp_T (F₀ := by k_asm) (by rfl) (by with_unfolding_all rfl) (by with_unfolding_all rfl) (by decide) (by rfl) (by decide) (by rfl) (by rfl) (by rfl) ?_)))
  (k_with "CompEnd" => (refine LCg.CompEnd.intro (by assumption) (by assumption) _ (fun _ h9 => h9) (by first | assumption | (simp only [LCg.Off3, and_true]; assumption)) (by lcg_src) ?_; first | exact ⟨⟨_, rfl⟩, rfl, by first | assumption | exact decide_eq_true (by assumption)⟩ | exact ⟨rfl, by first | assumption | exact decide_eq_false (by assumption)⟩))
  (k_with "call builtin:len" => (k_here; (with_reducible show wpAny _ _ (call (Value.builtin "len") [Value.ref _]) _ _ _); k_dflt (refine' kst_len ?k1q190w ?k2q190w ?k3q190w ?k4q190w ?_; (case k1q190w => k_asm); (case k2q190w => k_mem); (case k3q190w => exact rfl); (case k4q190w => omega); k_whole)))
  (k_with "subscriptTail Name Slice ref ref" => (k_here; (with_reducible show wpAny _ _ (subscriptTail _ (PySem.Expr.Slice _ _ none _) (Value.ref _) (Value.ref _)) _ _ _); k_dflt (refine' slice_K ?Fq191w ?Nq191w ?lq191w ?pq191w ?qq191w ?_ ?sq191w ?tq191w ?zq191w; (case Fq191w => k_asm); (case Nq191w => k_asm); (case lq191w => first | exact News.isList (by k_asm) (by k_mem) | exact listBase (by k_asm) (by assumption)); (case pq191w => kmk_part); (case qq191w => kmk_part); (case sq191w => with_unfolding_all rfl); (case tq191w => kmk_pure); (case zq191w => size_fits)); intro _ _ _ Nzz l1zz; (try k_lt l1zz); (try dsimp only at Nzz); (try k_sweep)))
  (k_with "compareOp In ref ref" => (k_here; k_dflt (refine' in_two ?Nq192w ?xq192w ?vq192w ?tq192w ?aq192w ?vaq192w ?bq192w ?vbq192w ?okq192w ?okaq192w ?okbq192w ?uq192w ?_; (case Nq192w => k_asm); (case xq192w => k_mem); (case vq192w => exact strs_pick (by assumption)); (case tq192w => k_mem); (case aq192w => k_mem); (case vaq192w => exact .cons _ _ .nil); (case bq192w => k_mem); (case vbq192w => exact .cons _ _ .nil); (case okq192w => exact pick_sub (by assumption)); (case okaq192w => decide +kernel); (case okbq192w => decide +kernel); (case uq192w => ktr_units); k_whole)))
  (k_with "exec While" => (k_here; refine halt_ ?_))
  (k_with "compareOp NotEq ref ref" => (k_here; k_dflt (first | (refine' ne_bothK ?Nq194w ?aq194w ?bq194w ?uq194w ?_; (case Nq194w => k_asm); (case aq194w => k_mem); (case bq194w => k_mem); (case uq194w => ktr_units); k_whole) | (refine' ne_snocK ?Nq194w ?aq194w ?vq194w ?bq194w ?oq194w ?uq194w ?_; (case Nq194w => k_asm); (case aq194w => k_mem); (case vq194w => assumption); (case bq194w => k_mem); (case oq194w => assumption); (case uq194w => ktr_units); k_whole))))
  (k_with "compareOp Eq ref ref" => (k_here; k_dflt (first | (refine' eq_bothK ?Nq195w ?aq195w ?bq195w ?uq195w ?_; (case Nq195w => k_asm); (case aq195w => k_mem); (case bq195w => k_mem); (case uq195w => ktr_units); k_whole) | (refine' eq_snocK ?Nq195w ?aq195w ?vq195w ?bq195w ?oq195w ?uq195w ?_; (case Nq195w => k_asm); (case aq195w => k_mem); (case vq195w => assumption); (case bq195w => k_mem); (case oq195w => assumption); (case uq195w => ktr_units); k_whole))))
  (k_with "call builtin:list.pop" => (k_here; (with_reducible show wpAny _ _ (call (Value.builtin _) [Value.ref _]) _ _ _); k_dflt (refine' pop_snoc ?Fq196w ?Nq196w ?Uq196w ?zq196w ?_; (case Fq196w => k_asm); (case Nq196w => k_asm); (case Uq196w => k_upd); (case zq196w => size_fits); k_whole); intro _ _ _; (try k_sweep)))
  (k_with "call ref" => (k_here; refine halt_ ?_))
  (k_with "k_ne" => (apply nn8; (try dsimp only); with_reducible ((fail_if_success show @Ne Nat 987654321 _); (fail_if_success show @Ne Nat _ 987654321); first | assumption | (apply nq1; assumption) | (apply nq2; assumption) | (apply nq3; assumption) | (apply nc1; assumption; (first | exact And.left | exact fun z => z.2.1 | exact fun z => z.2.2.1 | exact fun z => z.2.2.2.1 | exact fun z => z.2.2.2.2.1 | exact fun z => z.2.2.2.2.2.1 | exact fun z => z.2.2.2.2.2.2.1 | exact fun z => z.2.2.2.2.2.2.2.1 | exact fun z => z.2.2.2.2.2.2.2.2.1 | exact fun z => z.2.2.2.2.2.2.2.2.2.1 | exact fun z => z.2.2.2.2.2.2.2.2.2.2.1 | exact fun z => z.2.2.2.2.2.2.2.2.2.2.2.1 | exact fun z => z.2.2.2.2.2.2.2.2.2.2.2.2.1 | exact fun z => z.2.2.2.2.2.2.2.2.2.2.2.2.2.1 | exact And.right | exact fun z => z.2.2 | exact fun z => z.2.2.2 | exact fun z => z.2.2.2.2 | exact fun z => z.2.2.2.2.2 | exact fun z => z.2.2.2.2.2.2 | exact fun z => z.2.2.2.2.2.2.2 | exact fun z => z.2.2.2.2.2.2.2.2 | exact fun z => z.2.2.2.2.2.2.2.2.2 | exact fun z => z.2.2.2.2.2.2.2.2.2.2 | exact fun z => z.2.2.2.2.2.2.2.2.2.2.2 | exact fun z => z.2.2.2.2.2.2.2.2.2.2.2.2 | exact fun z => z.2.2.2.2.2.2.2.2.2.2.2.2.2)) | (apply nc2; assumption; (first | exact And.left | exact fun z => z.2.1 | exact fun z => z.2.2.1 | exact fun z => z.2.2.2.1 | exact fun z => z.2.2.2.2.1 | exact fun z => z.2.2.2.2.2.1 | exact fun z => z.2.2.2.2.2.2.1 | exact fun z => z.2.2.2.2.2.2.2.1 | exact fun z => z.2.2.2.2.2.2.2.2.1 | exact fun z => z.2.2.2.2.2.2.2.2.2.1 | exact fun z => z.2.2.2.2.2.2.2.2.2.2.1 | exact fun z => z.2.2.2.2.2.2.2.2.2.2.2.1 | exact fun z => z.2.2.2.2.2.2.2.2.2.2.2.2.1 | exact fun z => z.2.2.2.2.2.2.2.2.2.2.2.2.2.1 | exact And.right | exact fun z => z.2.2 | exact fun z => z.2.2.2 | exact fun z => z.2.2.2.2 | exact fun z => z.2.2.2.2.2 | exact fun z => z.2.2.2.2.2.2 | exact fun z => z.2.2.2.2.2.2.2 | exact fun z => z.2.2.2.2.2.2.2.2 | exact fun z => z.2.2.2.2.2.2.2.2.2 | exact fun z => z.2.2.2.2.2.2.2.2.2.2 | exact fun z => z.2.2.2.2.2.2.2.2.2.2.2 | exact fun z => z.2.2.2.2.2.2.2.2.2.2.2.2 | exact fun z => z.2.2.2.2.2.2.2.2.2.2.2.2.2)) | (apply nc3; assumption; (first | exact And.left | exact fun z => z.2.1 | exact fun z => z.2.2.1 | exact fun z => z.2.2.2.1 | exact fun z => z.2.2.2.2.1 | exact fun z => z.2.2.2.2.2.1 | exact fun z => z.2.2.2.2.2.2.1 | exact fun z => z.2.2.2.2.2.2.2.1 | exact fun z => z.2.2.2.2.2.2.2.2.1 | exact fun z => z.2.2.2.2.2.2.2.2.2.1 | exact fun z => z.2.2.2.2.2.2.2.2.2.2.1 | exact fun z => z.2.2.2.2.2.2.2.2.2.2.2.1 | exact fun z => z.2.2.2.2.2.2.2.2.2.2.2.2.1 | exact fun z => z.2.2.2.2.2.2.2.2.2.2.2.2.2.1 | exact And.right | exact fun z => z.2.2 | exact fun z => z.2.2.2 | exact fun z => z.2.2.2.2 | exact fun z => z.2.2.2.2.2 | exact fun z => z.2.2.2.2.2.2 | exact fun z => z.2.2.2.2.2.2.2 | exact fun z => z.2.2.2.2.2.2.2.2 | exact fun z => z.2.2.2.2.2.2.2.2.2 | exact fun z => z.2.2.2.2.2.2.2.2.2.2 | exact fun z => z.2.2.2.2.2.2.2.2.2.2.2 | exact fun z => z.2.2.2.2.2.2.2.2.2.2.2.2 | exact fun z => z.2.2.2.2.2.2.2.2.2.2.2.2.2)) | (apply nc4; assumption; (first | exact And.left | exact fun z => z.2.1 | exact fun z => z.2.2.1 | exact fun z => z.2.2.2.1 | exact fun z => z.2.2.2.2.1 | exact fun z => z.2.2.2.2.2.1 | exact fun z => z.2.2.2.2.2.2.1 | exact fun z => z.2.2.2.2.2.2.2.1 | exact fun z => z.2.2.2.2.2.2.2.2.1 | exact fun z => z.2.2.2.2.2.2.2.2.2.1 | exact fun z => z.2.2.2.2.2.2.2.2.2.2.1 | exact fun z => z.2.2.2.2.2.2.2.2.2.2.2.1 | exact fun z => z.2.2.2.2.2.2.2.2.2.2.2.2.1 | exact fun z => z.2.2.2.2.2.2.2.2.2.2.2.2.2.1 | exact And.right | exact fun z => z.2.2 | exact fun z => z.2.2.2 | exact fun z => z.2.2.2.2 | exact fun z => z.2.2.2.2.2 | exact fun z => z.2.2.2.2.2.2 | exact fun z => z.2.2.2.2.2.2.2 | exact fun z => z.2.2.2.2.2.2.2.2 | exact fun z => z.2.2.2.2.2.2.2.2.2 | exact fun z => z.2.2.2.2.2.2.2.2.2.2 | exact fun z => z.2.2.2.2.2.2.2.2.2.2.2 | exact fun z => z.2.2.2.2.2.2.2.2.2.2.2.2 | exact fun z => z.2.2.2.2.2.2.2.2.2.2.2.2.2)))))
  (k_with "k_upd" => first | (apply uh8; k_all) | (apply ut8; k_ne; k_upd))
  (k_with "k_updF" => first | (apply fh8; k_all) | (apply ft8; k_ne; k_updF))
  (k_with "k_all" => first | exact List.forall_mem_nil _ | (apply an8; k_ne; k_all))
  (k_with "kcf_all" => first | exact fun _ hp => hp | (apply sb8; (focus kcf_m); kcf_all))
  (k_with "ktr_units" => first | exact uu2 hu rfl | exact uu1 hu rfl | exact uu3 hu rfl | exact uu4 hu rfl)
  (k_with "ktr_room" => first | exact uu2 hdp rfl | exact uu1 hdp rfl | exact uu3 hdp rfl | exact uu4 hdp rfl)
  (k_with "subscriptTail Name UnaryOp ref int" => k_extra "subscriptTail")
  exact trivial
theorem upd_mem {d : Addr} {o o' : Obj} {l l' : List (Addr × Obj)} (U : Upd d o o' l l') : (d, o) ∈ l := by
  obtain ⟨pre, post, rfl, rfl, _⟩ := U.split
  exact List.mem_append_right _ (.head _)
theorem news_updL {h₀ h h' : Heap} {L dx : Addr} {o o' : Obj} {l big big' : List (Addr × Obj)} (U : Upd dx o o' big big') (N : News h₀ L h big) (hl : ∀ p ∈ l, p ∈ big) (k : KeepBut (dx :: l.map (·.1)) h h') (N2 : News h₀ L h' ((dx, o') :: l)) : News h₀ L h' big' := by
  obtain ⟨pre, post, rfl, rfl, a, b⟩ := U.split
  have other : ∀ p ∈ pre ++ (dx, o) :: post, p.1 ≠ dx → h'.get? p.1 = some p.2 ∧ p.1 ≠ L ∧ h₀.get? p.1 = none := by
    intro p hp hd
    have hp1 := N p hp
    by_cases e : p.1 ∈ l.map (·.1)
    · obtain ⟨q, hq, hqe⟩ := List.mem_map.mp e
      have h1 := (N q (hl q hq)).1
      have h2 := hp1.1
      have : q = p := Prod.ext hqe (by rw [hqe] at h1; rw [h1] at h2; exact Option.some.inj h2)
      exact this ▸ N2 q (List.mem_cons_of_mem _ hq)
    · exact ⟨k _ _ hp1.1 (by simp only [List.mem_cons, not_or]; exact ⟨hd, e⟩), hp1.2⟩
  intro p hp
  rcases List.mem_append.mp hp with hp | hp
  · exact other p (List.mem_append_left _ hp) (a p hp)
  · rcases List.mem_cons.mp hp with rfl | hp
    · exact N2 _ (.head _)
    · exact other p (List.mem_append_right _ (List.mem_cons_of_mem _ hp)) (b p hp)
theorem C_take2 {w : World} {mean : ExcName → Option Value} {mg mb : Str → Option Value} {dp un : Nat} {gd : Option (List Code)} {cn : Str} {cs : Scope} {a : Addr} {ccd : Value} {cl : List (Str × Addr)} {outer : List Env} {A₀ : Around} {base h₀ : Heap} {L : Addr} {m : Str → Option Value} {s : Shared} {Q E : Value → Shared → Prop} (B : Below A₀ base outer h₀) (F : Fr h₀ L s.heap m) (X : (hd.heap_1 w.params).In h₀) (T : (Top view9 (looseW view9 []) mean mg mb h₀)) (hk : cs.kind = .function) {x dx d : Addr} {c : St} {es : List DictEntry} {kind : Str} {tk : Tok} {big : List (Addr × Obj)} {big' : Obj → List (Addr × Obj)}
    (Nb : News h₀ L s.heap big) (hx : (x, instObj 76 dx) ∈ big) (U : ∀ o', Upd dx (dictOf es 8) o' big (big' o')) (hxd : @LT.lt Nat _ dx x) (S : SIs w d c es)
    (hdp : dp + 4 < recursionLimit) (hu : un + 40 < cLine)
    (hret : ∀ es' h' tk', Fr h₀ L h' m → News h₀ L h' (big' (dictOf es' 8)) → SIs w d (takeS c kind) es' → Q .none { s with heap := h', toks := tk' }) :
    wpAny (model PySem.Challenge.rw_on0369_01.row.prog w) (ktrTop dp un gd cn cs L a ccd cl outer) (call (.ref 59) [.ref x, .str kind tk]) Q E s := by
  refine C_take B F X T hk (news2 Nb hx (upd_mem (U (dictOf es 8)))) hxd S hdp hu ?_
  intro es' h' tk' kb F' N' S'
  exact hret es' h' tk' F' (news_upd (U _) Nb hx kb N') S'
theorem settledS_len {c : St} {b : Bool} (h0 : -1 ≤ c.held) (h1 : c.pos < 1000) : (settledS c b).length ≤ 1000 := by
  unfold settledS
  split
  · simp only [List.length_cons, rowsR, List.length_map, List.length_range]; omega
  · simp
theorem C_settled2 {w : World} {mean : ExcName → Option Value} {mg mb : Str → Option Value} {dp un : Nat} {gd : Option (List Code)} {cn : Str} {cs : Scope} {a : Addr} {ccd : Value} {cl : List (Str × Addr)} {outer : List Env} {A₀ : Around} {base h₀ : Heap} {L : Addr} {m : Str → Option Value} {s : Shared} {Q E : Value → Shared → Prop} (B : Below A₀ base outer h₀) (F : Fr h₀ L s.heap m) (X : (hd.heap_1 w.params).In h₀) (T : (Top view9 (looseW view9 []) mean mg mb h₀)) (hk : cs.kind = .function) {x dx d : Addr} {c : St} {es : List DictEntry} {b : Bool} {big : List (Addr × Obj)} {big' : Obj → List (Addr × Obj)}
    (Nb : News h₀ L s.heap big) (hx : (x, instObj 76 dx) ∈ big) (U : ∀ o', Upd dx (dictOf es 8) o' big (big' o')) (hxd : @LT.lt Nat _ dx x) (S : SIs w d c es) (hp : c.pos < 1000) (hp0 : 0 ≤ c.pos) (hh : c.held < 1000) (hh0 : -1 ≤ c.held)
    (hdp : dp + 4 < recursionLimit) (hu : un + 40 < cLine)
    (hret : ∀ f us tl k es' h' tk', Fr h₀ L h' m → News h₀ L h' ((f, listOf us.toArray k) :: (big' (dictOf es' 8) ++ tl)) → s.heap.get? f = none → SIs w d { c with held := -1 } es' → RowsIn tl us (settledS c b) → TupAll tl → us.length ≤ 1000 → (∀ p ∈ big, @Ne Nat p.1 f) → (∀ p ∈ tl, @Ne Nat p.1 f) → Q (.ref f) { s with heap := h', toks := tk' }) :
    wpAny (model PySem.Challenge.rw_on0369_01.row.prog w) (ktrTop dp un gd cn cs L a ccd cl outer) (call (.ref 52) [.ref x, .bool b]) Q E s := by
  refine C_settled B F X T hk (news2 Nb hx (upd_mem (U (dictOf es 8)))) hxd S hp hp0 hh hdp hu ?_
  intro f us tl k es' h' tk' kb F' N' hf S' hr ht
  have hf' : ∀ p ∈ big, @Ne Nat p.1 f := fun p hp e => by
    have e' : p.1 = f := e
    have := (Nb p hp).1
    rw [e', hf] at this; cases this
  refine hret f us tl k es' h' tk' F' ?_ hf ?_ hr ht (by rw [hr.length]; exact settledS_len hh0 hp) hf' (tup_off N' (.head _) (fun p hp => .tail _ (.tail _ (.tail _ hp))) ht rfl)
  · intro p hp
    rcases List.mem_cons.mp hp with rfl | hp
    · exact N' _ (.head _)
    · rcases List.mem_append.mp hp with hp | hp
      · exact news_upd (U _) Nb hx kb (news2 N' (.tail _ (.head _)) (.tail _ (.tail _ (.head _)))) p hp
      · exact N' _ (.tail _ (.tail _ (.tail _ hp)))
  · have e : (if c.held ≥ 0 then (-1 : Int) else c.held) = -1 := by split <;> omega
    rw [e] at S'; exact S'
def putS (c : St) (kind : Str) : List (Int × Bool) × St :=
  if c.held ≥ 0 && isStop kind then
    (if verdictS c kind == Str.ofString "wait" then (settledS c (!(kind == Str.ofString "Lower")), takeS { c with held := c.pos } kind)
     else (settledS c (!(kind == Str.ofString "Lower")) ++ [(c.pos, verdictS c kind == Str.ofString "break")], takeS { c with held := -1 } kind))
  else if c.held < 0 then
    (if verdictS c kind == Str.ofString "wait" then ([], takeS { c with held := c.pos } kind) else ([(c.pos, verdictS c kind == Str.ofString "break")], takeS c kind))
  else ([], takeS c kind)
abbrev tlOf {tl : List (Addr × Obj)} (_ : TupAll tl) : List (Addr × Obj) := tl
theorem putS_1 {c : St} {kind : Str} (h : 0 ≤ c.held) (hs : isStop kind = true) (hw : (verdictS c kind == Str.ofString "wait") = true) : putS c kind = (settledS c (!(kind == Str.ofString "Lower")), takeS { c with held := c.pos } kind) := by
  unfold putS; rw [if_pos (by simp [h, hs]), if_pos hw]
theorem putS_2 {c : St} {kind : Str} (h : 0 ≤ c.held) (hs : isStop kind = true) (hw : (verdictS c kind == Str.ofString "wait") = false) : putS c kind = (settledS c (!(kind == Str.ofString "Lower")) ++ [(c.pos, verdictS c kind == Str.ofString "break")], takeS { c with held := -1 } kind) := by
  unfold putS; rw [if_pos (by simp [h, hs]), if_neg (by simp [hw])]
theorem putS_3 {c : St} {kind : Str} (h : 0 ≤ c.held) (hs : isStop kind = false) : putS c kind = ([], takeS c kind) := by
  unfold putS; rw [if_neg (by simp [hs]), if_neg (by omega)]
theorem putS_4 {c : St} {kind : Str} (h : ¬ 0 ≤ c.held) (hw : (verdictS c kind == Str.ofString "wait") = true) : putS c kind = ([], takeS { c with held := c.pos } kind) := by
  unfold putS; rw [if_neg (by simp; omega), if_pos (by omega), if_pos hw]
theorem putS_5 {c : St} {kind : Str} (h : ¬ 0 ≤ c.held) (hw : (verdictS c kind == Str.ofString "wait") = false) : putS c kind = ([(c.pos, verdictS c kind == Str.ofString "break")], takeS c kind) := by
  unfold putS; rw [if_neg (by simp; omega), if_pos (by omega), if_neg (by simp [hw])]
theorem news_fin {h₀ h h' : Heap} {L f dx : Addr} {o0 o' lo : Obj} {l big all tl : List (Addr × Obj)} {big' : Obj → List (Addr × Obj)} (U : ∀ o', Upd dx o0 o' big (big' o')) (Nb : News h₀ L h big) (hsub : ∀ p ∈ l, p ∈ big) (kb : KeepBut (dx :: l.map (·.1)) h h') (NN : News h₀ L h' all)
    (hdx : (dx, o') ∈ all) (hl : ∀ p ∈ l, p ∈ all) (hf : (f, lo) ∈ all) (htl : ∀ p ∈ tl, p ∈ all) : News h₀ L h' ((f, lo) :: (big' o' ++ tl)) := by
  intro p hp
  rcases List.mem_cons.mp hp with rfl | hp
  · exact NN _ hf
  · rcases List.mem_append.mp hp with hp | hp
    · exact news_updL (U o') Nb hsub kb (fun r hr => (List.mem_cons.mp hr).elim (fun e => e ▸ NN _ hdx) fun hr => NN _ (hl r hr)) p hp
    · exact NN _ (htl _ hp)
theorem lines10 : True := by
  (k_with "k_all" => assumption)
  (k_with "k_all" => exact tup_off (by k_asm) (by k_mem) (by kcf_all) (by assumption) (by rfl))
  exact trivial
set_option maxRecDepth 100000 in
set_option maxHeartbeats 2000000 in
theorem C_put {w : World} {mean : ExcName → Option Value} {mg mb : Str → Option Value} {dp un : Nat} {gd : Option (List Code)} {cn : Str} {cs : Scope} {a : Addr} {ccd : Value} {cl : List (Str × Addr)} {outer : List Env} {A₀ : Around} {base h₀ : Heap} {L : Addr} {m : Str → Option Value} {s : Shared} {Q E : Value → Shared → Prop} (B : Below A₀ base outer h₀) (F : Fr h₀ L s.heap m) (X : (hd.heap_1 w.params).In h₀) (T : (Top view9 (looseW view9 []) mean mg mb h₀)) (hk : cs.kind = .function) {x dx : Addr} {q : DA} {c : St} {es : List DictEntry} {svs vvs : List Value} {ns : List Int} {ks : List Str} {code : Int} {ct : Tok} {kind : Str} {big : List (Addr × Obj)} {big' : Obj → List (Addr × Obj)}
    (Nb : News h₀ L s.heap big) (hsub : ∀ p ∈ (x, instObj 76 dx) :: dataL w q svs vvs, p ∈ big) (U : ∀ o', Upd dx (dictOf es 8) o' big (big' o')) (hxd : @LT.lt Nat _ dx x) (hdd : ∀ p ∈ dataL w q svs vvs, @LT.lt Nat _ p.1 dx) (S : SIs w q.d c es) (hp : c.pos < 900) (hp0 : 0 ≤ c.pos) (hh : c.held < 900) (hh0 : -1 ≤ c.held)
    (ok : DOk PySem.Challenge.rw_on0369_01.row.prog w q) (hv : IntsAre svs ns) (hv' : StrsAre vvs ks) (hlen : ns.length < 1000) (hsort : ns.Pairwise (· < ·)) (hpl0 : 0 ≤ placeS ns code) (hpl1 : placeS ns code < 1000) (hk9 : ks[(placeS ns code).toNat]? = some kind)
    (hdp : dp + 12 < recursionLimit) (hu : un + 200 < cLine)
    (hret : ∀ f us tl k es' h' tk', Fr h₀ L h' m → News h₀ L h' ((f, listOf us.toArray k) :: (big' (dictOf es' 8) ++ tl)) → s.heap.get? f = none → SIs w q.d (putS c kind).2 es' → RowsIn tl us (putS c kind).1 → TupAll tl → us.length ≤ 1100 → (∀ p ∈ tl, @Ne Nat p.1 f) → Q (.ref f) { s with heap := h', toks := tk' }) :
    wpAny (model PySem.Challenge.rw_on0369_01.row.prog w) (ktrTop dp un gd cn cs L a ccd cl outer) (call (.ref 66) [.ref x, .int code ct]) Q E s := by
  w_top off
  refine SIs.out S ?_
  clear S
  intro t0 t1 t2 t3 t4 t5 t6 t7 t8 t9 t10 t11 t12 t13  e9
  subst e9
  have N : News h₀ L s.heap ((dx, dictOf _ 8) :: (x, instObj 76 dx) :: dataL w q svs vvs) := news_sub Nb fun p hp => (List.mem_cons.mp hp).elim (fun e => e ▸ upd_mem (U (dictOf [] 8))) (hsub p)
  dsimp only [dataL] at N
  replace hdd := allLt_of hdd
  dsimp only [dataL, AllLt] at hdd
  refine wpAny_call ?_
  k_dflt (refine' code_defG ?k1 ?k2 ?k3 N ?k5 ?kA ?kF ?kK ?k6 ?k7 ?k8 ?k9 ?kB ?_ ?c2 ?c3 ?c4 ?c5; (case kA => exact rfl); (case kF => exact rfl); (case kK => assumption); (case k1 => k_asm); (case k2 => k_asm); (case k3 => k_asm); (case k5 => k_asm); (case k6 => k_is); (case k7 => k_is); (case k8 => ktr_room); (case k9 => exact BindsTo.of_eq rfl); (case c5 => decide); (case kB => exact locs rfl); (case c2 => exact rfl); (case c3 => exact rfl); (case c4 => exact rfl); k_whole; intro g' L' h' FG' F' N' B' X' T' GS'; (try dsimp only); (try k_fold); refine toks_any fun tk9 => ?_; refine let_fr F' ?_; clear F'; intro m9 F'; refine let_A ?_; intro A9)
  (k_steps; repeat (any_goals ((first | ((with_reducible show Halt (wpAny _ _ (call (Value.ref 178) _) _ _ _)); refine Halt.go ?_; k_dflt (refine' C_get ?B9z ?F9z ?X9z ?T9z ?hk9z ?N9z ?s9z ?ok9z ?hv9z ?hvp9zq ?hlen9z ?hs9z ?p09z ?p19z ?k9z ?hdp9z ?hu9z ?_; (case B9z => k_asm); (case F9z => k_asm); (case X9z => k_asm); (case T9z => k_asm); (case hk9z => first | exact rfl | assumption); (case N9z => k_asm); (case ok9z => assumption); (case s9z => kcf_all); (case hv9z => assumption); (case hvp9zq => assumption); (case hlen9z => omega); (case hs9z => assumption); (case p09z => assumption); (case p19z => assumption); (case k9z => assumption); (case hdp9z => ktr_room); (case hu9z => ktr_units); k_whole); intro t'q h'q tk'q F'q N'q; (try k_sweep)) | ((with_reducible show Halt (wpAny _ _ (call (Value.ref 52) _) _ _ _)); refine Halt.go ?_; k_dflt (refine' C_settled2 ?B9z ?F9z ?X9z ?T9z ?hk9z ?N9z ?x9z ?U9z ?xd9z ?S9z ?p9z ?p09z ?h9z ?h09z ?hdp9z ?hu9z ?_; (case B9z => k_asm); (case F9z => k_asm); (case X9z => k_asm); (case T9z => k_asm); (case hk9z => first | exact rfl | assumption); (case N9z => k_asm); (case x9z => k_mem); (case U9z => (intro o'q; k_upd)); (case xd9z => assumption); (case S9z => exact sIs_of rfl); (case p9z => (try dsimp only); omega); (case p09z => (try dsimp only); omega); (case h9z => (try dsimp only); omega); (case h09z => (try dsimp only); omega); (case hdp9z => ktr_room); (case hu9z => ktr_units); k_whole); intro f'q us'q tl'q k'q es'q h'q tk'q F'q N'q hfr'q S'q hro'q hta'q hul'q hoff'q hoft'q; (refine SIs.out S'q ?_); (clear S'q); (intro _ _ _ _ _ _ _ _ _ _ _ _ _ _ he'q); (subst he'q); (try dsimp only [List.cons_append, List.nil_append] at N'q); (try dsimp only at N'q); (replace hoff'q := allNe_of hoff'q); (try dsimp only [AllNe] at hoff'q); (try k_sweep)) | ((with_reducible show Halt (wpAny _ _ (call (Value.ref 47) _) _ _ _)); refine Halt.go ?_; k_dflt (refine' C_verdict ?B9z ?F9z ?X9z ?T9z ?hk9z ?N9z ?I9z ?S9z ?hdp9z ?hu9z ?_; (case B9z => k_asm); (case F9z => k_asm); (case X9z => k_asm); (case T9z => k_asm); (case hk9z => first | exact rfl | assumption); (case N9z => k_asm); (case I9z => exact IsInst.news (by k_asm) (by k_mem) (by k_mem)); (case S9z => exact sIs_of rfl); (case hdp9z => ktr_room); (case hu9z => ktr_units); k_whole); intro t'q h'q tk'q st'q F'q N'q; (try k_sweep)) | ((with_reducible show Halt (wpAny _ _ (call (Value.ref 59) _) _ _ _)); refine Halt.go ?_; k_dflt (refine' C_take2 ?B9z ?F9z ?X9z ?T9z ?hk9z ?N9z ?x9z ?U9z ?xd9z ?S9z ?hdp9z ?hu9z ?_; (case B9z => k_asm); (case F9z => k_asm); (case X9z => k_asm); (case T9z => k_asm); (case hk9z => first | exact rfl | assumption); (case N9z => k_asm); (case x9z => k_mem); (case U9z => (intro o'q; k_upd)); (case xd9z => assumption); (case S9z => exact sIs_of rfl); (case hdp9z => ktr_room); (case hu9z => ktr_units); k_whole); intro es'q h'q tk'q F'q N'q S'q; (try dsimp only at N'q); (try k_sweep))); k_steps)))
  · have e := putS_1 (c := c) (kind := kind) (by assumption) (by assumption) (by assumption)
    (with_reducible rename TupAll _ => hta)
    refine' hret _ _ _ _ _ _ _ (by k_asm) ?n ?f (by rw [e]; assumption) (by rw [e]; assumption) hta ?u ?o
    case n => exact news_fin U Nb hsub (keepBut_of (by assumption) GS') (by k_asm) (by k_mem) (by kcf_all) (by k_mem) (by kcf_all)
    case f => exact fresh_of GS' (by assumption) (by k_mem) (by simp only [List.map_cons, List.map_nil, List.mem_cons, List.not_mem_nil, or_false, not_or]; repeat' (first | (exact by k_ne) | apply And.intro))
    case u => omega
    case o => assumption
  · have e := putS_2 (c := c) (kind := kind) (by assumption) (by assumption) (by assumption)
    (with_reducible rename TupAll _ => hta)
    (with_reducible rename RowsIn _ _ _ => hro)
    refine' hret _ _ ((_, tup2 _ _ _ _) :: tlOf hta) _ _ _ _ (by k_asm) ?n ?f ?s ?r ?t ?u ?o
    case n => exact news_fin U Nb hsub (keepBut_of (by assumption) GS') (by k_asm) (by k_mem) (by kcf_all) (by k_mem) (by kcf_all)
    case f => exact fresh_of GS' (by assumption) (by k_mem) (by simp only [List.map_cons, List.map_nil, List.mem_cons, List.not_mem_nil, or_false, not_or]; repeat' (first | (exact by k_ne) | apply And.intro))
    case s => rw [e]; assumption
    case r =>
      rw [e]
      simp only [List.toList_toArray, List.concat_eq_append]
      exact (hro.mono fun p hp => .tail _ hp).append (.cons (.head _) .nil)
    case t =>
      intro p hp
      rcases List.mem_cons.mp hp with rfl | hp
      · rfl
      · exact hta p hp
    case u => simp only [List.toList_toArray, List.concat_eq_append, List.length_append, List.length_cons, List.length_nil]; omega
    case o =>
      intro p hp
      rcases List.mem_cons.mp hp with rfl | hp
      · k_ne
      · exact tup_off (by k_asm) (by k_mem) (by kcf_all) hta rfl p hp
  · have e := putS_3 (c := c) (kind := kind) (by assumption) (by assumption)
    refine' hret _ [] [] _ _ _ _ (by k_asm) ?n ?f (by rw [e]; assumption) (by rw [e]; exact .nil) (fun _ h => nomatch h) (by simp) (fun _ h => nomatch h)
    case n => exact news_fin U Nb hsub (keepBut_of (by assumption) GS') (by k_asm) (by k_mem) (by kcf_all) (by k_mem) (fun _ h => nomatch h)
    case f => exact fresh_of GS' (by assumption) (by k_mem) (by simp only [List.map_cons, List.map_nil, List.mem_cons, List.not_mem_nil, or_false, not_or]; repeat' (first | (exact by k_ne) | apply And.intro))
  · have e := putS_4 (c := c) (kind := kind) (by assumption) (by assumption)
    refine' hret _ [] [] _ _ _ _ (by k_asm) ?n ?f (by rw [e]; assumption) (by rw [e]; exact .nil) (fun _ h => nomatch h) (by simp) (fun _ h => nomatch h)
    case n => exact news_fin U Nb hsub (keepBut_of (by assumption) GS') (by k_asm) (by k_mem) (by kcf_all) (by k_mem) (fun _ h => nomatch h)
    case f => exact fresh_of GS' (by assumption) (by k_mem) (by simp only [List.map_cons, List.map_nil, List.mem_cons, List.not_mem_nil, or_false, not_or]; repeat' (first | (exact by k_ne) | apply And.intro))
  · have e := putS_5 (c := c) (kind := kind) (by assumption) (by assumption)
    refine' hret _ _ [(_, tup2 _ _ _ _)] _ _ _ _ (by k_asm) ?n ?f (by rw [e]; assumption) ?r5 ?t5 ?u5 ?o5
    case n => exact news_fin U Nb hsub (keepBut_of (by assumption) GS') (by k_asm) (by k_mem) (by kcf_all) (by k_mem) (by kcf_all)
    case f => exact fresh_of GS' (by assumption) (by k_mem) (by simp only [List.map_cons, List.map_nil, List.mem_cons, List.not_mem_nil, or_false, not_or]; repeat' (first | (exact by k_ne) | apply And.intro))
    case r5 => rw [e]; exact .cons (.head _) .nil
    case t5 =>
      intro p hp
      rw [List.mem_singleton.mp hp]
    case u5 => simp
    case o5 =>
      intro p hp
      rw [List.mem_singleton.mp hp]
      k_ne
end V8part
section V10part
theorem lines11 : True := by
  k_with_none
  (k_with "k_inst" => exact IsInst.at (by assumption) (by k_asm))
  (k_with "compareOp In str ref" => (k_here; (first | (with_reducible refine' in_22 ?Fq209w ?Xq209w ?_) | (with_reducible refine' in_23 ?Fq209w ?Xq209w ?_) | (with_reducible refine' in_24 ?Fq209w ?Xq209w ?_) | (with_reducible refine' in_25 ?Fq209w ?Xq209w ?_) | (with_reducible refine' in_26 ?Fq209w ?Xq209w ?_)); (case Fq209w => k_asm); (case Xq209w => k_asm); k_whole))
  (k_with "compareOp NotIn str ref" => (k_here; (with_reducible refine' notin_22 ?Fq210w ?Xq210w ?_); (case Fq210w => k_asm); (case Xq210w => k_asm); k_whole))
  (k_with "exec For Tuple Call cons nil" => (k_here; (rename Fr _ _ _ _ => lFzz); (with_unfolding_all refine' For_turns lFzz ?_; k_whole)))
  (k_with "call type:enumerate" => (k_here; (with_reducible show wpAny _ _ (call (Value.type _) [Value.ref _]) (fun xv s₁ => wpAny _ _ (pyIter xv) (fun it s₂ => TurnsAt _ _ _ _ _ _ _ _ _ it s₂) _ s₁) _ _); refine halt_ ?_))
  (k_with "TurnPost" => (dsimp only [TurnPost]))
  (k_with "compareOp In str ref" => (k_here; k_dflt (first | (refine' in_made isHang ?Nq214w ?mq214w ?iq214w ?pq214w ?_; (case Nq214w => k_asm); (case mq214w => k_mem); (case iq214w => repeat constructor); (case pq214w => rfl); k_whole) | (refine' in_made isPara ?Nq214w ?mq214w ?iq214w ?pq214w ?_; (case Nq214w => k_asm); (case mq214w => k_mem); (case iq214w => repeat constructor); (case pq214w => rfl); k_whole) | (refine' in_made isLetterS ?Nq214w ?mq214w ?iq214w ?pq214w ?_; (case Nq214w => k_asm); (case mq214w => k_mem); (case iq214w => repeat constructor); (case pq214w => rfl); k_whole) | (refine' in_made isStayS ?Nq214w ?mq214w ?iq214w ?pq214w ?_; (case Nq214w => k_asm); (case mq214w => k_mem); (case iq214w => repeat constructor); (case pq214w => rfl); k_whole))))
  (k_with "compareOp NotIn str ref" => (k_here; k_dflt (first | (refine' notin_made isTerm ?Nq215w ?mq215w ?iq215w ?pq215w ?_; (case Nq215w => k_asm); (case mq215w => k_mem); (case iq215w => repeat constructor); (case pq215w => rfl); k_whole) | (refine' notin_made isPara ?Nq215w ?mq215w ?iq215w ?pq215w ?_; (case Nq215w => k_asm); (case mq215w => k_mem); (case iq215w => repeat constructor); (case pq215w => rfl); k_whole))))
  (k_with "compareOp NotEq ref ref" => (k_here; k_dflt (refine' ne_unitsK ?Nq216w ?aq216w ?uq216w ?sq216w ?bq216w ?oq216w ?rq216w ?_; (case Nq216w => k_asm); (case aq216w => k_mem); (case uq216w => assumption); (case sq216w => kcf_all); (case bq216w => k_mem); (case oq216w => assumption); (case rq216w => ktr_units); k_whole)))
  (k_with "subscriptTail" => (k_here; (with_reducible show wpAny _ _ (subscriptTail _ _ (Value.ref _) (Value.int (-1) _)) _ _ _); k_dflt (refine' item_lastN ?Nq217w ?aq217w ?_ ?hq217w; (case Nq217w => k_asm); (case aq217w => k_mem); (case hq217w => with_unfolding_all rfl); k_whole)))
  (k_with "subscriptTail" => (k_here; (first | ((with_reducible show wpAny _ _ (subscriptTail _ _ (Value.ref _) (Value.int 0 _)) _ _ _); k_dflt (refine' item3_0 ?Nq218w ?aq218w ?sq218w ?_ ?hq218w; (case Nq218w => k_asm); (case aq218w => with_reducible assumption); (case sq218w => kcf_all); (case hq218w => with_unfolding_all rfl); k_whole)) | ((with_reducible show wpAny _ _ (subscriptTail _ _ (Value.ref _) (Value.int 1 _)) _ _ _); k_dflt (refine' item3_1 ?Nq218w ?aq218w ?sq218w ?_ ?hq218w; (case Nq218w => k_asm); (case aq218w => with_reducible assumption); (case sq218w => kcf_all); (case hq218w => with_unfolding_all rfl); k_whole)) | ((with_reducible show wpAny _ _ (subscriptTail _ _ (Value.ref _) (Value.int 2 _)) _ _ _); k_dflt (refine' item3_2 ?Nq218w ?aq218w ?sq218w ?_ ?hq218w; (case Nq218w => k_asm); (case aq218w => with_reducible assumption); (case sq218w => kcf_all); (case hq218w => with_unfolding_all rfl); k_whole)))))
  (k_with "setItem ref int ref" => (k_here; k_dflt (refine' setLast_K ?Fq219w ?Nq219w ?Uq219w ?_; (case Fq219w => k_asm); (case Nq219w => k_asm); (case Uq219w => k_upd); k_whole); intro _ _ _; (try k_sweep)))
  (k_with "k_all" => assumption)
  (k_with "size_fits" => ((rw [PySem.sizeLine_eq]); (simp only [List.size_toArray, List.length_append, List.length_cons, List.length_nil]); omega))
  (k_with "CompSrcT" => (k_here; k_dflt (refine' LCt.CompSrcT.ledger ?hhq222w ?Fq222w ?Nq222w ?mq222w ?zq222w ?_; (case hhq222w => exact rfl); (case Fq222w => k_asm); (case Nq222w => k_asm); (case mq222w => k_mem); (case zq222w => size_fits)); intro _; refine halt_ ?_))
  (k_with "exec Assign cons ListComp" => (k_here; lct_look; k_dflt (refine LCt.Assign_ListComp_T (F₀ := by k_asm) (by rfl) (by with_unfolding_all rfl) (by with_unfolding_all rfl) (by decide) (by rfl) (by decide) (by rfl) (by rfl) (by rfl) ?_)))
  (k_with "CompEnd" => (refine LCg.CompEnd.intro (by assumption) (by assumption) _ (fun _ h9 => h9) (by first | assumption | (simp only [LCg.Off3, and_true]; assumption)) (by lcg_src) ?_; first | exact ⟨⟨_, rfl⟩, rfl, by first | assumption | exact decide_eq_true (by assumption)⟩ | exact ⟨rfl, by first | assumption | exact decide_eq_false (by assumption)⟩))
  (k_with "call builtin:len" => (k_here; (with_reducible show wpAny _ _ (call (Value.builtin "len") [Value.ref _]) _ _ _); k_dflt (refine' kst_len ?k1q225w ?k2q225w ?k3q225w ?k4q225w ?_; (case k1q225w => k_asm); (case k2q225w => k_mem); (case k3q225w => exact rfl); (case k4q225w => omega); k_whole)))
  (k_with "subscriptTail Name Slice ref ref" => (k_here; (with_reducible show wpAny _ _ (subscriptTail _ (PySem.Expr.Slice _ _ none _) (Value.ref _) (Value.ref _)) _ _ _); k_dflt (refine' slice_K ?Fq226w ?Nq226w ?lq226w ?pq226w ?qq226w ?_ ?sq226w ?tq226w ?zq226w; (case Fq226w => k_asm); (case Nq226w => k_asm); (case lq226w => first | exact News.isList (by k_asm) (by k_mem) | exact listBase (by k_asm) (by assumption)); (case pq226w => kmk_part); (case qq226w => kmk_part); (case sq226w => with_unfolding_all rfl); (case tq226w => kmk_pure); (case zq226w => size_fits)); intro _ _ _ Nzz l1zz; (try k_lt l1zz); (try dsimp only at Nzz); (try k_sweep)))
  (k_with "compareOp In ref ref" => (k_here; k_dflt (refine' in_two ?Nq227w ?xq227w ?vq227w ?tq227w ?aq227w ?vaq227w ?bq227w ?vbq227w ?okq227w ?okaq227w ?okbq227w ?uq227w ?_; (case Nq227w => k_asm); (case xq227w => k_mem); (case vq227w => exact strs_pick (by assumption)); (case tq227w => k_mem); (case aq227w => k_mem); (case vaq227w => exact .cons _ _ .nil); (case bq227w => k_mem); (case vbq227w => exact .cons _ _ .nil); (case okq227w => exact pick_sub (by assumption)); (case okaq227w => decide +kernel); (case okbq227w => decide +kernel); (case uq227w => ktr_units); k_whole)))
  (k_with "exec While" => (k_here; refine halt_ ?_))
  (k_with "compareOp NotEq ref ref" => (k_here; k_dflt (first | (refine' ne_bothK ?Nq229w ?aq229w ?bq229w ?uq229w ?_; (case Nq229w => k_asm); (case aq229w => k_mem); (case bq229w => k_mem); (case uq229w => ktr_units); k_whole) | (refine' ne_snocK ?Nq229w ?aq229w ?vq229w ?bq229w ?oq229w ?uq229w ?_; (case Nq229w => k_asm); (case aq229w => k_mem); (case vq229w => assumption); (case bq229w => k_mem); (case oq229w => assumption); (case uq229w => ktr_units); k_whole))))
  (k_with "compareOp Eq ref ref" => (k_here; k_dflt (first | (refine' eq_bothK ?Nq230w ?aq230w ?bq230w ?uq230w ?_; (case Nq230w => k_asm); (case aq230w => k_mem); (case bq230w => k_mem); (case uq230w => ktr_units); k_whole) | (refine' eq_snocK ?Nq230w ?aq230w ?vq230w ?bq230w ?oq230w ?uq230w ?_; (case Nq230w => k_asm); (case aq230w => k_mem); (case vq230w => assumption); (case bq230w => k_mem); (case oq230w => assumption); (case uq230w => ktr_units); k_whole))))
  (k_with "call builtin:list.pop" => (k_here; (with_reducible show wpAny _ _ (call (Value.builtin _) [Value.ref _]) _ _ _); k_dflt (refine' pop_snoc ?Fq231w ?Nq231w ?Uq231w ?zq231w ?_; (case Fq231w => k_asm); (case Nq231w => k_asm); (case Uq231w => k_upd); (case zq231w => size_fits); k_whole); intro _ _ _; (try k_sweep)))
  (k_with "call ref" => (k_here; refine halt_ ?_))
  (k_with "k_ne" => (apply nn8; (try dsimp only); with_reducible ((fail_if_success show @Ne Nat 987654321 _); (fail_if_success show @Ne Nat _ 987654321); first | assumption | (apply nq1; assumption) | (apply nq2; assumption) | (apply nq3; assumption) | (apply nc1; assumption; (first | exact And.left | exact fun z => z.2.1 | exact fun z => z.2.2.1 | exact fun z => z.2.2.2.1 | exact fun z => z.2.2.2.2.1 | exact fun z => z.2.2.2.2.2.1 | exact fun z => z.2.2.2.2.2.2.1 | exact fun z => z.2.2.2.2.2.2.2.1 | exact fun z => z.2.2.2.2.2.2.2.2.1 | exact fun z => z.2.2.2.2.2.2.2.2.2.1 | exact fun z => z.2.2.2.2.2.2.2.2.2.2.1 | exact fun z => z.2.2.2.2.2.2.2.2.2.2.2.1 | exact fun z => z.2.2.2.2.2.2.2.2.2.2.2.2.1 | exact fun z => z.2.2.2.2.2.2.2.2.2.2.2.2.2.1 | exact And.right | exact fun z => z.2.2 | exact fun z => z.2.2.2 | exact fun z => z.2.2.2.2 | exact fun z => z.2.2.2.2.2 | exact fun z => z.2.2.2.2.2.2 | exact fun z => z.2.2.2.2.2.2.2 | exact fun z => z.2.2.2.2.2.2.2.2 | exact fun z => z.2.2.2.2.2.2.2.2.2 | exact fun z => z.2.2.2.2.2.2.2.2.2.2 | exact fun z => z.2.2.2.2.2.2.2.2.2.2.2 | exact fun z => z.2.2.2.2.2.2.2.2.2.2.2.2 | exact fun z => z.2.2.2.2.2.2.2.2.2.2.2.2.2)) | (apply nc2; assumption; (first | exact And.left | exact fun z => z.2.1 | exact fun z => z.2.2.1 | exact fun z => z.2.2.2.1 | exact fun z => z.2.2.2.2.1 | exact fun z => z.2.2.2.2.2.1 | exact fun z => z.2.2.2.2.2.2.1 | exact fun z => z.2.2.2.2.2.2.2.1 | exact fun z => z.2.2.2.2.2.2.2.2.1 | exact fun z => z.2.2.2.2.2.2.2.2.2.1 | exact fun z => z.2.2.2.2.2.2.2.2.2.2.1 | exact fun z => z.2.2.2.2.2.2.2.2.2.2.2.1 | exact fun z => z.2.2.2.2.2.2.2.2.2.2.2.2.1 | exact fun z => z.2.2.2.2.2.2.2.2.2.2.2.2.2.1 | exact And.right | exact fun z => z.2.2 | exact fun z => z.2.2.2 | exact fun z => z.2.2.2.2 | exact fun z => z.2.2.2.2.2 | exact fun z => z.2.2.2.2.2.2 | exact fun z => z.2.2.2.2.2.2.2 | exact fun z => z.2.2.2.2.2.2.2.2 | exact fun z => z.2.2.2.2.2.2.2.2.2 | exact fun z => z.2.2.2.2.2.2.2.2.2.2 | exact fun z => z.2.2.2.2.2.2.2.2.2.2.2 | exact fun z => z.2.2.2.2.2.2.2.2.2.2.2.2 | exact fun z => z.2.2.2.2.2.2.2.2.2.2.2.2.2)) | (apply nc3; assumption; (first | exact And.left | exact fun z => z.2.1 | exact fun z => z.2.2.1 | exact fun z => z.2.2.2.1 | exact fun z => z.2.2.2.2.1 | exact fun z => z.2.2.2.2.2.1 | exact fun z => z.2.2.2.2.2.2.1 | exact fun z => z.2.2.2.2.2.2.2.1 | exact fun z => z.2.2.2.2.2.2.2.2.1 | exact fun z => z.2.2.2.2.2.2.2.2.2.1 | exact fun z => z.2.2.2.2.2.2.2.2.2.2.1 | exact fun z => z.2.2.2.2.2.2.2.2.2.2.2.1 | exact fun z => z.2.2.2.2.2.2.2.2.2.2.2.2.1 | exact fun z => z.2.2.2.2.2.2.2.2.2.2.2.2.2.1 | exact And.right | exact fun z => z.2.2 | exact fun z => z.2.2.2 | exact fun z => z.2.2.2.2 | exact fun z => z.2.2.2.2.2 | exact fun z => z.2.2.2.2.2.2 | exact fun z => z.2.2.2.2.2.2.2 | exact fun z => z.2.2.2.2.2.2.2.2 | exact fun z => z.2.2.2.2.2.2.2.2.2 | exact fun z => z.2.2.2.2.2.2.2.2.2.2 | exact fun z => z.2.2.2.2.2.2.2.2.2.2.2 | exact fun z => z.2.2.2.2.2.2.2.2.2.2.2.2 | exact fun z => z.2.2.2.2.2.2.2.2.2.2.2.2.2)) | (apply nc4; assumption; (first | exact And.left | exact fun z => z.2.1 | exact fun z => z.2.2.1 | exact fun z => z.2.2.2.1 | exact fun z => z.2.2.2.2.1 | exact fun z => z.2.2.2.2.2.1 | exact fun z => z.2.2.2.2.2.2.1 | exact fun z => z.2.2.2.2.2.2.2.1 | exact fun z => z.2.2.2.2.2.2.2.2.1 | exact fun z => z.2.2.2.2.2.2.2.2.2.1 | exact fun z => z.2.2.2.2.2.2.2.2.2.2.1 | exact fun z => z.2.2.2.2.2.2.2.2.2.2.2.1 | exact fun z => z.2.2.2.2.2.2.2.2.2.2.2.2.1 | exact fun z => z.2.2.2.2.2.2.2.2.2.2.2.2.2.1 | exact And.right | exact fun z => z.2.2 | exact fun z => z.2.2.2 | exact fun z => z.2.2.2.2 | exact fun z => z.2.2.2.2.2 | exact fun z => z.2.2.2.2.2.2 | exact fun z => z.2.2.2.2.2.2.2 | exact fun z => z.2.2.2.2.2.2.2.2 | exact fun z => z.2.2.2.2.2.2.2.2.2 | exact fun z => z.2.2.2.2.2.2.2.2.2.2 | exact fun z => z.2.2.2.2.2.2.2.2.2.2.2 | exact fun z => z.2.2.2.2.2.2.2.2.2.2.2.2 | exact fun z => z.2.2.2.2.2.2.2.2.2.2.2.2.2)))))
  (k_with "k_upd" => first | (apply uh8; k_all) | (apply ut8; k_ne; k_upd))
  (k_with "k_updF" => first | (apply fh8; k_all) | (apply ft8; k_ne; k_updF))
  (k_with "k_all" => first | exact List.forall_mem_nil _ | (apply an8; k_ne; k_all))
  (k_with "kcf_all" => first | exact fun _ hp => hp | (apply sb8; (focus kcf_m); kcf_all))
  (k_with "ktr_units" => first | exact uu2 hu rfl | exact uu1 hu rfl | exact uu3 hu rfl | exact uu4 hu rfl)
  (k_with "ktr_room" => first | exact uu2 hdp rfl | exact uu1 hdp rfl | exact uu3 hdp rfl | exact uu4 hdp rfl)
  (k_with "subscriptTail Name UnaryOp ref int" => k_extra "subscriptTail")
  (k_with "k_all" => assumption)
  (k_with "k_all" => exact tup_off (by k_asm) (by k_mem) (by kcf_all) (by assumption) (by rfl))
  exact trivial
def finishS (c : St) : List (Int × Bool) := settledS c true ++ (if c.pos > 0 then [(c.pos, true)] else [])
set_option maxRecDepth 100000 in
set_option maxHeartbeats 2000000 in
theorem C_finish {w : World} {mean : ExcName → Option Value} {mg mb : Str → Option Value} {dp un : Nat} {gd : Option (List Code)} {cn : Str} {cs : Scope} {a : Addr} {ccd : Value} {cl : List (Str × Addr)} {outer : List Env} {A₀ : Around} {base h₀ : Heap} {L : Addr} {m : Str → Option Value} {s : Shared} {Q E : Value → Shared → Prop} (B : Below A₀ base outer h₀) (F : Fr h₀ L s.heap m) (X : (hd.heap_1 w.params).In h₀) (T : (Top view9 (looseW view9 []) mean mg mb h₀)) (hk : cs.kind = .function) {x dx d : Addr} {c : St} {es : List DictEntry} {big : List (Addr × Obj)} {big' : Obj → List (Addr × Obj)}
    (Nb : News h₀ L s.heap big) (hsub : ∀ p ∈ [(x, instObj 76 dx)], p ∈ big) (U : ∀ o', Upd dx (dictOf es 8) o' big (big' o')) (hxd : @LT.lt Nat _ dx x) (S : SIs w d c es) (hp : c.pos < 900) (hp0 : 0 ≤ c.pos) (hh : c.held < 900) (hh0 : -1 ≤ c.held)
    (hdp : dp + 12 < recursionLimit) (hu : un + 200 < cLine)
    (hret : ∀ f us tl k es' h' tk', Fr h₀ L h' m → News h₀ L h' ((f, listOf us.toArray k) :: (big' (dictOf es' 8) ++ tl)) → s.heap.get? f = none → RowsIn tl us (finishS c) → TupAll tl → us.length ≤ 1100 → (∀ p ∈ tl, @Ne Nat p.1 f) → Q (.ref f) { s with heap := h', toks := tk' }) :
    wpAny (model PySem.Challenge.rw_on0369_01.row.prog w) (ktrTop dp un gd cn cs L a ccd cl outer) (call (.ref 73) [.ref x]) Q E s := by
  w_top off
  refine SIs.out S ?_
  clear S
  intro t0 t1 t2 t3 t4 t5 t6 t7 t8 t9 t10 t11 t12 t13  e9
  subst e9
  have N : News h₀ L s.heap ((dx, dictOf _ 8) :: [(x, instObj 76 dx)]) := news_sub Nb fun p hp => (List.mem_cons.mp hp).elim (fun e => e ▸ upd_mem (U (dictOf [] 8))) (hsub p)
  refine wpAny_call ?_
  k_dflt (refine' code_defG ?k1 ?k2 ?k3 N ?k5 ?kA ?kF ?kK ?k6 ?k7 ?k8 ?k9 ?kB ?_ ?c2 ?c3 ?c4 ?c5; (case kA => exact rfl); (case kF => exact rfl); (case kK => assumption); (case k1 => k_asm); (case k2 => k_asm); (case k3 => k_asm); (case k5 => k_asm); (case k6 => k_is); (case k7 => k_is); (case k8 => ktr_room); (case k9 => exact BindsTo.of_eq rfl); (case c5 => decide); (case kB => exact locs rfl); (case c2 => exact rfl); (case c3 => exact rfl); (case c4 => exact rfl); k_whole; intro g' L' h' FG' F' N' B' X' T' GS'; (try dsimp only); (try k_fold); refine toks_any fun tk9 => ?_; refine let_fr F' ?_; clear F'; intro m9 F'; refine let_A ?_; intro A9)
  (k_steps; repeat (any_goals ((first | ((with_reducible show Halt (wpAny _ _ (call (Value.ref 178) _) _ _ _)); refine Halt.go ?_; k_dflt (refine' C_get ?B9z ?F9z ?X9z ?T9z ?hk9z ?N9z ?s9z ?ok9z ?hv9z ?hvp9zq ?hlen9z ?hs9z ?p09z ?p19z ?k9z ?hdp9z ?hu9z ?_; (case B9z => k_asm); (case F9z => k_asm); (case X9z => k_asm); (case T9z => k_asm); (case hk9z => first | exact rfl | assumption); (case N9z => k_asm); (case ok9z => assumption); (case s9z => kcf_all); (case hv9z => assumption); (case hvp9zq => assumption); (case hlen9z => omega); (case hs9z => assumption); (case p09z => assumption); (case p19z => assumption); (case k9z => assumption); (case hdp9z => ktr_room); (case hu9z => ktr_units); k_whole); intro t'q h'q tk'q F'q N'q; (try k_sweep)) | ((with_reducible show Halt (wpAny _ _ (call (Value.ref 52) _) _ _ _)); refine Halt.go ?_; k_dflt (refine' C_settled2 ?B9z ?F9z ?X9z ?T9z ?hk9z ?N9z ?x9z ?U9z ?xd9z ?S9z ?p9z ?p09z ?h9z ?h09z ?hdp9z ?hu9z ?_; (case B9z => k_asm); (case F9z => k_asm); (case X9z => k_asm); (case T9z => k_asm); (case hk9z => first | exact rfl | assumption); (case N9z => k_asm); (case x9z => k_mem); (case U9z => (intro o'q; k_upd)); (case xd9z => assumption); (case S9z => exact sIs_of rfl); (case p9z => (try dsimp only); omega); (case p09z => (try dsimp only); omega); (case h9z => (try dsimp only); omega); (case h09z => (try dsimp only); omega); (case hdp9z => ktr_room); (case hu9z => ktr_units); k_whole); intro f'q us'q tl'q k'q es'q h'q tk'q F'q N'q hfr'q S'q hro'q hta'q hul'q hoff'q hoft'q; (refine SIs.out S'q ?_); (clear S'q); (intro _ _ _ _ _ _ _ _ _ _ _ _ _ _ he'q); (subst he'q); (try dsimp only [List.cons_append, List.nil_append] at N'q); (try dsimp only at N'q); (replace hoff'q := allNe_of hoff'q); (try dsimp only [AllNe] at hoff'q); (try k_sweep)) | ((with_reducible show Halt (wpAny _ _ (call (Value.ref 47) _) _ _ _)); refine Halt.go ?_; k_dflt (refine' C_verdict ?B9z ?F9z ?X9z ?T9z ?hk9z ?N9z ?I9z ?S9z ?hdp9z ?hu9z ?_; (case B9z => k_asm); (case F9z => k_asm); (case X9z => k_asm); (case T9z => k_asm); (case hk9z => first | exact rfl | assumption); (case N9z => k_asm); (case I9z => exact IsInst.news (by k_asm) (by k_mem) (by k_mem)); (case S9z => exact sIs_of rfl); (case hdp9z => ktr_room); (case hu9z => ktr_units); k_whole); intro t'q h'q tk'q st'q F'q N'q; (try k_sweep)) | ((with_reducible show Halt (wpAny _ _ (call (Value.ref 59) _) _ _ _)); refine Halt.go ?_; k_dflt (refine' C_take2 ?B9z ?F9z ?X9z ?T9z ?hk9z ?N9z ?x9z ?U9z ?xd9z ?S9z ?hdp9z ?hu9z ?_; (case B9z => k_asm); (case F9z => k_asm); (case X9z => k_asm); (case T9z => k_asm); (case hk9z => first | exact rfl | assumption); (case N9z => k_asm); (case x9z => k_mem); (case U9z => (intro o'q; k_upd)); (case xd9z => assumption); (case S9z => exact sIs_of rfl); (case hdp9z => ktr_room); (case hu9z => ktr_units); k_whole); intro es'q h'q tk'q F'q N'q S'q; (try dsimp only at N'q); (try k_sweep))); k_steps)))
  · (with_reducible rename TupAll _ => hta)
    (with_reducible rename RowsIn _ _ _ => hro)
    refine' hret _ _ ((_, tup2 _ _ _ _) :: tlOf hta) _ _ _ _ (by k_asm) ?n ?f ?r ?t ?u ?o
    case n => exact news_fin U Nb hsub (keepBut_of (by assumption) GS') (by k_asm) (by k_mem) (by kcf_all) (by k_mem) (by kcf_all)
    case f => exact fresh_of GS' (by assumption) (by k_mem) (by simp only [List.map_cons, List.map_nil, List.mem_cons, List.not_mem_nil, or_false, not_or]; repeat' (first | (exact by k_ne) | apply And.intro))
    case r =>
      unfold finishS
      rw [if_pos (by assumption)]
      simp only [List.toList_toArray, List.concat_eq_append]
      exact (hro.mono fun p hp => .tail _ hp).append (.cons (.head _) .nil)
    case t =>
      intro p hp
      rcases List.mem_cons.mp hp with rfl | hp
      · rfl
      · exact hta p hp
    case u => simp only [List.toList_toArray, List.concat_eq_append, List.length_append, List.length_cons, List.length_nil]; omega
    case o =>
      intro p hp
      rcases List.mem_cons.mp hp with rfl | hp
      · k_ne
      · exact tup_off (by k_asm) (by k_mem) (by kcf_all) hta rfl p hp
  · (with_reducible rename TupAll _ => hta)
    (with_reducible rename RowsIn _ _ _ => hro)
    refine' hret _ _ _ _ _ _ _ (by k_asm) ?n2 ?f2 ?r2 hta ?u2 ?o2
    case n2 => exact news_fin U Nb hsub (keepBut_of (by assumption) GS') (by k_asm) (by k_mem) (by kcf_all) (by k_mem) (by kcf_all)
    case f2 => exact fresh_of GS' (by assumption) (by k_mem) (by simp only [List.map_cons, List.map_nil, List.mem_cons, List.not_mem_nil, or_false, not_or]; repeat' (first | (exact by k_ne) | apply And.intro))
    case r2 =>
      unfold finishS
      rw [if_neg (by assumption), List.append_nil]
      exact hro
    case u2 => omega
    case o2 => assumption
end V10part
section Gen5part
/-! ## a comprehension over a made tuple -/
section
open PyProof.Rows.LCg PySem.Calls
variable {prog : Program} {w : World} {A : Around} {E : Value → Shared → Prop} {s : Shared} {h₀ : Heap} {L : Addr} {m : Str → Option Value} {env : Env}
abbrev tupN (its : Array Value) (k : Nat) : Obj := { cls := .type "tuple", data := .seq its k }
def SrcTup (prog : Program) (w : World) (A : Around) (h₀ : Heap) (L : Addr) (m : Str → Option Value) (env : Env) (elt : Expr) (x : Str) (scope : Scope) (cl : List (Str × Addr)) (Fin : Shared → List Value → List (Addr × Obj) → Prop) (xv : Value) (s₁ : Shared) : Prop :=
  ∃ ax its k news, xv = .ref ax ∧ A.handled = none ∧ Fr h₀ L s₁.heap m ∧ News h₀ L s₁.heap news ∧ (ax, tupN its k) ∈ news ∧ its.size ≤ sizeLine ∧
    ∀ g, CompRest prog w A h₀ L m env elt x scope cl { s₁ with heap := g } (fun nw => (ax, tupN its k) ∈ nw) (fun i v => its[i]? = some v) (Fin { s₁ with heap := g }) its.size 0 [] news
theorem SrcTup.intro {elt : Expr} {x : Str} {scope : Scope} {cl : List (Str × Addr)} {Fin : Shared → List Value → List (Addr × Obj) → Prop} {ax : Addr} {its : Array Value} {k : Nat} {news : List (Addr × Obj)} {s₁ : Shared}
    (hh : A.handled = none) (F : Fr h₀ L s₁.heap m) (N : News h₀ L s₁.heap news) (hm : (ax, tupN its k) ∈ news) (hsz : its.size ≤ sizeLine)
    (h : ∀ g, CompRest prog w A h₀ L m env elt x scope cl { s₁ with heap := g } (fun nw => (ax, tupN its k) ∈ nw) (fun i v => its[i]? = some v) (Fin { s₁ with heap := g }) its.size 0 [] news) :
    SrcTup prog w A h₀ L m env elt x scope cl Fin (.ref ax) s₁ := ⟨ax, its, k, news, rfl, hh, F, N, hm, hsz, h⟩
theorem assign_comp_tup {elt iter : Expr} {x y : Str} {px py : Pos} {scope : Scope} {cl : List (Str × Addr)} {pos spos : Pos} {Q : Flow → Shared → Prop} (F₀ : Fr h₀ L s.heap m) (hLe : env.locals = L)
    (hsw : swapsWith (.ListComp elt [⟨.Name x px, iter, [], 0⟩] scope pos) (some (.Name y py)) spos.line env = pure true)
    (hclos : closureFor scope env = pure cl) (hcell : ∀ z ∈ scope.names, z.2 ≠ .cell) (hkind : scope.kind = .function)
    (hnames : ∀ z ∈ scope.names, z.2 = .local → scope.names.lookup z.1 = some .local) (hx : scope.names.lookup x = some .local)
    (hy : env.kindOf y = some .local) (hp : (env.scope.kind == .class || (env.scope.kind == .module && env.locals != env.globals)) = false)
    (h : wpAny (model prog w) A (eval iter env) (SrcTup prog w A h₀ L m env elt x scope cl (fun s₂ => FinA h₀ L m s₂ y Q)) E s)
    (hs : ∀ x, foldedSetIterable iter env x = pure x := by intro _; rfl) :
    wpAny (model prog w) A (exec (.Assign [.Name y py] (.ListComp elt [⟨.Name x px, iter, [], 0⟩] scope pos) spos) env) Q E s := by
  subst hLe
  rw [exec_Assign_Name_used _ _ _ _ hsw]
  refine wpAny_bind (wpAny_standAt (wpAny_bind ?_))
  show wpAny _ A (do let _ ← comprehension (.ListComp elt [⟨.Name x px, iter, [], 0⟩] scope pos) scope env _ (newList []) false (eval iter env) (some (assign (.Name y py) env))) _ _ s
  refine wpAny_bind (wpAny_mono (wpAny_comprehension_free (use := some (assign (.Name y py) env)) (Q := fun _ s' => Q .next s') rfl hs hclos hkind hnames
    (wpAny_mono h (fun xv s₁ h₁ => ?_) fun _ _ e => e)) (fun _ s' hq => wpAny_pure (wpAny_pure hq)) fun _ _ e => e)
  obtain ⟨ax, its, k, news, rfl, hh, F, N, hm, hsz, R⟩ := h₁
  have hget := (N _ hm).1
  have hT : s₁.heap.IsTuple ax its := ⟨_, hget, rfl, _, rfl⟩
  have hlt := Heap.lt_size hget
  refine wpAny_pyIter_tuple hT ?_
  have keep1 : ∀ b o, s₁.heap.get? b = some o → (s₁.heap.push { cls := .type "tuple_iterator", data := .fields #[.ref ax, .int 0 0] }).get? b = some o := fun b o e => Heap.get?_push_of_some _ e
  have keepIt : ∀ i (h h' : Heap) (o : Obj) (nw : List (Addr × Obj)), (h.IsTupleIter s₁.heap.objs.size ax i ∧ h.IsTuple ax its) → h.get? s₁.heap.objs.size = some o → h'.get? s₁.heap.objs.size = some o → (∀ b o, h₀.get? b = some o → h'.get? b = some o) → News h₀ env.locals h' nw → (ax, tupN its k) ∈ nw → (h'.IsTupleIter s₁.heap.objs.size ax i ∧ h'.IsTuple ax its) := by
    rintro i h h' o nw ⟨⟨o', q, r⟩, _⟩ e e' _ N' hm'
    have : o' = o := by rw [q] at e; exact Option.some.inj e
    subst this
    exact ⟨⟨_, e', r⟩, ⟨_, (N' _ hm').1, rfl, _, rfl⟩⟩
  refine block_U (Walks.tuple hh s₁.heap.objs.size ax (Nat.ne_of_lt hlt) its) hsz (fun i h st => by obtain ⟨o, e, _⟩ := st.1; exact ⟨o, e⟩) keepIt hcell hkind hx
    ⟨⟨_, Heap.get?_push_size _ rfl, rfl, rfl⟩, hT.at fun o e => keep1 _ _ e⟩ (fun b hb => ?_) (F.keeps keep1) (N.grown keep1) (Nat.ne_of_lt F.ns.lt) (next_is_new F) (fun p hp => Nat.ne_of_lt (Heap.lt_size (N p hp).1)) hm (R _) ?_
  · show b < (s₁.heap.push _).objs.size
    rw [Heap.size_push]
    rcases List.mem_cons.mp hb with rfl | hb
    · exact Nat.lt_succ_self _
    · rw [List.mem_singleton.mp hb]; exact Nat.lt_succ_of_lt hlt
  · intro D C h' tk m' ys news' F' N' o1 hn hC₀ hD₀ hCL hDL hCD offC fin
    show wpAny _ A (assign (.Name y py) env (.ref D)) _ _ _
    refine wpAny_assign_Name (wpAny_storeName_local hy F'.ns (fun h₂ hn₂ hs₂ => ?_) hp)
    have hL₀ : h₀.get? env.locals = none := Heap.get?_none_of_le F'.above
    have F₂ : Fr h₀ env.locals h₂ (fun z => if z = y then some (.ref D) else m z) := ⟨hn₂, fun b o e => hs₂.extBut b o (fun q => by rw [q, hL₀] at e; cases e) (F'.keep b o e), F'.above⟩
    refine ⟨m', hn.sameBut hs₂ hCL, fun h'' hs'' => fin D h'' _ (F₂.change hs'' hCL hC₀) (fun p hp => ?_) o1⟩
    have z : h₂.get? p.1 = some p.2 := hs₂.extBut _ _ (N' p hp).2.1 (N' p hp).1
    refine ⟨hs''.extBut _ _ ?_ z, (N' p hp).2⟩
    rcases List.mem_cons.mp hp with rfl | hp
    · exact Ne.symm hCD
    · exact offC p hp
/-- lists of texts in the ledger -/
inductive ListsIn (news : List (Addr × Obj)) : List Value → List (List Str) → Prop
  | nil : ListsIn news [] []
  | cons {a : Addr} {vs : List Value} {ms : List Str} {n : Nat} {ws : List Value} {mss : List (List Str)} : (a, listOf vs.toArray n) ∈ news → StrsAre vs ms → ListsIn news ws mss → ListsIn news (.ref a :: ws) (ms :: mss)
theorem listsIn_get {news : List (Addr × Obj)} {ws : List Value} {mss : List (List Str)} (h : ListsIn news ws mss) : ∀ {i : Nat} {v : Value}, ws[i]? = some v → ∃ a vs ms n, v = .ref a ∧ mss[i]? = some ms ∧ (a, listOf vs.toArray n) ∈ news ∧ StrsAre vs ms := by
  induction h with
  | nil => intro i v e; simp at e
  | cons hm hs _ ih =>
    intro i v e
    cases i with
    | zero => simp at e; exact ⟨_, _, _, _, e.symm, rfl, hm, hs⟩
    | succ i => exact ih (by simpa using e)
theorem listsIn_length {news : List (Addr × Obj)} {ws : List Value} {mss : List (List Str)} (h : ListsIn news ws mss) : ws.length = mss.length := by
  induction h with
  | nil => rfl
  | cons _ _ _ ih => simp [ih]
theorem rest_lists {elt : Expr} {x : Str} {scope : Scope} {cl : List (Str × Addr)} {S : List (Addr × Obj) → Prop} {Fin : List Value → List (Addr × Obj) → Prop} {news : List (Addr × Obj)} {its : Array Value} {mss : List (List Str)} (hi : ListsIn news its.toList mss) (f : List Str → Bool)
    (turn : ∀ a vs ms n I oI C oC D m₂ ys h tk (E' : Value → Shared → Prop), ms ∈ mss → (a, listOf vs.toArray n) ∈ news → StrsAre vs ms → NsObj oC m₂ → m₂ x = some (.ref a) → Fr h₀ L h m → News h₀ L h ((I, oI) :: (C, oC) :: (D, lst ys) :: news) → Off3 I C D news → ((@Ne Nat I C) ∧ (@Ne Nat I D) ∧ (@Ne Nat C D)) →
      wpAny (model prog w) A (eval elt (compEnvC scope cl C env)) (CompEnd h₀ L m { s with heap := h, toks := tk } I oI C oC D (lst ys) S (fun y nw' => y = .bool (f ms) ∧ nw' = news)) E' { s with heap := h, toks := tk })
    (fin : Fin ((mss.map f).map Value.bool) news) : CompRest prog w A h₀ L m env elt x scope cl s S (fun i v => its[i]? = some v) Fin its.size 0 [] news := by
  refine rest_J (fun i ys nw => nw = news ∧ ys = ((mss.take i).map f).map Value.bool) ⟨rfl, rfl⟩ ?_ ?_
  · rintro i v I oI C oC D m₂ ys nw h tk E' hlt hv ⟨rfl, hys⟩ hC hx F N off ne
    obtain ⟨a, vs, ms, n, rfl, hmi, hm, hs⟩ := listsIn_get hi (i := i) (v := v) (by simpa using hv)
    refine wpAny_mono (turn a vs ms n I oI C oC D m₂ ys h tk E' (List.mem_of_getElem? hmi) hm hs hC hx F N off ne) (fun y s₃ q => ?_) fun _ _ e => e
    obtain ⟨h', tk', nw', e, F', N', off', hS, rfl, rfl⟩ := q
    refine ⟨h', tk', _, e, F', N', off', hS, rfl, ?_⟩
    rw [hys, List.take_add_one, hmi]
    simp
  · rintro ys nw ⟨rfl, rfl⟩
    have e : mss.take its.size = mss := by rw [← Array.length_toList, listsIn_length hi]; exact List.take_length ..
    rw [e]; exact fin
end
/-! ## two lists added; a list of bools sought in a pair -/
section
variable {prog : Program} {w : World} {A : Around} {E : Value → Shared → Prop} {s : Shared} {h₀ : Heap} {L a b : Addr} {m : Str → Option Value} {news : List (Addr × Obj)} {vs ws : List Value} {Q : Value → Shared → Prop}
theorem add_two (F : Fr h₀ L s.heap m) (N : News h₀ L s.heap news) (ha : s.heap.IsList a vs.toArray) (hb : s.heap.IsList b ws.toArray) (hz : vs.length + ws.length ≤ 10000)
    (h : ∀ D h', Fr h₀ L h' m → News h₀ L h' ((D, listOf (vs ++ ws).toArray 0) :: news) → (∀ p ∈ news, p.1 < D) → Q (.ref D) { s with heap := h' }) :
    wpAny (model prog w) A (binaryOp .Add (.ref a) (.ref b)) Q E s := by
  refine add_arrays F N ha hb (fun h' F' N' => h _ h' F' N' fun p hp => Heap.lt_size (N p hp).1) ?_
  rw [PySem.sizeLine_eq]; simp; omega
end
theorem eqv_bools : ∀ ks ms : List Bool, PyData.eqvAll (ks.map PyData.bool) (ms.map PyData.bool) = decide (ks = ms)
  | [], [] => by simp [PyData.eqvAll]
  | [], _ :: _ => by simp [PyData.eqvAll]
  | _ :: _, [] => by simp [PyData.eqvAll]
  | n :: r, k :: q => by
    simp only [List.map_cons, PyData.eqvAll, PyData.eqv, eqv_bools r q]
    cases n <;> cases k <;> simp
theorem readsAll_bools {h : Heap} : ∀ bs : List Bool, ReadsAll h (bs.map Value.bool) (bs.map PyData.bool) []
  | [] => .nil
  | b :: r => ReadsAll.cons (as := []) (Reads.bool b) (readsAll_bools r)
section
variable {prog : Program} {w : World} {A : Around} {E : Value → Shared → Prop} {s : Shared} {h₀ : Heap} {L D T a b : Addr} {news : List (Addr × Obj)} {ks ka kb : List Bool} {n n' na nb : Nat} {Q : Value → Shared → Prop}
theorem in_twoB (N : News h₀ L s.heap news) (hx : (D, listOf (ks.map Value.bool).toArray n) ∈ news) (ht : (T, ({ cls := .type "tuple", data := .seq #[.ref a, .ref b] n' } : Obj)) ∈ news) (ha : (a, listOf (ka.map Value.bool).toArray na) ∈ news) (hb : (b, listOf (kb.map Value.bool).toArray nb) ∈ news)
    (hu : A.units + 65 < cLine) (h : Q (.bool (decide (ks = ka) || decide (ks = kb))) s) :
    wpAny (model prog w) A (compareOp .In (.ref D) (.ref T)) Q E s := by
  have rD := reads_listOf (N _ hx).1 (readsAll_bools (h := s.heap) ks)
  have ra := reads_listOf (N _ ha).1 (readsAll_bools (h := s.heap) ka)
  have rb := reads_listOf (N _ hb).1 (readsAll_bools (h := s.heap) kb)
  have rT : Reads s.heap (.ref T) (.tuple [.list (ka.map PyData.bool), .list (kb.map PyData.bool)]) _ := Reads.tuple (N _ ht).1 rfl rfl (ReadsAll.cons ra (ReadsAll.cons rb .nil))
  have cl : ∀ l : List Bool, PyData.canLay0 (.list (l.map PyData.bool)) = true := fun l => by
    simp only [PyData.canLay0]
    exact canLayAll_of fun d hd => by
      obtain ⟨k, hk, rfl⟩ := List.mem_map.mp hd
      simp [PyData.canLay0]
  have dl : ∀ l : List Bool, PyData.depth (.list (l.map PyData.bool)) ≤ 2 := fun l => by
    have : PyData.depthAll (l.map PyData.bool) ≤ 1 := depthAll_of fun d hd => by
      obtain ⟨k, hk, rfl⟩ := List.mem_map.mp hd
      simp [PyData.depth]
    simp only [PyData.depth]; omega
  have sD : SeqAt.shaped (.list (ks.map PyData.bool)) = true := by
    have d3 := dl ks
    show (PyData.canLay0 (.list (ks.map PyData.bool)) && decide (PyData.depth (.list (ks.map PyData.bool)) ≤ 64)) = true
    rw [Bool.and_eq_true]
    exact ⟨cl ks, decide_eq_true (by omega)⟩
  have sT : SeqAt.shaped (.tuple [.list (ka.map PyData.bool), .list (kb.map PyData.bool)]) = true := by
    have c1 := cl ka
    have c2 := cl kb
    have d1 := dl ka
    have d2 := dl kb
    have d3 : PyData.depth (.tuple [.list (ka.map PyData.bool), .list (kb.map PyData.bool)]) ≤ 64 := by
      simp only [PyData.depth, PyData.depthAll] at d1 d2 ⊢; omega
    show (PyData.canLay0 (.tuple [.list (ka.map PyData.bool), .list (kb.map PyData.bool)]) && decide (PyData.depth (.tuple [.list (ka.map PyData.bool), .list (kb.map PyData.bool)]) ≤ 64)) = true
    rw [Bool.and_eq_true]
    refine ⟨?_, decide_eq_true d3⟩
    simp only [PyData.canLay0, PyData.canLayAll0] at c1 c2 ⊢
    simp [c1, c2]
  have nm : ∀ x y : List Bool, SeqAt.noMix (.list (x.map PyData.bool)) (.list (y.map PyData.bool)) = true := by
    intro x y
    simp only [SeqAt.noMix]
    induction x generalizing y with
    | nil => cases y <;> simp [SeqAt.noMixAll]
    | cons p r ih => cases y with
      | nil => simp [SeqAt.noMixAll]
      | cons q t => simp [SeqAt.noMixAll, SeqAt.noMix, ih t]
  refine in_tuple_dataH rT rD sT sD hu ?_ ?_
  · intro y hy
    rcases List.mem_cons.mp hy with rfl | hy
    · exact nm _ _
    · rw [List.mem_singleton.mp hy]; exact nm _ _
  · have e : decide (PySem.Spec.countIn (.list (ks.map PyData.bool)) [.list (ka.map PyData.bool), .list (kb.map PyData.bool)] ≠ 0) = (decide (ks = ka) || decide (ks = kb)) := by
      have se : ∀ x y : List Bool, PySem.Spec.same (.list (x.map PyData.bool)) (.list (y.map PyData.bool)) = decide (y = x) := by
        intro x y
        rw [SeqAt.same_eq_eqv _ _ (nm x y)]
        simp only [PyData.eqv]
        rw [eqv_bools]
        by_cases h : x = y
        · simp [h]
        · have : ¬ y = x := fun e => h e.symm
          simp [h, this]
      simp only [PySem.Spec.countIn, se]
      by_cases h1 : ks = ka <;> by_cases h2 : ks = kb <;> simp [h1, h2]
      all_goals (try (subst h1)) <;> simp_all
    rw [e]; exact h
end
end Gen5part
section Gen6part
/-! ## a for over a range, by an invariant -/
section
variable {prog : Program} {w : World} {A : Around} {E : Value → Shared → Prop} {s : Shared} {env : Env} {h₀ : Heap} {body : List Stmt} {Q : Flow → Shared → Prop}
theorem rangeJ {y : Str} {py : Pos} {r : Addr} {a b : Int} {t u v : Tok} {n : Nat} {m₀ : Str → Option Value} {news : List (Addr × Obj)} (st : List Str) (J : Nat → List (Addr × Obj) → Prop)
    (hh : A.handled = none) (F : Fr h₀ env.locals s.heap m₀) (N : News h₀ env.locals s.heap news) (hr : IsRange s.heap r a b 1 t u v) (hsm : Builtin.Range.small a b 1 = true) (hn : Builtin.Range.rangeSize a b 1 = ((n : Nat) : Int)) (h0 : J 0 news)
    (turn : ∀ (I i : Nat) tv u news₁ h₁ tk₁ o1, s.heap.objs.size ≤ I → i < n → J i news₁ → o1.cls = .type "range_iterator" → Fr h₀ env.locals h₁ (over st u m₀) → News h₀ env.locals h₁ ((I, o1) :: news₁) →
      wpAny (model prog w) A (assign (.Name y py) env (.int (a + (i : Int)) tv)) (fun _ s₃ => wpAny (model prog w) A (execs body env) (TurnPost h₀ env.locals [(I, o1)] (fun m' n' => (∀ y, st.contains y = false → m' y = m₀ y) ∧ J (i + 1) n') { s with heap := h₁, toks := tk₁ } Q) E s₃) E { s with heap := h₁, toks := tk₁ })
    (done : ∀ u news₁ h tk, J n news₁ → Fr h₀ env.locals h (over st u m₀) → News h₀ env.locals h news₁ → Q .next { s with heap := h, toks := tk }) :
    wpAny (model prog w) A (pyIter (.ref r)) (fun it s₂ => TurnsAt prog w A h₀ env (.Name y py) body Q E it s₂) E s := by
  have hLs : env.locals < s.heap.objs.size := F.ns.lt
  have fresh : ∀ b, s.heap.objs.size ≤ b → h₀.get? b = none := fun b hb => by
    cases e : h₀.get? b with
    | none => rfl
    | some o => exact absurd (Heap.lt_size (F.keep _ _ e)) (Nat.not_lt.mpr hb)
  refine wpAny_pyIter_range hr hsm ?_
  refine turnsJ (tk0 := s.toks) [(s.heap.objs.size, "range_iterator")] (fun i m₁ n₁ => (∀ y, st.contains y = false → m₁ y = m₀ y) ∧ J i n₁)
    (KTurns.ofWalks (LCg.range_walks (I := s.heap.objs.size) hh a n) fun i v s Q E _ q => by unfold letOwnedTupleGo; exact wpAny_pure q) ?_ ?_ ?_ ?_ ?_ ?_ ?_ ?_ (F.keeps fun _ _ e => Heap.get?_push_of_some _ e) (N.grown fun _ _ e => Heap.get?_push_of_some _ e) ⟨fun _ _ => rfl, h0⟩ ?_ (fun m₁ n₁ h tk hJ F₁ N₁ => done m₁ n₁ h tk hJ.2 (over_self hJ.1 ▸ F₁) N₁)
  · intro i h st
    exact ⟨[(s.heap.objs.size, _)], ⟨⟨rfl, rfl⟩, trivial⟩, fun p hp => by rw [List.mem_singleton.mp hp]; exact st⟩
  · intro b hb
    rw [List.mem_singleton.mp hb]; exact ⟨by simp, fresh _ (Nat.le_refl _)⟩
  · intro x hx
    rw [List.mem_singleton.mp hx]; rfl
  · intro b hb; simpa using hb
  · intro b hb
    exact .inl (by simpa using hb)
  · intro hb
    exact absurd hLs ((List.mem_singleton.mp hb) ▸ Nat.lt_irrefl _)
  · intro p hp hb
    exact absurd (Heap.lt_size (N p hp).1) ((List.mem_singleton.mp hb) ▸ Nat.lt_irrefl _)
  · show IsRangeIter _ _ _ _ _
    rw [hn]; simpa using Heap.get?_push_size _ rfl
  · rintro i v m₁ news₁ h₁ tk₁ its hin ⟨tv, rfl⟩ hJ hits F₁ N₁
    match its, hits with
    | [(a1, o1)], hits =>
      obtain ⟨⟨e1, c1⟩, _⟩ := hits
      have e1' : a1 = s.heap.objs.size := e1
      subst e1'
      exact turn _ i tv m₁ news₁ h₁ tk₁ o1 (Nat.le_refl _) hin hJ.2 c1 (over_self hJ.1 ▸ F₁) N₁
    | [], hits => exact (show False from hits).elim
    | _ :: _ :: _, hits => exact (show False from hits.2).elim
end
end Gen6part
section Gen7part
/-! ## a for over a list of the ledger, by an invariant -/
section
variable {prog : Program} {w : World} {A : Around} {E : Value → Shared → Prop} {s : Shared} {env : Env} {h₀ : Heap} {body : List Stmt} {Q : Flow → Shared → Prop}
theorem listJ {y : Str} {py : Pos} {l : Addr} {vs : List Value} {nn : Nat} {m₀ : Str → Option Value} {news : List (Addr × Obj)} (J : Nat → (Str → Option Value) → List (Addr × Obj) → Prop)
    (hh : A.handled = none) (F : Fr h₀ env.locals s.heap m₀) (N : News h₀ env.locals s.heap news) (hl : (l, listOf vs.toArray nn) ∈ news) (hk : ∀ i m₁ news₁, J i m₁ news₁ → (l, listOf vs.toArray nn) ∈ news₁) (h0 : J 0 m₀ news)
    (turn : ∀ (I i : Nat) v m₁ news₁ h₁ tk₁ o1, s.heap.objs.size ≤ I → vs[i]? = some v → J i m₁ news₁ → o1.cls = .type "list_iterator" → Fr h₀ env.locals h₁ m₁ → News h₀ env.locals h₁ ((I, o1) :: news₁) →
      wpAny (model prog w) A (assign (.Name y py) env v) (fun _ s₃ => wpAny (model prog w) A (execs body env) (TurnPost h₀ env.locals [(I, o1)] (J (i + 1)) { s with heap := h₁, toks := tk₁ } Q) E s₃) E { s with heap := h₁, toks := tk₁ })
    (done : ∀ m₁ news₁ h tk, J vs.length m₁ news₁ → Fr h₀ env.locals h m₁ → News h₀ env.locals h news₁ → Q .next { s with heap := h, toks := tk }) :
    wpAny (model prog w) A (pyIter (.ref l)) (fun it s₂ => TurnsAt prog w A h₀ env (.Name y py) body Q E it s₂) E s := by
  have hget := N _ hl
  have hL : s.heap.IsList l vs.toArray := ⟨_, hget.1, rfl, _, rfl⟩
  have hlt : l < s.heap.objs.size := Heap.lt_size hget.1
  have hLs : env.locals < s.heap.objs.size := F.ns.lt
  have fresh : ∀ b, s.heap.objs.size ≤ b → h₀.get? b = none := fun b hb => by
    cases e : h₀.get? b with
    | none => rfl
    | some o => exact absurd (Heap.lt_size (F.keep _ _ e)) (Nat.not_lt.mpr hb)
  have keep1 : ∀ b o, s.heap.get? b = some o → (s.heap.push { cls := .type "list_iterator", data := .fields #[.ref l, .int 0 0] }).get? b = some o := fun b o e => Heap.get?_push_of_some _ e
  refine wpAny_pyIter_list hL ?_
  refine turnsJ (tk0 := s.toks) [(s.heap.objs.size, "list_iterator")] J
    (KTurns.ofWalks (Walks.list hh s.heap.objs.size l (Nat.ne_of_lt hlt) vs.toArray) fun i v s Q E _ q => by unfold letOwnedTupleGo; exact wpAny_pure q) ?_ ?_ ?_ ?_ ?_ ?_ ?_ ?_ (F.keeps keep1) (N.grown keep1) h0 ?_ (fun m₁ n₁ h tk hJ F₁ N₁ => done m₁ n₁ h tk (by simpa using hJ) F₁ N₁)
  · rintro i h ⟨⟨o, ho, hc, _⟩, _⟩
    exact ⟨[(s.heap.objs.size, o)], ⟨⟨rfl, hc⟩, trivial⟩, fun p hp => by rw [List.mem_singleton.mp hp]; exact ho⟩
  · intro b hb
    rw [List.mem_singleton.mp hb]; exact ⟨by simp, fresh _ (Nat.le_refl _)⟩
  · intro x hx
    rw [List.mem_singleton.mp hx]; rfl
  · intro b hb; simpa using hb
  · intro b hb
    rcases List.mem_cons.mp hb with rfl | hb
    · exact .inl (by simp)
    · rw [List.mem_singleton.mp hb]
      exact .inr (.inr ⟨_, fun i m₁ n₁ hJ => hk i m₁ n₁ hJ⟩)
  · intro hb
    rcases List.mem_cons.mp hb with e | hb
    · exact absurd hLs (e ▸ Nat.lt_irrefl _)
    · exact hget.2.1 (List.mem_singleton.mp hb).symm
  · intro p hp hb
    exact absurd (Heap.lt_size (N p hp).1) ((List.mem_singleton.mp hb) ▸ Nat.lt_irrefl _)
  · exact ⟨⟨_, Heap.get?_push_size _ rfl, rfl, rfl⟩, hL.at fun o e => keep1 _ _ e⟩
  · rintro i v m₁ news₁ h₁ tk₁ its hin hv hJ hits F₁ N₁
    match its, hits with
    | [(a1, o1)], hits =>
      obtain ⟨⟨e1, c1⟩, _⟩ := hits
      have e1' : a1 = s.heap.objs.size := e1
      subst e1'
      exact turn _ i v m₁ news₁ h₁ tk₁ o1 (Nat.le_refl _) (by simpa using hv) hJ c1 F₁ N₁
    | [], hits => exact (show False from hits).elim
    | _ :: _ :: _, hits => exact (show False from hits.2).elim
end
theorem ints_drop {vs : List Value} {ks : List Int} (h : IntsAre vs ks) : ∀ n, IntsAre (vs.drop n) (ks.drop n) := by
  induction h with
  | nil => intro n; simp only [List.drop_nil]; exact .nil
  | cons x t h ih =>
    intro n
    cases n with
    | zero => exact .cons x t h
    | succ n => exact ih n
theorem ints_take {vs : List Value} {ks : List Int} (h : IntsAre vs ks) : ∀ n, IntsAre (vs.take n) (ks.take n) := by
  induction h with
  | nil => intro n; simp only [List.take_nil]; exact .nil
  | cons x t h ih =>
    intro n
    cases n with
    | zero => exact .nil
    | succ n => exact .cons x t (ih n)
theorem ints_pick {vs : List Value} {ks : List Int} {lo hi : Option Int} (h : IntsAre vs ks) : ∃ ms, IntsAre (kms_pick vs lo hi) ms ∧ ms.length ≤ ks.length := by
  unfold kms_pick
  refine ⟨_, ints_take (ints_drop h _) _, ?_⟩
  rw [List.length_take, List.length_drop]; omega
theorem ints_at' {vs : List Value} {ks : List Int} (h : IntsAre vs ks) : ∀ {i : Nat} {v : Value}, vs[i]? = some v → ∃ k t, ks[i]? = some k ∧ v = .int k t := by
  induction h with
  | nil => intro i v e; simp at e
  | cons x t _ ih =>
    intro i v e
    cases i with
    | zero => simp at e; exact ⟨_, _, rfl, e.symm⟩
    | succ i => exact ih (by simpa using e)
theorem ints_snoc {vs : List Value} {ks : List Int} (h : IntsAre vs ks) (k : Int) (t : Tok) : IntsAre (vs ++ [.int k t]) (ks ++ [k]) := by
  induction h with
  | nil => exact .cons _ _ .nil
  | cons x t _ ih => exact .cons _ _ ih
end Gen7part
section V11part
theorem lines12 : True := by
  k_with_none
  (k_with "k_inst" => exact IsInst.at (by assumption) (by k_asm))
  (k_with "compareOp In str ref" => (k_here; (first | (with_reducible refine' in_22 ?Fq244w ?Xq244w ?_) | (with_reducible refine' in_23 ?Fq244w ?Xq244w ?_) | (with_reducible refine' in_24 ?Fq244w ?Xq244w ?_) | (with_reducible refine' in_25 ?Fq244w ?Xq244w ?_) | (with_reducible refine' in_26 ?Fq244w ?Xq244w ?_)); (case Fq244w => k_asm); (case Xq244w => k_asm); k_whole))
  (k_with "compareOp NotIn str ref" => (k_here; (with_reducible refine' notin_22 ?Fq245w ?Xq245w ?_); (case Fq245w => k_asm); (case Xq245w => k_asm); k_whole))
  (k_with "exec For Tuple Call cons nil" => (k_here; (rename Fr _ _ _ _ => lFzz); (with_unfolding_all refine' For_turns lFzz ?_; k_whole)))
  (k_with "call type:enumerate" => (k_here; (with_reducible show wpAny _ _ (call (Value.type _) [Value.ref _]) (fun xv s₁ => wpAny _ _ (pyIter xv) (fun it s₂ => TurnsAt _ _ _ _ _ _ _ _ _ it s₂) _ s₁) _ _); refine halt_ ?_))
  (k_with "TurnPost" => (dsimp only [TurnPost]))
  (k_with "compareOp In str ref" => (k_here; k_dflt (first | (refine' in_made isHang ?Nq249w ?mq249w ?iq249w ?pq249w ?_; (case Nq249w => k_asm); (case mq249w => k_mem); (case iq249w => repeat constructor); (case pq249w => rfl); k_whole) | (refine' in_made isPara ?Nq249w ?mq249w ?iq249w ?pq249w ?_; (case Nq249w => k_asm); (case mq249w => k_mem); (case iq249w => repeat constructor); (case pq249w => rfl); k_whole) | (refine' in_made isLetterS ?Nq249w ?mq249w ?iq249w ?pq249w ?_; (case Nq249w => k_asm); (case mq249w => k_mem); (case iq249w => repeat constructor); (case pq249w => rfl); k_whole) | (refine' in_made isStayS ?Nq249w ?mq249w ?iq249w ?pq249w ?_; (case Nq249w => k_asm); (case mq249w => k_mem); (case iq249w => repeat constructor); (case pq249w => rfl); k_whole))))
  (k_with "compareOp NotIn str ref" => (k_here; k_dflt (first | (refine' notin_made isTerm ?Nq250w ?mq250w ?iq250w ?pq250w ?_; (case Nq250w => k_asm); (case mq250w => k_mem); (case iq250w => repeat constructor); (case pq250w => rfl); k_whole) | (refine' notin_made isPara ?Nq250w ?mq250w ?iq250w ?pq250w ?_; (case Nq250w => k_asm); (case mq250w => k_mem); (case iq250w => repeat constructor); (case pq250w => rfl); k_whole))))
  (k_with "compareOp NotEq ref ref" => (k_here; k_dflt (refine' ne_unitsK ?Nq251w ?aq251w ?uq251w ?sq251w ?bq251w ?oq251w ?rq251w ?_; (case Nq251w => k_asm); (case aq251w => k_mem); (case uq251w => assumption); (case sq251w => kcf_all); (case bq251w => k_mem); (case oq251w => assumption); (case rq251w => ktr_units); k_whole)))
  (k_with "subscriptTail" => (k_here; (with_reducible show wpAny _ _ (subscriptTail _ _ (Value.ref _) (Value.int (-1) _)) _ _ _); k_dflt (refine' item_lastN ?Nq252w ?aq252w ?_ ?hq252w; (case Nq252w => k_asm); (case aq252w => k_mem); (case hq252w => with_unfolding_all rfl); k_whole)))
  (k_with "subscriptTail" => (k_here; (first | ((with_reducible show wpAny _ _ (subscriptTail _ _ (Value.ref _) (Value.int 0 _)) _ _ _); k_dflt (refine' item3_0 ?Nq253w ?aq253w ?sq253w ?_ ?hq253w; (case Nq253w => k_asm); (case aq253w => with_reducible assumption); (case sq253w => kcf_all); (case hq253w => with_unfolding_all rfl); k_whole)) | ((with_reducible show wpAny _ _ (subscriptTail _ _ (Value.ref _) (Value.int 1 _)) _ _ _); k_dflt (refine' item3_1 ?Nq253w ?aq253w ?sq253w ?_ ?hq253w; (case Nq253w => k_asm); (case aq253w => with_reducible assumption); (case sq253w => kcf_all); (case hq253w => with_unfolding_all rfl); k_whole)) | ((with_reducible show wpAny _ _ (subscriptTail _ _ (Value.ref _) (Value.int 2 _)) _ _ _); k_dflt (refine' item3_2 ?Nq253w ?aq253w ?sq253w ?_ ?hq253w; (case Nq253w => k_asm); (case aq253w => with_reducible assumption); (case sq253w => kcf_all); (case hq253w => with_unfolding_all rfl); k_whole)))))
  (k_with "setItem ref int ref" => (k_here; k_dflt (refine' setLast_K ?Fq254w ?Nq254w ?Uq254w ?_; (case Fq254w => k_asm); (case Nq254w => k_asm); (case Uq254w => k_upd); k_whole); intro _ _ _; (try k_sweep)))
  (k_with "k_all" => assumption)
  (k_with "size_fits" => ((rw [PySem.sizeLine_eq]); (simp only [List.size_toArray, List.length_append, List.length_cons, List.length_nil]); omega))
  (k_with "CompSrcT" => (k_here; k_dflt (refine' LCt.CompSrcT.ledger ?hhq257w ?Fq257w ?Nq257w ?mq257w ?zq257w ?_; (case hhq257w => exact rfl); (case Fq257w => k_asm); (case Nq257w => k_asm); (case mq257w => k_mem); (case zq257w => size_fits)); intro _; refine halt_ ?_))
  (k_with "exec Assign cons ListComp" => (k_here; lct_look; k_dflt (refine LCt.Assign_ListComp_T (F₀ := by k_asm) (by rfl) (by with_unfolding_all rfl) (by with_unfolding_all rfl) (by decide) (by rfl) (by decide) (by rfl) (by rfl) (by rfl) ?_)))
  (k_with "CompEnd" => (refine LCg.CompEnd.intro (by assumption) (by assumption) _ (fun _ h9 => h9) (by first | assumption | (simp only [LCg.Off3, and_true]; assumption)) (by lcg_src) ?_; first | exact ⟨⟨_, rfl⟩, rfl, by first | assumption | exact decide_eq_true (by assumption)⟩ | exact ⟨rfl, by first | assumption | exact decide_eq_false (by assumption)⟩))
  (k_with "call builtin:len" => (k_here; (with_reducible show wpAny _ _ (call (Value.builtin "len") [Value.ref _]) _ _ _); k_dflt (refine' kst_len ?k1q260w ?k2q260w ?k3q260w ?k4q260w ?_; (case k1q260w => k_asm); (case k2q260w => k_mem); (case k3q260w => exact rfl); (case k4q260w => omega); k_whole)))
  (k_with "subscriptTail Name Slice ref ref" => (k_here; (with_reducible show wpAny _ _ (subscriptTail _ (PySem.Expr.Slice _ _ none _) (Value.ref _) (Value.ref _)) _ _ _); k_dflt (refine' slice_K ?Fq261w ?Nq261w ?lq261w ?pq261w ?qq261w ?_ ?sq261w ?tq261w ?zq261w; (case Fq261w => k_asm); (case Nq261w => k_asm); (case lq261w => first | exact News.isList (by k_asm) (by k_mem) | exact listBase (by k_asm) (by assumption)); (case pq261w => kmk_part); (case qq261w => kmk_part); (case sq261w => with_unfolding_all rfl); (case tq261w => kmk_pure); (case zq261w => size_fits)); intro _ _ _ Nzz l1zz; (try k_lt l1zz); (try dsimp only at Nzz); (try k_sweep)))
  (k_with "compareOp In ref ref" => (k_here; k_dflt (refine' in_two ?Nq262w ?xq262w ?vq262w ?tq262w ?aq262w ?vaq262w ?bq262w ?vbq262w ?okq262w ?okaq262w ?okbq262w ?uq262w ?_; (case Nq262w => k_asm); (case xq262w => k_mem); (case vq262w => exact strs_pick (by assumption)); (case tq262w => k_mem); (case aq262w => k_mem); (case vaq262w => exact .cons _ _ .nil); (case bq262w => k_mem); (case vbq262w => exact .cons _ _ .nil); (case okq262w => exact pick_sub (by assumption)); (case okaq262w => decide +kernel); (case okbq262w => decide +kernel); (case uq262w => ktr_units); k_whole)))
  (k_with "exec While" => (k_here; refine halt_ ?_))
  (k_with "compareOp NotEq ref ref" => (k_here; k_dflt (first | (refine' ne_bothK ?Nq264w ?aq264w ?bq264w ?uq264w ?_; (case Nq264w => k_asm); (case aq264w => k_mem); (case bq264w => k_mem); (case uq264w => ktr_units); k_whole) | (refine' ne_snocK ?Nq264w ?aq264w ?vq264w ?bq264w ?oq264w ?uq264w ?_; (case Nq264w => k_asm); (case aq264w => k_mem); (case vq264w => assumption); (case bq264w => k_mem); (case oq264w => assumption); (case uq264w => ktr_units); k_whole))))
  (k_with "compareOp Eq ref ref" => (k_here; k_dflt (first | (refine' eq_bothK ?Nq265w ?aq265w ?bq265w ?uq265w ?_; (case Nq265w => k_asm); (case aq265w => k_mem); (case bq265w => k_mem); (case uq265w => ktr_units); k_whole) | (refine' eq_snocK ?Nq265w ?aq265w ?vq265w ?bq265w ?oq265w ?uq265w ?_; (case Nq265w => k_asm); (case aq265w => k_mem); (case vq265w => assumption); (case bq265w => k_mem); (case oq265w => assumption); (case uq265w => ktr_units); k_whole))))
  (k_with "call builtin:list.pop" => (k_here; (with_reducible show wpAny _ _ (call (Value.builtin _) [Value.ref _]) _ _ _); k_dflt (refine' pop_snoc ?Fq266w ?Nq266w ?Uq266w ?zq266w ?_; (case Fq266w => k_asm); (case Nq266w => k_asm); (case Uq266w => k_upd); (case zq266w => size_fits); k_whole); intro _ _ _; (try k_sweep)))
  (k_with "call ref" => (k_here; refine halt_ ?_))
  (k_with "k_ne" => (apply nn8; (try dsimp only); with_reducible ((fail_if_success show @Ne Nat 987654321 _); (fail_if_success show @Ne Nat _ 987654321); first | assumption | (apply nq1; assumption) | (apply nq2; assumption) | (apply nq3; assumption) | (apply nc1; assumption; (first | exact And.left | exact fun z => z.2.1 | exact fun z => z.2.2.1 | exact fun z => z.2.2.2.1 | exact fun z => z.2.2.2.2.1 | exact fun z => z.2.2.2.2.2.1 | exact fun z => z.2.2.2.2.2.2.1 | exact fun z => z.2.2.2.2.2.2.2.1 | exact fun z => z.2.2.2.2.2.2.2.2.1 | exact fun z => z.2.2.2.2.2.2.2.2.2.1 | exact fun z => z.2.2.2.2.2.2.2.2.2.2.1 | exact fun z => z.2.2.2.2.2.2.2.2.2.2.2.1 | exact fun z => z.2.2.2.2.2.2.2.2.2.2.2.2.1 | exact fun z => z.2.2.2.2.2.2.2.2.2.2.2.2.2.1 | exact And.right | exact fun z => z.2.2 | exact fun z => z.2.2.2 | exact fun z => z.2.2.2.2 | exact fun z => z.2.2.2.2.2 | exact fun z => z.2.2.2.2.2.2 | exact fun z => z.2.2.2.2.2.2.2 | exact fun z => z.2.2.2.2.2.2.2.2 | exact fun z => z.2.2.2.2.2.2.2.2.2 | exact fun z => z.2.2.2.2.2.2.2.2.2.2 | exact fun z => z.2.2.2.2.2.2.2.2.2.2.2 | exact fun z => z.2.2.2.2.2.2.2.2.2.2.2.2 | exact fun z => z.2.2.2.2.2.2.2.2.2.2.2.2.2)) | (apply nc2; assumption; (first | exact And.left | exact fun z => z.2.1 | exact fun z => z.2.2.1 | exact fun z => z.2.2.2.1 | exact fun z => z.2.2.2.2.1 | exact fun z => z.2.2.2.2.2.1 | exact fun z => z.2.2.2.2.2.2.1 | exact fun z => z.2.2.2.2.2.2.2.1 | exact fun z => z.2.2.2.2.2.2.2.2.1 | exact fun z => z.2.2.2.2.2.2.2.2.2.1 | exact fun z => z.2.2.2.2.2.2.2.2.2.2.1 | exact fun z => z.2.2.2.2.2.2.2.2.2.2.2.1 | exact fun z => z.2.2.2.2.2.2.2.2.2.2.2.2.1 | exact fun z => z.2.2.2.2.2.2.2.2.2.2.2.2.2.1 | exact And.right | exact fun z => z.2.2 | exact fun z => z.2.2.2 | exact fun z => z.2.2.2.2 | exact fun z => z.2.2.2.2.2 | exact fun z => z.2.2.2.2.2.2 | exact fun z => z.2.2.2.2.2.2.2 | exact fun z => z.2.2.2.2.2.2.2.2 | exact fun z => z.2.2.2.2.2.2.2.2.2 | exact fun z => z.2.2.2.2.2.2.2.2.2.2 | exact fun z => z.2.2.2.2.2.2.2.2.2.2.2 | exact fun z => z.2.2.2.2.2.2.2.2.2.2.2.2 | exact fun z => z.2.2.2.2.2.2.2.2.2.2.2.2.2)) | (apply nc3; assumption; (first | exact And.left | exact fun z => z.2.1 | exact fun z => z.2.2.1 | exact fun z => z.2.2.2.1 | exact fun z => z.2.2.2.2.1 | exact fun z => z.2.2.2.2.2.1 | exact fun z => z.2.2.2.2.2.2.1 | exact fun z => z.2.2.2.2.2.2.2.1 | exact fun z => z.2.2.2.2.2.2.2.2.1 | exact fun z => z.2.2.2.2.2.2.2.2.2.1 | exact fun z => z.2.2.2.2.2.2.2.2.2.2.1 | exact fun z => z.2.2.2.2.2.2.2.2.2.2.2.1 | exact fun z => z.2.2.2.2.2.2.2.2.2.2.2.2.1 | exact fun z => z.2.2.2.2.2.2.2.2.2.2.2.2.2.1 | exact And.right | exact fun z => z.2.2 | exact fun z => z.2.2.2 | exact fun z => z.2.2.2.2 | exact fun z => z.2.2.2.2.2 | exact fun z => z.2.2.2.2.2.2 | exact fun z => z.2.2.2.2.2.2.2 | exact fun z => z.2.2.2.2.2.2.2.2 | exact fun z => z.2.2.2.2.2.2.2.2.2 | exact fun z => z.2.2.2.2.2.2.2.2.2.2 | exact fun z => z.2.2.2.2.2.2.2.2.2.2.2 | exact fun z => z.2.2.2.2.2.2.2.2.2.2.2.2 | exact fun z => z.2.2.2.2.2.2.2.2.2.2.2.2.2)) | (apply nc4; assumption; (first | exact And.left | exact fun z => z.2.1 | exact fun z => z.2.2.1 | exact fun z => z.2.2.2.1 | exact fun z => z.2.2.2.2.1 | exact fun z => z.2.2.2.2.2.1 | exact fun z => z.2.2.2.2.2.2.1 | exact fun z => z.2.2.2.2.2.2.2.1 | exact fun z => z.2.2.2.2.2.2.2.2.1 | exact fun z => z.2.2.2.2.2.2.2.2.2.1 | exact fun z => z.2.2.2.2.2.2.2.2.2.2.1 | exact fun z => z.2.2.2.2.2.2.2.2.2.2.2.1 | exact fun z => z.2.2.2.2.2.2.2.2.2.2.2.2.1 | exact fun z => z.2.2.2.2.2.2.2.2.2.2.2.2.2.1 | exact And.right | exact fun z => z.2.2 | exact fun z => z.2.2.2 | exact fun z => z.2.2.2.2 | exact fun z => z.2.2.2.2.2 | exact fun z => z.2.2.2.2.2.2 | exact fun z => z.2.2.2.2.2.2.2 | exact fun z => z.2.2.2.2.2.2.2.2 | exact fun z => z.2.2.2.2.2.2.2.2.2 | exact fun z => z.2.2.2.2.2.2.2.2.2.2 | exact fun z => z.2.2.2.2.2.2.2.2.2.2.2 | exact fun z => z.2.2.2.2.2.2.2.2.2.2.2.2 | exact fun z => z.2.2.2.2.2.2.2.2.2.2.2.2.2)))))
  (k_with "k_upd" => first | (apply uh8; k_all) | (apply ut8; k_ne; k_upd))
  (k_with "k_updF" => first | (apply fh8; k_all) | (apply ft8; k_ne; k_updF))
  (k_with "k_all" => first | exact List.forall_mem_nil _ | (apply an8; k_ne; k_all))
  (k_with "kcf_all" => first | exact fun _ hp => hp | (apply sb8; (focus kcf_m); kcf_all))
  (k_with "ktr_units" => first | exact uu2 hu rfl | exact uu1 hu rfl | exact uu3 hu rfl | exact uu4 hu rfl)
  (k_with "ktr_room" => first | exact uu2 hdp rfl | exact uu1 hdp rfl | exact uu3 hdp rfl | exact uu4 hdp rfl)
  (k_with "subscriptTail Name UnaryOp ref int" => k_extra "subscriptTail")
  exact trivial
/-- the deck: a list of numbers, a mixed number -/
structure DeckOk (prog : Program) (w : World) (dk ll : Addr) (od : Obj) (lvs : List Value) (lns : List Int) (mx : Int) (mt : Tok) : Prop where
  o : od.IsDictOf (PySem.strKind prog w) [(Str.ofString "left", .ref ll), (Str.ofString "mixed", .int mx mt)]
  i : IntsAre lvs lns
  p : ∀ n ∈ lns, 0 ≤ n
  l : lns.length ≤ 100
  m0 : 0 ≤ mx
  m1 : mx < 1000003
theorem news_upd2 {h₀ h h' : Heap} {L dk ll : Addr} {od od' lo lo' : Obj} {big : List (Addr × Obj)} {b1 : List (Addr × Obj)} {b2 : List (Addr × Obj)} (U1 : Upd dk od od' big b1) (U2 : Upd ll lo lo' b1 b2) (N : News h₀ L h big) (k : KeepBut [dk, ll] h h') (N2 : News h₀ L h' [(dk, od'), (ll, lo')]) : News h₀ L h' b2 := by
  obtain ⟨pre, post, rfl, rfl, a, b⟩ := U1.split
  obtain ⟨pre2, post2, e, rfl, a2, b2⟩ := U2.split
  have other : ∀ p ∈ pre ++ (dk, od') :: post, p.1 ≠ ll → h'.get? p.1 = some p.2 ∧ p.1 ≠ L ∧ h₀.get? p.1 = none := by
    intro p hp hl
    have kept : ∀ q ∈ pre ++ (dk, od) :: post, q.1 ≠ dk → q.1 ≠ ll → h'.get? q.1 = some q.2 ∧ q.1 ≠ L ∧ h₀.get? q.1 = none := fun q hq h1 h2 => ⟨k _ _ (N q hq).1 (by simp [h1, h2]), (N q hq).2⟩
    rcases List.mem_append.mp hp with hp | hp
    · exact kept p (List.mem_append_left _ hp) (a p hp) hl
    · rcases List.mem_cons.mp hp with rfl | hp
      · exact N2 _ (.head _)
      · exact kept p (List.mem_append_right _ (List.mem_cons_of_mem _ hp)) (b p hp) hl
  intro p hp
  rcases List.mem_append.mp hp with hp | hp
  · exact other p (e ▸ List.mem_append_left _ hp) (a2 p hp)
  · rcases List.mem_cons.mp hp with rfl | hp
    · exact N2 _ (.tail _ (.head _))
    · exact other p (e ▸ List.mem_append_right _ (List.mem_cons_of_mem _ hp)) (b2 p hp)
theorem upd_same {dk : Addr} {od : Obj} {big b1 : List (Addr × Obj)} (U : Upd dk od od big b1) : b1 = big := by
  obtain ⟨pre, post, rfl, rfl, _⟩ := U.split; rfl
theorem upd_in {d : Addr} {o o' : Obj} {l l' : List (Addr × Obj)} (U : Upd d o o' l l') : (d, o) ∈ l := by
  obtain ⟨pre, post, rfl, rfl, _⟩ := U.split
  exact List.mem_append_right _ (.head _)
section
variable {prog : Program} {w : World} {A : Around} {E : Value → Shared → Prop} {s : Shared} {h₀ : Heap} {L D : Addr} {m : Str → Option Value} {news news' : List (Addr × Obj)} {q : List Value} {y : Value} {n : Nat} {u : Tok} {Q : Value → Shared → Prop}
theorem pop_zero (F : Fr h₀ L s.heap m) (N : News h₀ L s.heap news) (U : Upd D (listOf (y :: q).toArray n) (listOf q.toArray (n + 1)) news news') (hz : q.length ≤ 10000) (h : ∀ h', Fr h₀ L h' m → News h₀ L h' news' → Q y { s with heap := h' }) :
    wpAny (model prog w) A (call (.builtin "list.pop") [.ref D, .int 0 u]) Q E s := by
  refine kl_popAt (k := 0) (p := []) (q := q) (y := y) F N (by decide) ?_ (by rw [List.toList_toArray]; rfl) U (by rw [PySem.sizeLine_eq]; simp; omega) h
  simp [seqIndex?]
end
theorem lines13 : True := by
  (k_with "call builtin:list.pop" => (k_here; (with_reducible show wpAny _ _ (call (Value.builtin _) [Value.ref _, Value.int _ _]) _ _ _); k_dflt (refine' pop_zero ?Fq276w ?Nq276w ?Uq276w ?zq276w ?_; (case Fq276w => k_asm); (case Nq276w => k_asm); (case Uq276w => k_upd); (case zq276w => omega); k_whole); intro _ _ _; (try k_sweep)))
  exact trivial
set_option maxRecDepth 100000 in
set_option maxHeartbeats 2000000 in
theorem C_draw {w : World} {mean : ExcName → Option Value} {mg mb : Str → Option Value} {dp un : Nat} {gd : Option (List Code)} {cn : Str} {cs : Scope} {a : Addr} {ccd : Value} {cl : List (Str × Addr)} {outer : List Env} {A₀ : Around} {base h₀ : Heap} {L : Addr} {m : Str → Option Value} {s : Shared} {Q E : Value → Shared → Prop} (B : Below A₀ base outer h₀) (F : Fr h₀ L s.heap m) (X : (hd.heap_1 w.params).In h₀) (T : (Top view9 (looseW view9 []) mean mg mb h₀)) (hk : cs.kind = .function) {dk ll : Addr} {od : Obj} {lvs : List Value} {lns : List Int} {mx : Int} {mt : Tok} {ln : Nat} {many : Int} {tk : Tok} {big : List (Addr × Obj)} {b1 : Obj → List (Addr × Obj)} {b2 : Obj → Obj → List (Addr × Obj)}
    (Nb : News h₀ L s.heap big) (U1 : ∀ o, Upd dk od o big (b1 o)) (U2 : ∀ o o2, Upd ll (listOf lvs.toArray ln) o2 (b1 o) (b2 o o2)) (ok : DeckOk PySem.Challenge.rw_on0369_01.row.prog w dk ll od lvs lns mx mt) (sy : (dk == sysModules) = false) (hne : @Ne Nat dk ll) (hm0 : 0 < many) (hm1 : many < 1000)
    (hdp : dp + 4 < recursionLimit) (hu : un + 120 < cLine)
    (hret : ∀ r t od' lvs' lns' mx' mt' ln' h' tk', 0 ≤ r → r < many → Fr h₀ L h' m → News h₀ L h' (b2 od' (listOf lvs'.toArray ln')) → DeckOk PySem.Challenge.rw_on0369_01.row.prog w dk ll od' lvs' lns' mx' mt' → Q (.int r t) { s with heap := h', toks := tk' }) :
    wpAny (model PySem.Challenge.rw_on0369_01.row.prog w) (ktrTop dp un gd cn cs L a ccd cl outer) (call (.ref 205) [.ref dk, .int many tk]) Q E s := by
  w_top off
  obtain ⟨oo, oi, op, ol, om0, om1⟩ := ok
  have N : News h₀ L s.heap [(dk, od), (ll, listOf lvs.toArray ln)] := news_sub Nb fun p hp => by
    rcases List.mem_cons.mp hp with rfl | hp
    · exact upd_in (U1 od)
    · rw [List.mem_singleton.mp hp]
      exact upd_same (U1 od) ▸ upd_in (U2 od (listOf lvs.toArray ln))
  have hvl := ints_length oi
  have hf0 : ∀ x : Int, 0 ≤ Int.fmod x many := fun x => Int.fmod_nonneg_of_pos x hm0
  have hf1 : ∀ x : Int, Int.fmod x many < many := fun x => Int.fmod_lt_of_pos x hm0
  have hg0 : ∀ x : Int, 0 ≤ Int.fmod x 1000003 := fun x => Int.fmod_nonneg_of_pos x (by decide)
  have hg1 : ∀ x : Int, Int.fmod x 1000003 < 1000003 := fun x => Int.fmod_lt_of_pos x (by decide)
  cases oi with
  | nil =>
    (refine wpAny_call ?_; k_dflt (refine' code_defG ?k1 ?k2 ?k3 N ?k5 ?kA ?kF ?kK ?k6 ?k7 ?k8 ?k9 ?kB ?_ ?c2 ?c3 ?c4 ?c5; (case kA => exact rfl); (case kF => exact rfl); (case kK => assumption); (case k1 => k_asm); (case k2 => k_asm); (case k3 => k_asm); (case k5 => k_asm); (case k6 => k_is); (case k7 => k_is); (case k8 => ktr_room); (case k9 => exact BindsTo.of_eq rfl); (case c5 => decide); (case kB => exact locs rfl); (case c2 => exact rfl); (case c3 => exact rfl); (case c4 => exact rfl); k_whole; intro g' L' h' FG' F' N' B' X' T' GS'; (try dsimp only); (try k_fold); refine toks_any fun tk9 => ?_; refine let_fr F' ?_; clear F'; intro m9 F'))
    k_steps
    refine' hret _ _ _ [] [] _ _ _ _ _ (hf0 _) (hf1 _) (by k_asm) ?n ?d
    case n => exact news_upd2 (U1 _) (U2 _ _) Nb (keepBut_of (by assumption) GS') (news_sub (by k_asm) (by kcf_all))
    case d => exact ⟨by assumption, .nil, (fun _ h => nomatch h), by simp, hg0 _, hg1 _⟩
  | @cons n t lvs2 lns2 hr =>
    have hz9 := ints_length hr
    simp only [List.length_cons] at ol
    (refine wpAny_call ?_; k_dflt (refine' code_defG ?k1 ?k2 ?k3 N ?k5 ?kA ?kF ?kK ?k6 ?k7 ?k8 ?k9 ?kB ?_ ?c2 ?c3 ?c4 ?c5; (case kA => exact rfl); (case kF => exact rfl); (case kK => assumption); (case k1 => k_asm); (case k2 => k_asm); (case k3 => k_asm); (case k5 => k_asm); (case k6 => k_is); (case k7 => k_is); (case k8 => ktr_room); (case k9 => exact BindsTo.of_eq rfl); (case c5 => decide); (case kB => exact locs rfl); (case c2 => exact rfl); (case c3 => exact rfl); (case c4 => exact rfl); k_whole; intro g' L' h' FG' F' N' B' X' T' GS'; (try dsimp only); (try k_fold); refine toks_any fun tk9 => ?_; refine let_fr F' ?_; clear F'; intro m9 F'))
    k_steps
    · exact absurd (of_decide_eq_true (by assumption)) (List.cons_ne_nil _ _)
    · refine' hret _ _ od lvs2 lns2 mx mt _ _ _ (hf0 _) (hf1 _) (by k_asm) ?n2 ?d2
      case n2 => exact news_upd2 (U1 _) (U2 _ _) Nb (keepBut_of (by assumption) GS') (news_sub (by k_asm) (by kcf_all))
      case d2 => exact ⟨oo, hr, fun k hk => op k (List.mem_cons_of_mem _ hk), Nat.le_trans (Nat.le_succ _) ol, om0, om1⟩
end V11part
section V12part
theorem lines14 : True := by
  k_with_none
  (k_with "k_inst" => exact IsInst.at (by assumption) (by k_asm))
  (k_with "compareOp In str ref" => (k_here; (first | (with_reducible refine' in_22 ?Fq278w ?Xq278w ?_) | (with_reducible refine' in_23 ?Fq278w ?Xq278w ?_) | (with_reducible refine' in_24 ?Fq278w ?Xq278w ?_) | (with_reducible refine' in_25 ?Fq278w ?Xq278w ?_) | (with_reducible refine' in_26 ?Fq278w ?Xq278w ?_)); (case Fq278w => k_asm); (case Xq278w => k_asm); k_whole))
  (k_with "compareOp NotIn str ref" => (k_here; (with_reducible refine' notin_22 ?Fq279w ?Xq279w ?_); (case Fq279w => k_asm); (case Xq279w => k_asm); k_whole))
  (k_with "exec For Tuple Call cons nil" => (k_here; (rename Fr _ _ _ _ => lFzz); (with_unfolding_all refine' For_turns lFzz ?_; k_whole)))
  (k_with "call type:enumerate" => (k_here; (with_reducible show wpAny _ _ (call (Value.type _) [Value.ref _]) (fun xv s₁ => wpAny _ _ (pyIter xv) (fun it s₂ => TurnsAt _ _ _ _ _ _ _ _ _ it s₂) _ s₁) _ _); refine halt_ ?_))
  (k_with "TurnPost" => (dsimp only [TurnPost]))
  (k_with "compareOp In str ref" => (k_here; k_dflt (first | (refine' in_made isHang ?Nq283w ?mq283w ?iq283w ?pq283w ?_; (case Nq283w => k_asm); (case mq283w => k_mem); (case iq283w => repeat constructor); (case pq283w => rfl); k_whole) | (refine' in_made isPara ?Nq283w ?mq283w ?iq283w ?pq283w ?_; (case Nq283w => k_asm); (case mq283w => k_mem); (case iq283w => repeat constructor); (case pq283w => rfl); k_whole) | (refine' in_made isLetterS ?Nq283w ?mq283w ?iq283w ?pq283w ?_; (case Nq283w => k_asm); (case mq283w => k_mem); (case iq283w => repeat constructor); (case pq283w => rfl); k_whole) | (refine' in_made isStayS ?Nq283w ?mq283w ?iq283w ?pq283w ?_; (case Nq283w => k_asm); (case mq283w => k_mem); (case iq283w => repeat constructor); (case pq283w => rfl); k_whole))))
  (k_with "compareOp NotIn str ref" => (k_here; k_dflt (first | (refine' notin_made isTerm ?Nq284w ?mq284w ?iq284w ?pq284w ?_; (case Nq284w => k_asm); (case mq284w => k_mem); (case iq284w => repeat constructor); (case pq284w => rfl); k_whole) | (refine' notin_made isPara ?Nq284w ?mq284w ?iq284w ?pq284w ?_; (case Nq284w => k_asm); (case mq284w => k_mem); (case iq284w => repeat constructor); (case pq284w => rfl); k_whole))))
  (k_with "compareOp NotEq ref ref" => (k_here; k_dflt (refine' ne_unitsK ?Nq285w ?aq285w ?uq285w ?sq285w ?bq285w ?oq285w ?rq285w ?_; (case Nq285w => k_asm); (case aq285w => k_mem); (case uq285w => assumption); (case sq285w => kcf_all); (case bq285w => k_mem); (case oq285w => assumption); (case rq285w => ktr_units); k_whole)))
  (k_with "subscriptTail" => (k_here; (with_reducible show wpAny _ _ (subscriptTail _ _ (Value.ref _) (Value.int (-1) _)) _ _ _); k_dflt (refine' item_lastN ?Nq286w ?aq286w ?_ ?hq286w; (case Nq286w => k_asm); (case aq286w => k_mem); (case hq286w => with_unfolding_all rfl); k_whole)))
  (k_with "subscriptTail" => (k_here; (first | ((with_reducible show wpAny _ _ (subscriptTail _ _ (Value.ref _) (Value.int 0 _)) _ _ _); k_dflt (refine' item3_0 ?Nq287w ?aq287w ?sq287w ?_ ?hq287w; (case Nq287w => k_asm); (case aq287w => with_reducible assumption); (case sq287w => kcf_all); (case hq287w => with_unfolding_all rfl); k_whole)) | ((with_reducible show wpAny _ _ (subscriptTail _ _ (Value.ref _) (Value.int 1 _)) _ _ _); k_dflt (refine' item3_1 ?Nq287w ?aq287w ?sq287w ?_ ?hq287w; (case Nq287w => k_asm); (case aq287w => with_reducible assumption); (case sq287w => kcf_all); (case hq287w => with_unfolding_all rfl); k_whole)) | ((with_reducible show wpAny _ _ (subscriptTail _ _ (Value.ref _) (Value.int 2 _)) _ _ _); k_dflt (refine' item3_2 ?Nq287w ?aq287w ?sq287w ?_ ?hq287w; (case Nq287w => k_asm); (case aq287w => with_reducible assumption); (case sq287w => kcf_all); (case hq287w => with_unfolding_all rfl); k_whole)))))
  (k_with "setItem ref int ref" => (k_here; k_dflt (refine' setLast_K ?Fq288w ?Nq288w ?Uq288w ?_; (case Fq288w => k_asm); (case Nq288w => k_asm); (case Uq288w => k_upd); k_whole); intro _ _ _; (try k_sweep)))
  (k_with "k_all" => assumption)
  (k_with "size_fits" => ((rw [PySem.sizeLine_eq]); (simp only [List.size_toArray, List.length_append, List.length_cons, List.length_nil]); omega))
  (k_with "CompSrcT" => (k_here; k_dflt (refine' LCt.CompSrcT.ledger ?hhq291w ?Fq291w ?Nq291w ?mq291w ?zq291w ?_; (case hhq291w => exact rfl); (case Fq291w => k_asm); (case Nq291w => k_asm); (case mq291w => k_mem); (case zq291w => size_fits)); intro _; refine halt_ ?_))
  (k_with "exec Assign cons ListComp" => (k_here; lct_look; k_dflt (refine LCt.Assign_ListComp_T (F₀ := by k_asm) (by rfl) (by with_unfolding_all rfl) (by with_unfolding_all rfl) (by decide) (by rfl) (by decide) (by rfl) (by rfl) (by rfl) ?_)))
  (k_with "CompEnd" => (refine LCg.CompEnd.intro (by assumption) (by assumption) _ (fun _ h9 => h9) (by first | assumption | (simp only [LCg.Off3, and_true]; assumption)) (by lcg_src) ?_; first | exact ⟨⟨_, rfl⟩, rfl, by first | assumption | exact decide_eq_true (by assumption)⟩ | exact ⟨rfl, by first | assumption | exact decide_eq_false (by assumption)⟩))
  (k_with "call builtin:len" => (k_here; (with_reducible show wpAny _ _ (call (Value.builtin "len") [Value.ref _]) _ _ _); k_dflt (refine' kst_len ?k1q294w ?k2q294w ?k3q294w ?k4q294w ?_; (case k1q294w => k_asm); (case k2q294w => k_mem); (case k3q294w => exact rfl); (case k4q294w => omega); k_whole)))
  (k_with "subscriptTail Name Slice ref ref" => (k_here; (with_reducible show wpAny _ _ (subscriptTail _ (PySem.Expr.Slice _ _ none _) (Value.ref _) (Value.ref _)) _ _ _); k_dflt (refine' slice_K ?Fq295w ?Nq295w ?lq295w ?pq295w ?qq295w ?_ ?sq295w ?tq295w ?zq295w; (case Fq295w => k_asm); (case Nq295w => k_asm); (case lq295w => first | exact News.isList (by k_asm) (by k_mem) | exact listBase (by k_asm) (by assumption)); (case pq295w => kmk_part); (case qq295w => kmk_part); (case sq295w => with_unfolding_all rfl); (case tq295w => kmk_pure); (case zq295w => size_fits)); intro _ _ _ Nzz l1zz; (try k_lt l1zz); (try dsimp only at Nzz); (try k_sweep)))
  (k_with "compareOp In ref ref" => (k_here; k_dflt (refine' in_two ?Nq296w ?xq296w ?vq296w ?tq296w ?aq296w ?vaq296w ?bq296w ?vbq296w ?okq296w ?okaq296w ?okbq296w ?uq296w ?_; (case Nq296w => k_asm); (case xq296w => k_mem); (case vq296w => exact strs_pick (by assumption)); (case tq296w => k_mem); (case aq296w => k_mem); (case vaq296w => exact .cons _ _ .nil); (case bq296w => k_mem); (case vbq296w => exact .cons _ _ .nil); (case okq296w => exact pick_sub (by assumption)); (case okaq296w => decide +kernel); (case okbq296w => decide +kernel); (case uq296w => ktr_units); k_whole)))
  (k_with "exec While" => (k_here; refine halt_ ?_))
  (k_with "compareOp NotEq ref ref" => (k_here; k_dflt (first | (refine' ne_bothK ?Nq298w ?aq298w ?bq298w ?uq298w ?_; (case Nq298w => k_asm); (case aq298w => k_mem); (case bq298w => k_mem); (case uq298w => ktr_units); k_whole) | (refine' ne_snocK ?Nq298w ?aq298w ?vq298w ?bq298w ?oq298w ?uq298w ?_; (case Nq298w => k_asm); (case aq298w => k_mem); (case vq298w => assumption); (case bq298w => k_mem); (case oq298w => assumption); (case uq298w => ktr_units); k_whole))))
  (k_with "compareOp Eq ref ref" => (k_here; k_dflt (first | (refine' eq_bothK ?Nq299w ?aq299w ?bq299w ?uq299w ?_; (case Nq299w => k_asm); (case aq299w => k_mem); (case bq299w => k_mem); (case uq299w => ktr_units); k_whole) | (refine' eq_snocK ?Nq299w ?aq299w ?vq299w ?bq299w ?oq299w ?uq299w ?_; (case Nq299w => k_asm); (case aq299w => k_mem); (case vq299w => assumption); (case bq299w => k_mem); (case oq299w => assumption); (case uq299w => ktr_units); k_whole))))
  (k_with "call builtin:list.pop" => (k_here; (with_reducible show wpAny _ _ (call (Value.builtin _) [Value.ref _]) _ _ _); k_dflt (refine' pop_snoc ?Fq300w ?Nq300w ?Uq300w ?zq300w ?_; (case Fq300w => k_asm); (case Nq300w => k_asm); (case Uq300w => k_upd); (case zq300w => size_fits); k_whole); intro _ _ _; (try k_sweep)))
  (k_with "call ref" => (k_here; refine halt_ ?_))
  (k_with "k_ne" => (apply nn8; (try dsimp only); with_reducible ((fail_if_success show @Ne Nat 987654321 _); (fail_if_success show @Ne Nat _ 987654321); first | assumption | (apply nq1; assumption) | (apply nq2; assumption) | (apply nq3; assumption) | (apply nc1; assumption; (first | exact And.left | exact fun z => z.2.1 | exact fun z => z.2.2.1 | exact fun z => z.2.2.2.1 | exact fun z => z.2.2.2.2.1 | exact fun z => z.2.2.2.2.2.1 | exact fun z => z.2.2.2.2.2.2.1 | exact fun z => z.2.2.2.2.2.2.2.1 | exact fun z => z.2.2.2.2.2.2.2.2.1 | exact fun z => z.2.2.2.2.2.2.2.2.2.1 | exact fun z => z.2.2.2.2.2.2.2.2.2.2.1 | exact fun z => z.2.2.2.2.2.2.2.2.2.2.2.1 | exact fun z => z.2.2.2.2.2.2.2.2.2.2.2.2.1 | exact fun z => z.2.2.2.2.2.2.2.2.2.2.2.2.2.1 | exact And.right | exact fun z => z.2.2 | exact fun z => z.2.2.2 | exact fun z => z.2.2.2.2 | exact fun z => z.2.2.2.2.2 | exact fun z => z.2.2.2.2.2.2 | exact fun z => z.2.2.2.2.2.2.2 | exact fun z => z.2.2.2.2.2.2.2.2 | exact fun z => z.2.2.2.2.2.2.2.2.2 | exact fun z => z.2.2.2.2.2.2.2.2.2.2 | exact fun z => z.2.2.2.2.2.2.2.2.2.2.2 | exact fun z => z.2.2.2.2.2.2.2.2.2.2.2.2 | exact fun z => z.2.2.2.2.2.2.2.2.2.2.2.2.2)) | (apply nc2; assumption; (first | exact And.left | exact fun z => z.2.1 | exact fun z => z.2.2.1 | exact fun z => z.2.2.2.1 | exact fun z => z.2.2.2.2.1 | exact fun z => z.2.2.2.2.2.1 | exact fun z => z.2.2.2.2.2.2.1 | exact fun z => z.2.2.2.2.2.2.2.1 | exact fun z => z.2.2.2.2.2.2.2.2.1 | exact fun z => z.2.2.2.2.2.2.2.2.2.1 | exact fun z => z.2.2.2.2.2.2.2.2.2.2.1 | exact fun z => z.2.2.2.2.2.2.2.2.2.2.2.1 | exact fun z => z.2.2.2.2.2.2.2.2.2.2.2.2.1 | exact fun z => z.2.2.2.2.2.2.2.2.2.2.2.2.2.1 | exact And.right | exact fun z => z.2.2 | exact fun z => z.2.2.2 | exact fun z => z.2.2.2.2 | exact fun z => z.2.2.2.2.2 | exact fun z => z.2.2.2.2.2.2 | exact fun z => z.2.2.2.2.2.2.2 | exact fun z => z.2.2.2.2.2.2.2.2 | exact fun z => z.2.2.2.2.2.2.2.2.2 | exact fun z => z.2.2.2.2.2.2.2.2.2.2 | exact fun z => z.2.2.2.2.2.2.2.2.2.2.2 | exact fun z => z.2.2.2.2.2.2.2.2.2.2.2.2 | exact fun z => z.2.2.2.2.2.2.2.2.2.2.2.2.2)) | (apply nc3; assumption; (first | exact And.left | exact fun z => z.2.1 | exact fun z => z.2.2.1 | exact fun z => z.2.2.2.1 | exact fun z => z.2.2.2.2.1 | exact fun z => z.2.2.2.2.2.1 | exact fun z => z.2.2.2.2.2.2.1 | exact fun z => z.2.2.2.2.2.2.2.1 | exact fun z => z.2.2.2.2.2.2.2.2.1 | exact fun z => z.2.2.2.2.2.2.2.2.2.1 | exact fun z => z.2.2.2.2.2.2.2.2.2.2.1 | exact fun z => z.2.2.2.2.2.2.2.2.2.2.2.1 | exact fun z => z.2.2.2.2.2.2.2.2.2.2.2.2.1 | exact fun z => z.2.2.2.2.2.2.2.2.2.2.2.2.2.1 | exact And.right | exact fun z => z.2.2 | exact fun z => z.2.2.2 | exact fun z => z.2.2.2.2 | exact fun z => z.2.2.2.2.2 | exact fun z => z.2.2.2.2.2.2 | exact fun z => z.2.2.2.2.2.2.2 | exact fun z => z.2.2.2.2.2.2.2.2 | exact fun z => z.2.2.2.2.2.2.2.2.2 | exact fun z => z.2.2.2.2.2.2.2.2.2.2 | exact fun z => z.2.2.2.2.2.2.2.2.2.2.2 | exact fun z => z.2.2.2.2.2.2.2.2.2.2.2.2 | exact fun z => z.2.2.2.2.2.2.2.2.2.2.2.2.2)) | (apply nc4; assumption; (first | exact And.left | exact fun z => z.2.1 | exact fun z => z.2.2.1 | exact fun z => z.2.2.2.1 | exact fun z => z.2.2.2.2.1 | exact fun z => z.2.2.2.2.2.1 | exact fun z => z.2.2.2.2.2.2.1 | exact fun z => z.2.2.2.2.2.2.2.1 | exact fun z => z.2.2.2.2.2.2.2.2.1 | exact fun z => z.2.2.2.2.2.2.2.2.2.1 | exact fun z => z.2.2.2.2.2.2.2.2.2.2.1 | exact fun z => z.2.2.2.2.2.2.2.2.2.2.2.1 | exact fun z => z.2.2.2.2.2.2.2.2.2.2.2.2.1 | exact fun z => z.2.2.2.2.2.2.2.2.2.2.2.2.2.1 | exact And.right | exact fun z => z.2.2 | exact fun z => z.2.2.2 | exact fun z => z.2.2.2.2 | exact fun z => z.2.2.2.2.2 | exact fun z => z.2.2.2.2.2.2 | exact fun z => z.2.2.2.2.2.2.2 | exact fun z => z.2.2.2.2.2.2.2.2 | exact fun z => z.2.2.2.2.2.2.2.2.2 | exact fun z => z.2.2.2.2.2.2.2.2.2.2 | exact fun z => z.2.2.2.2.2.2.2.2.2.2.2 | exact fun z => z.2.2.2.2.2.2.2.2.2.2.2.2 | exact fun z => z.2.2.2.2.2.2.2.2.2.2.2.2.2)))))
  (k_with "k_upd" => first | (apply uh8; k_all) | (apply ut8; k_ne; k_upd))
  (k_with "k_updF" => first | (apply fh8; k_all) | (apply ft8; k_ne; k_updF))
  (k_with "k_all" => first | exact List.forall_mem_nil _ | (apply an8; k_ne; k_all))
  (k_with "kcf_all" => first | exact fun _ hp => hp | (apply sb8; (focus kcf_m); kcf_all))
  (k_with "ktr_units" => first | exact uu2 hu rfl | exact uu1 hu rfl | exact uu3 hu rfl | exact uu4 hu rfl)
  (k_with "ktr_room" => first | exact uu2 hdp rfl | exact uu1 hdp rfl | exact uu3 hdp rfl | exact uu4 hdp rfl)
  (k_with "subscriptTail Name UnaryOp ref int" => k_extra "subscriptTail")
  exact trivial
def kindsL : List Str := [Str.ofString "Lower", Str.ofString "Upper", Str.ofString "ATerm", Str.ofString "Sp", Str.ofString "OLetter", Str.ofString "STerm", Str.ofString "Close", Str.ofString "Numeric", Str.ofString "Other", Str.ofString "SContinue", Str.ofString "Sep", Str.ofString "CR", Str.ofString "LF", Str.ofString "Extend", Str.ofString "Format"]
def menuL : List Str := [Str.ofString "ATerm", Str.ofString "Sp", Str.ofString "Lower", Str.ofString "Upper", Str.ofString "Close", Str.ofString "Other", Str.ofString "ATerm", Str.ofString "Sp", Str.ofString "STerm", Str.ofString "Extend"]
theorem menu_kinds : ∀ y ∈ menuL, y ∈ kindsL := by decide +kernel
section
variable {prog : Program} {w : World} {A : Around} {E : Value → Shared → Prop} {s : Shared} {h₀ : Heap} {L T : Addr} {m : Str → Option Value} {its : Array Value} {ks : List Str} {k : Int} {u : Tok} {value slice : PySem.Expr} {Q : Value → Shared → Prop}
theorem item_strs (ht : IsTup s.heap T its) (hs : StrsAre its.toList ks) (h0 : 0 ≤ k) (h1 : k < ks.length) (hz : ks.length < 1000) (h : ∀ y t, y ∈ ks → Q (.str y t) s)
    (he : subscripted slice false (.ref T) (.int k u) = operate [.ref T, .int k u] (getItem (.ref T) (.int k u)) := by with_unfolding_all rfl) :
    wpAny (model prog w) A (subscriptTail value slice (.ref T) (.int k u)) Q E s := by
  have hi : k.toNat < ks.length := by omega
  obtain ⟨t, ht'⟩ : ∃ t, its.toList[k.toNat]? = some (.str (ks[k.toNat]) t) := by
    have : ∀ {vs : List Value} {ks : List Str} (_ : StrsAre vs ks) {i : Nat} {k : Str}, ks[i]? = some k → ∃ t, vs[i]? = some (.str k t) := by
      intro vs ks h
      induction h with
      | nil => intro i v e; simp at e
      | cons x t _ ih =>
        intro i v e
        cases i with
        | zero => simp at e; subst e; exact ⟨t, rfl⟩
        | succ i => exact ih (by simpa using e)
    exact this hs (List.getElem?_eq_getElem hi)
  have hlen : its.toList.length = ks.length := by
    have : ∀ {vs : List Value} {ks : List Str} (_ : StrsAre vs ks), vs.length = ks.length := by
      intro vs ks h
      induction h with
      | nil => rfl
      | cons _ _ _ ih => simp [ih]
    exact this hs
  refine item_tupleT (l := its.toList) (by simpa using ht) (by omega) (by omega) ?_ ht' (h _ t (List.getElem_mem hi)) he
  rw [hlen]
  have h2 : ¬ k < 0 := by omega
  simp only [seqIndex?, h2, if_false, h0, h1, decide_true, Bool.and_self, if_true]
end
theorem item_kinds {w : World} {A : Around} {E : Value → Shared → Prop} {s : Shared} {h₀ : Heap} {L : Addr} {m : Str → Option Value} {k : Int} {u : Tok} {value slice : PySem.Expr} {Q : Value → Shared → Prop} (F : Fr h₀ L s.heap m) (X : (hd.heap_1 w.params).In h₀) (h0 : 0 ≤ k) (h1 : k < 15) (h : ∀ y t, y ∈ kindsL → Q (.str y t) s)
    (he : subscripted slice false (.ref 193) (.int k u) = operate [.ref 193, .int k u] (getItem (.ref 193) (.int k u)) := by with_unfolding_all rfl) :
    wpAny (model PySem.Challenge.rw_on0369_01.row.prog w) A (subscriptTail value slice (.ref 193) (.int k u)) Q E s := by
  refine item_strs (ks := kindsL) (tupK (X.keeps F.keep) (by k_is)) (by repeat constructor) h0 (by simpa [kindsL] using h1) (by simp [kindsL]) h he
theorem dict_cls {prog : Program} {w : World} {K : Type} [DecidableEq K] {knd : KeyKind prog w K} {o : Obj} {kvs : List (K × Value)} (h : o.IsDictOf knd kvs) : o.cls = .type "dict" := by
  obtain ⟨es, ep, hx, _⟩ := h
  exact hx.1
theorem text_end {prog : Program} {w : World} {h₀ h' : Heap} {L f dk ll : Addr} {s₁ : Shared} {tk : Nat} {m' m₀ : Str → Option Value} {st : List Str} {its all : List (Addr × Obj)} {us us' : List Value} {ks : List Str} {k ln i : Nat} {od : Obj} {lvs : List Value} {lns : List Int} {mx : Int} {mt t : Tok} {y : Str}
    (F : Fr h₀ L h' m') (N : News h₀ L h' all) (hs : ∀ y, st.contains y = false → m' y = m₀ y) (hi : ∀ p ∈ its, p ∈ all) (hf : (f, listOf us'.toArray k) ∈ all) (hd : (dk, od) ∈ all) (hl : (ll, listOf lvs.toArray ln) ∈ all) (ok : DeckOk prog w dk ll od lvs lns mx mt)
    (eu : us' = us ++ [Value.str y t]) (hus : StrsAre us ks) (hks : ∀ x ∈ ks, x ∈ kindsL) (hy : y ∈ kindsL) (hul : us.length = i) :
    TurnEnd h₀ L its (fun m' n₁ => (∀ y, st.contains y = false → m' y = m₀ y) ∧ ∃ od lvs lns mx mt ln us ks k, n₁ = [(f, listOf us.toArray k), (dk, od), (ll, listOf lvs.toArray ln)] ∧ DeckOk prog w dk ll od lvs lns mx mt ∧ StrsAre us ks ∧ (∀ x ∈ ks, x ∈ kindsL) ∧ us.length = i + 1) s₁ { s₁ with heap := h', toks := tk } := by
  subst eu
  refine TurnEnd.intro [(f, listOf (us ++ [Value.str y t]).toArray k), (dk, od), (ll, listOf lvs.toArray ln)] F N hi ?_ ?_ ⟨hs, _, _, _, _, _, _, _, ks ++ [y], _, rfl, ok, strs_snoc hus y t, ?_, by simp [hul]⟩
  · intro p hp
    rcases List.mem_cons.mp hp with rfl | hp
    · exact hf
    · rcases List.mem_cons.mp hp with rfl | hp
      · exact hd
      · rw [List.mem_singleton.mp hp]; exact hl
  · intro p hp
    rcases List.mem_cons.mp hp with rfl | hp
    · rfl
    · rcases List.mem_cons.mp hp with rfl | hp
      · show itCls od.cls = false
        rw [dict_cls ok.o]; rfl
      · rw [List.mem_singleton.mp hp]; rfl
  · intro x hx
    rcases List.mem_append.mp hx with hx | hx
    · exact hks x hx
    · rw [List.mem_singleton.mp hx]; exact hy
theorem lines15 : True := by
  (k_with "exec For Name Call cons nil" => (k_here; (rename Fr _ _ _ _ => lFzz); (with_unfolding_all refine' For_turns lFzz ?_; k_whole)))
  (k_with "pyIter ref" => (k_here; refine halt_ ?_))
  (k_with "subscriptTail" => (k_here; (first | ((with_reducible show wpAny _ _ (subscriptTail _ _ (Value.ref 193) (Value.int _ _)) _ _ _); k_dflt (refine' item_kinds ?Fq312w ?Xq312w ?aq312w ?bq312w ?_ ?eq312w; (case Fq312w => k_asm); (case Xq312w => k_asm); (case aq312w => assumption); (case bq312w => omega); (case eq312w => with_unfolding_all rfl)); intro yzz tzz hyzz) | ((with_reducible show wpAny _ _ (subscriptTail _ _ (Value.ref _) (Value.int _ _)) _ _ _); k_dflt (refine' item_strs (ks := menuL) ?tq312w ?sq312w ?aq312w ?bq312w ?zq312w ?_ ?eq312w; (case tq312w => exact News.isTup (by k_asm) (by k_mem)); (case sq312w => repeat constructor); (case aq312w => assumption); (case bq312w => (simp only [menuL, List.length_cons, List.length_nil]; omega)); (case zq312w => decide); (case eq312w => with_unfolding_all rfl)); intro yzz tzz hyzz))))
  (k_with "callWith" => (k_here; refine callWith_method1 ?_))
  exact trivial
set_option maxRecDepth 100000 in
set_option maxHeartbeats 400000 in
theorem C_text {w : World} {mean : ExcName → Option Value} {mg mb : Str → Option Value} {dp un : Nat} {gd : Option (List Code)} {cn : Str} {cs : Scope} {a : Addr} {ccd : Value} {cl : List (Str × Addr)} {outer : List Env} {A₀ : Around} {base h₀ : Heap} {L : Addr} {m : Str → Option Value} {s : Shared} {Q E : Value → Shared → Prop} (B : Below A₀ base outer h₀) (F : Fr h₀ L s.heap m) (X : (hd.heap_1 w.params).In h₀) (T : (Top view9 (looseW view9 []) mean mg mb h₀)) (hk : cs.kind = .function) {dk ll : Addr} {od : Obj} {lvs : List Value} {lns : List Int} {mx : Int} {mt : Tok} {ln : Nat} {big rest : List (Addr × Obj)}
    (Nb : News h₀ L s.heap big) (hdk : (dk, od) ∈ big) (hll : (ll, listOf lvs.toArray ln) ∈ big) (hrest : ∀ p ∈ rest, p ∈ big ∧ @Ne Nat p.1 dk ∧ @Ne Nat p.1 ll) (ok : DeckOk PySem.Challenge.rw_on0369_01.row.prog w dk ll od lvs lns mx mt) (sy : (dk == sysModules) = false) (hne : @Ne Nat dk ll)
    (hdp : dp + 8 < recursionLimit) (hu : un + 300 < cLine)
    (hret : ∀ f vs ks k h' tk', Fr h₀ L h' m → News h₀ L h' ((f, listOf vs.toArray k) :: rest) → s.heap.get? f = none → StrsAre vs ks → (∀ x ∈ ks, x ∈ kindsL) → ks.length ≤ 10 → Q (.ref f) { s with heap := h', toks := tk' }) :
    wpAny (model PySem.Challenge.rw_on0369_01.row.prog w) (ktrTop dp un gd cn cs L a ccd cl outer) (call (.ref 212) [.ref dk]) Q E s := by
  w_top off
  have N : News h₀ L s.heap [(dk, od), (ll, listOf lvs.toArray ln)] := news2 Nb hdk hll
  refine wpAny_call ?_
  k_dflt (refine' code_defG ?k1 ?k2 ?k3 N ?k5 ?kA ?kF ?kK ?k6 ?k7 ?k8 ?k9 ?kB ?_ ?c2 ?c3 ?c4 ?c5; (case kA => exact rfl); (case kF => exact rfl); (case kK => assumption); (case k1 => k_asm); (case k2 => k_asm); (case k3 => k_asm); (case k5 => k_asm); (case k6 => k_is); (case k7 => k_is); (case k8 => ktr_room); (case k9 => exact BindsTo.of_eq rfl); (case c5 => decide); (case kB => exact locs rfl); (case c2 => exact rfl); (case c3 => exact rfl); (case c4 => exact rfl); k_whole; intro g' L' h' FG' F' N' B' X' T' GS'; (try dsimp only); (try k_fold); refine toks_any fun tk9 => ?_; refine let_fr F' ?_; clear F'; intro m9 F'; refine let_A ?_; intro A9)
  (k_steps; repeat (any_goals ((first | ((with_reducible show Halt (wpAny _ _ (call (Value.ref 205) _) _ _ _)); refine Halt.go ?_; k_dflt (refine' C_draw ?B9z ?F9z ?X9z ?T9z ?hk9z ?N9z ?U19z ?U29z ?ok9z ?sy9z ?ne9z ?m09z ?m19z ?hdp9z ?hu9z ?_; (case B9z => k_asm); (case F9z => k_asm); (case X9z => k_asm); (case T9z => k_asm); (case hk9z => first | exact rfl | assumption); (case N9z => k_asm); (case ok9z => assumption); (case U19z => (intro o1; k_upd)); (case U29z => (intro o1 o2; k_upd)); (case sy9z => assumption); (case ne9z => assumption); (case m09z => decide); (case m19z => decide); (case hdp9z => ktr_room); (case hu9z => ktr_units); k_whole); intro r'q t'q od'q lvs'q lns'q mx'q mt'q ln'q h'q tk'q hr0'q hr1'q F'q N'q ok'q; (try dsimp only at N'q); (try k_sweep))); k_steps)))
  rename_i f h3 l1 h4 F1 N1 h2 tk2 t1 u1 v1 hrange F2 N2 hk2
  refine Halt.go ?_
  have hfd : @Ne Nat f dk := by k_ne
  have hfl : @Ne Nat f ll := by k_ne
  refine rangeJ (n := r'q.toNat) [Str.ofString "turn"] (fun i n₁ => ∃ od lvs lns mx mt ln us ks k, n₁ = [(f, listOf us.toArray k), (dk, od), (ll, listOf lvs.toArray ln)] ∧ DeckOk PySem.Challenge.rw_on0369_01.row.prog w dk ll od lvs lns mx mt ∧ StrsAre us ks ∧ (∀ x ∈ ks, x ∈ kindsL) ∧ us.length = i)
    rfl F2 N2 hrange (small_one (by omega) (by omega) (by omega) (by omega)) (by rw [rangeSize_nat]; simp) ⟨od'q, lvs'q, lns'q, mx'q, mt'q, ln'q, [], [], 0, rfl, ok'q, .nil, (fun _ h => nomatch h), rfl⟩ ?_ ?_
  · rintro I i tv u news₁ h₁ tk₁ o1 hI hi ⟨od2, lvs2, lns2, mx2, mt2, ln2, us, ks, k, rfl, ok2, hus, hks, hul⟩ ho1 F3 N3
    clear ok'q
    have hus10 : us.length ≤ 100 := by omega
    have hfI : @LT.lt Nat _ f I := Nat.lt_of_lt_of_le (Heap.lt_size (N2 _ (.head _)).1) hI
    have hdI : @LT.lt Nat _ dk I := Nat.lt_of_lt_of_le (Heap.lt_size (N2 _ (.tail _ (.head _))).1) hI
    have hlI : @LT.lt Nat _ ll I := Nat.lt_of_lt_of_le (Heap.lt_size (N2 _ (.tail _ (.tail _ (.head _)))).1) hI
    (try k_fold)
    (k_steps; repeat (any_goals ((first | ((with_reducible show Halt (wpAny _ _ (call (Value.ref 205) _) _ _ _)); refine Halt.go ?_; k_dflt (refine' C_draw ?B9z ?F9z ?X9z ?T9z ?hk9z ?N9z ?U19z ?U29z ?ok9z ?sy9z ?ne9z ?m09z ?m19z ?hdp9z ?hu9z ?_; (case B9z => k_asm); (case F9z => k_asm); (case X9z => k_asm); (case T9z => k_asm); (case hk9z => first | exact rfl | assumption); (case N9z => k_asm); (case ok9z => assumption); (case U19z => (intro o1; k_upd)); (case U29z => (intro o1 o2; k_upd)); (case sy9z => assumption); (case ne9z => assumption); (case m09z => decide); (case m19z => decide); (case hdp9z => ktr_room); (case hu9z => ktr_units); k_whole); intro r'q t'q od'q lvs'q lns'q mx'q mt'q ln'q h'q tk'q hr0'q hr1'q F'q N'q ok'q; (try dsimp only at N'q); (try k_sweep))); k_steps)))
    · exact text_end (by assumption) (by assumption) (by (intro y hy; have hy' := hy; simp only [List.contains_cons, List.contains_nil, Bool.or_false, Bool.or_eq_false_iff, beq_eq_false_iff_ne, ne_eq] at hy'; (first | simp only [hy', if_false, and_self, not_false_eq_true, over_off hy] | simp [hy', over_off hy]))) (by kcf_all) (by k_mem) (by k_mem) (by k_mem) (by assumption) (by (simp only [List.toList_toArray, List.concat_eq_append]); exact rfl) hus hks (by assumption) hul
    · exact text_end (by assumption) (by assumption) (by (intro y hy; have hy' := hy; simp only [List.contains_cons, List.contains_nil, Bool.or_false, Bool.or_eq_false_iff, beq_eq_false_iff_ne, ne_eq] at hy'; (first | simp only [hy', if_false, and_self, not_false_eq_true, over_off hy] | simp [hy', over_off hy]))) (by kcf_all) (by k_mem) (by k_mem) (by k_mem) (by assumption) (by (simp only [List.toList_toArray, List.concat_eq_append]); exact rfl) hus hks (menu_kinds _ (by assumption)) hul
  · rintro u news₁ h₁ tk₁ ⟨od2, lvs2, lns2, mx2, mt2, ln2, us, ks, k, rfl, ok2, hus, hks, hul⟩ F3 N3
    (try k_fold)
    k_steps
    have kb : KeepBut [dk, ll] s.heap h₁ := keepBut_of F3 GS'
    refine hret f us ks k _ _ (by k_asm) ?_ (fresh_of GS' N3 (.head _) (by simp only [List.map_cons, List.map_nil, List.mem_cons, List.not_mem_nil, or_false, not_or]; repeat' (first | (exact by k_ne) | apply And.intro))) hus hks (by rw [← strs_length hus, hul]; omega)
    intro p hp
    rcases List.mem_cons.mp hp with rfl | hp
    · exact news_of (by k_asm) _ (.head _)
    · obtain ⟨a1, a2, a3⟩ := hrest p hp
      exact ⟨kb _ _ (Nb p a1).1 (by simp only [List.mem_cons, List.not_mem_nil, or_false, not_or]; exact ⟨a2, a3⟩), (Nb p a1).2⟩
end V12part
section V13part
theorem lines16 : True := by
  k_with_none
  (k_with "k_inst" => exact IsInst.at (by assumption) (by k_asm))
  (k_with "compareOp In str ref" => (k_here; (first | (with_reducible refine' in_22 ?Fq315w ?Xq315w ?_) | (with_reducible refine' in_23 ?Fq315w ?Xq315w ?_) | (with_reducible refine' in_24 ?Fq315w ?Xq315w ?_) | (with_reducible refine' in_25 ?Fq315w ?Xq315w ?_) | (with_reducible refine' in_26 ?Fq315w ?Xq315w ?_)); (case Fq315w => k_asm); (case Xq315w => k_asm); k_whole))
  (k_with "compareOp NotIn str ref" => (k_here; (with_reducible refine' notin_22 ?Fq316w ?Xq316w ?_); (case Fq316w => k_asm); (case Xq316w => k_asm); k_whole))
  (k_with "exec For Tuple Call cons nil" => (k_here; (rename Fr _ _ _ _ => lFzz); (with_unfolding_all refine' For_turns lFzz ?_; k_whole)))
  (k_with "call type:enumerate" => (k_here; (with_reducible show wpAny _ _ (call (Value.type _) [Value.ref _]) (fun xv s₁ => wpAny _ _ (pyIter xv) (fun it s₂ => TurnsAt _ _ _ _ _ _ _ _ _ it s₂) _ s₁) _ _); refine halt_ ?_))
  (k_with "TurnPost" => (dsimp only [TurnPost]))
  (k_with "compareOp In str ref" => (k_here; k_dflt (first | (refine' in_made isHang ?Nq320w ?mq320w ?iq320w ?pq320w ?_; (case Nq320w => k_asm); (case mq320w => k_mem); (case iq320w => repeat constructor); (case pq320w => rfl); k_whole) | (refine' in_made isPara ?Nq320w ?mq320w ?iq320w ?pq320w ?_; (case Nq320w => k_asm); (case mq320w => k_mem); (case iq320w => repeat constructor); (case pq320w => rfl); k_whole) | (refine' in_made isLetterS ?Nq320w ?mq320w ?iq320w ?pq320w ?_; (case Nq320w => k_asm); (case mq320w => k_mem); (case iq320w => repeat constructor); (case pq320w => rfl); k_whole) | (refine' in_made isStayS ?Nq320w ?mq320w ?iq320w ?pq320w ?_; (case Nq320w => k_asm); (case mq320w => k_mem); (case iq320w => repeat constructor); (case pq320w => rfl); k_whole))))
  (k_with "compareOp NotIn str ref" => (k_here; k_dflt (first | (refine' notin_made isTerm ?Nq321w ?mq321w ?iq321w ?pq321w ?_; (case Nq321w => k_asm); (case mq321w => k_mem); (case iq321w => repeat constructor); (case pq321w => rfl); k_whole) | (refine' notin_made isPara ?Nq321w ?mq321w ?iq321w ?pq321w ?_; (case Nq321w => k_asm); (case mq321w => k_mem); (case iq321w => repeat constructor); (case pq321w => rfl); k_whole))))
  (k_with "compareOp NotEq ref ref" => (k_here; k_dflt (refine' ne_unitsK ?Nq322w ?aq322w ?uq322w ?sq322w ?bq322w ?oq322w ?rq322w ?_; (case Nq322w => k_asm); (case aq322w => k_mem); (case uq322w => assumption); (case sq322w => kcf_all); (case bq322w => k_mem); (case oq322w => assumption); (case rq322w => ktr_units); k_whole)))
  (k_with "subscriptTail" => (k_here; (with_reducible show wpAny _ _ (subscriptTail _ _ (Value.ref _) (Value.int (-1) _)) _ _ _); k_dflt (refine' item_lastN ?Nq323w ?aq323w ?_ ?hq323w; (case Nq323w => k_asm); (case aq323w => k_mem); (case hq323w => with_unfolding_all rfl); k_whole)))
  (k_with "subscriptTail" => (k_here; (first | ((with_reducible show wpAny _ _ (subscriptTail _ _ (Value.ref _) (Value.int 0 _)) _ _ _); k_dflt (refine' item3_0 ?Nq324w ?aq324w ?sq324w ?_ ?hq324w; (case Nq324w => k_asm); (case aq324w => with_reducible assumption); (case sq324w => kcf_all); (case hq324w => with_unfolding_all rfl); k_whole)) | ((with_reducible show wpAny _ _ (subscriptTail _ _ (Value.ref _) (Value.int 1 _)) _ _ _); k_dflt (refine' item3_1 ?Nq324w ?aq324w ?sq324w ?_ ?hq324w; (case Nq324w => k_asm); (case aq324w => with_reducible assumption); (case sq324w => kcf_all); (case hq324w => with_unfolding_all rfl); k_whole)) | ((with_reducible show wpAny _ _ (subscriptTail _ _ (Value.ref _) (Value.int 2 _)) _ _ _); k_dflt (refine' item3_2 ?Nq324w ?aq324w ?sq324w ?_ ?hq324w; (case Nq324w => k_asm); (case aq324w => with_reducible assumption); (case sq324w => kcf_all); (case hq324w => with_unfolding_all rfl); k_whole)))))
  (k_with "setItem ref int ref" => (k_here; k_dflt (refine' setLast_K ?Fq325w ?Nq325w ?Uq325w ?_; (case Fq325w => k_asm); (case Nq325w => k_asm); (case Uq325w => k_upd); k_whole); intro _ _ _; (try k_sweep)))
  (k_with "k_all" => assumption)
  (k_with "size_fits" => ((rw [PySem.sizeLine_eq]); (simp only [List.size_toArray, List.length_append, List.length_cons, List.length_nil]); omega))
  (k_with "CompSrcT" => (k_here; k_dflt (refine' LCt.CompSrcT.ledger ?hhq328w ?Fq328w ?Nq328w ?mq328w ?zq328w ?_; (case hhq328w => exact rfl); (case Fq328w => k_asm); (case Nq328w => k_asm); (case mq328w => k_mem); (case zq328w => size_fits)); intro _; refine halt_ ?_))
  (k_with "exec Assign cons ListComp" => (k_here; lct_look; k_dflt (refine LCt.Assign_ListComp_T (F₀ := by k_asm) (by rfl) (by with_unfolding_all rfl) (by with_unfolding_all rfl) (by decide) (by rfl) (by decide) (by rfl) (by rfl) (by rfl) ?_)))
  (k_with "CompEnd" => (refine LCg.CompEnd.intro (by assumption) (by assumption) _ (fun _ h9 => h9) (by first | assumption | (simp only [LCg.Off3, and_true]; assumption)) (by lcg_src) ?_; first | exact ⟨⟨_, rfl⟩, rfl, by first | assumption | exact decide_eq_true (by assumption)⟩ | exact ⟨rfl, by first | assumption | exact decide_eq_false (by assumption)⟩))
  (k_with "call builtin:len" => (k_here; (with_reducible show wpAny _ _ (call (Value.builtin "len") [Value.ref _]) _ _ _); k_dflt (refine' kst_len ?k1q331w ?k2q331w ?k3q331w ?k4q331w ?_; (case k1q331w => k_asm); (case k2q331w => k_mem); (case k3q331w => exact rfl); (case k4q331w => omega); k_whole)))
  (k_with "subscriptTail Name Slice ref ref" => (k_here; (with_reducible show wpAny _ _ (subscriptTail _ (PySem.Expr.Slice _ _ none _) (Value.ref _) (Value.ref _)) _ _ _); k_dflt (refine' slice_K ?Fq332w ?Nq332w ?lq332w ?pq332w ?qq332w ?_ ?sq332w ?tq332w ?zq332w; (case Fq332w => k_asm); (case Nq332w => k_asm); (case lq332w => first | exact News.isList (by k_asm) (by k_mem) | exact listBase (by k_asm) (by assumption)); (case pq332w => kmk_part); (case qq332w => kmk_part); (case sq332w => with_unfolding_all rfl); (case tq332w => kmk_pure); (case zq332w => size_fits)); intro _ _ _ Nzz l1zz; (try k_lt l1zz); (try dsimp only at Nzz); (try k_sweep)))
  (k_with "compareOp In ref ref" => (k_here; k_dflt (refine' in_two ?Nq333w ?xq333w ?vq333w ?tq333w ?aq333w ?vaq333w ?bq333w ?vbq333w ?okq333w ?okaq333w ?okbq333w ?uq333w ?_; (case Nq333w => k_asm); (case xq333w => k_mem); (case vq333w => exact strs_pick (by assumption)); (case tq333w => k_mem); (case aq333w => k_mem); (case vaq333w => exact .cons _ _ .nil); (case bq333w => k_mem); (case vbq333w => exact .cons _ _ .nil); (case okq333w => exact pick_sub (by assumption)); (case okaq333w => decide +kernel); (case okbq333w => decide +kernel); (case uq333w => ktr_units); k_whole)))
  (k_with "exec While" => (k_here; refine halt_ ?_))
  (k_with "compareOp NotEq ref ref" => (k_here; k_dflt (first | (refine' ne_bothK ?Nq335w ?aq335w ?bq335w ?uq335w ?_; (case Nq335w => k_asm); (case aq335w => k_mem); (case bq335w => k_mem); (case uq335w => ktr_units); k_whole) | (refine' ne_snocK ?Nq335w ?aq335w ?vq335w ?bq335w ?oq335w ?uq335w ?_; (case Nq335w => k_asm); (case aq335w => k_mem); (case vq335w => assumption); (case bq335w => k_mem); (case oq335w => assumption); (case uq335w => ktr_units); k_whole))))
  (k_with "compareOp Eq ref ref" => (k_here; k_dflt (first | (refine' eq_bothK ?Nq336w ?aq336w ?bq336w ?uq336w ?_; (case Nq336w => k_asm); (case aq336w => k_mem); (case bq336w => k_mem); (case uq336w => ktr_units); k_whole) | (refine' eq_snocK ?Nq336w ?aq336w ?vq336w ?bq336w ?oq336w ?uq336w ?_; (case Nq336w => k_asm); (case aq336w => k_mem); (case vq336w => assumption); (case bq336w => k_mem); (case oq336w => assumption); (case uq336w => ktr_units); k_whole))))
  (k_with "call builtin:list.pop" => (k_here; (with_reducible show wpAny _ _ (call (Value.builtin _) [Value.ref _]) _ _ _); k_dflt (refine' pop_snoc ?Fq337w ?Nq337w ?Uq337w ?zq337w ?_; (case Fq337w => k_asm); (case Nq337w => k_asm); (case Uq337w => k_upd); (case zq337w => size_fits); k_whole); intro _ _ _; (try k_sweep)))
  (k_with "call ref" => (k_here; refine halt_ ?_))
  (k_with "k_ne" => (apply nn8; (try dsimp only); with_reducible ((fail_if_success show @Ne Nat 987654321 _); (fail_if_success show @Ne Nat _ 987654321); first | assumption | (apply nq1; assumption) | (apply nq2; assumption) | (apply nq3; assumption) | (apply nc1; assumption; (first | exact And.left | exact fun z => z.2.1 | exact fun z => z.2.2.1 | exact fun z => z.2.2.2.1 | exact fun z => z.2.2.2.2.1 | exact fun z => z.2.2.2.2.2.1 | exact fun z => z.2.2.2.2.2.2.1 | exact fun z => z.2.2.2.2.2.2.2.1 | exact fun z => z.2.2.2.2.2.2.2.2.1 | exact fun z => z.2.2.2.2.2.2.2.2.2.1 | exact fun z => z.2.2.2.2.2.2.2.2.2.2.1 | exact fun z => z.2.2.2.2.2.2.2.2.2.2.2.1 | exact fun z => z.2.2.2.2.2.2.2.2.2.2.2.2.1 | exact fun z => z.2.2.2.2.2.2.2.2.2.2.2.2.2.1 | exact And.right | exact fun z => z.2.2 | exact fun z => z.2.2.2 | exact fun z => z.2.2.2.2 | exact fun z => z.2.2.2.2.2 | exact fun z => z.2.2.2.2.2.2 | exact fun z => z.2.2.2.2.2.2.2 | exact fun z => z.2.2.2.2.2.2.2.2 | exact fun z => z.2.2.2.2.2.2.2.2.2 | exact fun z => z.2.2.2.2.2.2.2.2.2.2 | exact fun z => z.2.2.2.2.2.2.2.2.2.2.2 | exact fun z => z.2.2.2.2.2.2.2.2.2.2.2.2 | exact fun z => z.2.2.2.2.2.2.2.2.2.2.2.2.2)) | (apply nc2; assumption; (first | exact And.left | exact fun z => z.2.1 | exact fun z => z.2.2.1 | exact fun z => z.2.2.2.1 | exact fun z => z.2.2.2.2.1 | exact fun z => z.2.2.2.2.2.1 | exact fun z => z.2.2.2.2.2.2.1 | exact fun z => z.2.2.2.2.2.2.2.1 | exact fun z => z.2.2.2.2.2.2.2.2.1 | exact fun z => z.2.2.2.2.2.2.2.2.2.1 | exact fun z => z.2.2.2.2.2.2.2.2.2.2.1 | exact fun z => z.2.2.2.2.2.2.2.2.2.2.2.1 | exact fun z => z.2.2.2.2.2.2.2.2.2.2.2.2.1 | exact fun z => z.2.2.2.2.2.2.2.2.2.2.2.2.2.1 | exact And.right | exact fun z => z.2.2 | exact fun z => z.2.2.2 | exact fun z => z.2.2.2.2 | exact fun z => z.2.2.2.2.2 | exact fun z => z.2.2.2.2.2.2 | exact fun z => z.2.2.2.2.2.2.2 | exact fun z => z.2.2.2.2.2.2.2.2 | exact fun z => z.2.2.2.2.2.2.2.2.2 | exact fun z => z.2.2.2.2.2.2.2.2.2.2 | exact fun z => z.2.2.2.2.2.2.2.2.2.2.2 | exact fun z => z.2.2.2.2.2.2.2.2.2.2.2.2 | exact fun z => z.2.2.2.2.2.2.2.2.2.2.2.2.2)) | (apply nc3; assumption; (first | exact And.left | exact fun z => z.2.1 | exact fun z => z.2.2.1 | exact fun z => z.2.2.2.1 | exact fun z => z.2.2.2.2.1 | exact fun z => z.2.2.2.2.2.1 | exact fun z => z.2.2.2.2.2.2.1 | exact fun z => z.2.2.2.2.2.2.2.1 | exact fun z => z.2.2.2.2.2.2.2.2.1 | exact fun z => z.2.2.2.2.2.2.2.2.2.1 | exact fun z => z.2.2.2.2.2.2.2.2.2.2.1 | exact fun z => z.2.2.2.2.2.2.2.2.2.2.2.1 | exact fun z => z.2.2.2.2.2.2.2.2.2.2.2.2.1 | exact fun z => z.2.2.2.2.2.2.2.2.2.2.2.2.2.1 | exact And.right | exact fun z => z.2.2 | exact fun z => z.2.2.2 | exact fun z => z.2.2.2.2 | exact fun z => z.2.2.2.2.2 | exact fun z => z.2.2.2.2.2.2 | exact fun z => z.2.2.2.2.2.2.2 | exact fun z => z.2.2.2.2.2.2.2.2 | exact fun z => z.2.2.2.2.2.2.2.2.2 | exact fun z => z.2.2.2.2.2.2.2.2.2.2 | exact fun z => z.2.2.2.2.2.2.2.2.2.2.2 | exact fun z => z.2.2.2.2.2.2.2.2.2.2.2.2 | exact fun z => z.2.2.2.2.2.2.2.2.2.2.2.2.2)) | (apply nc4; assumption; (first | exact And.left | exact fun z => z.2.1 | exact fun z => z.2.2.1 | exact fun z => z.2.2.2.1 | exact fun z => z.2.2.2.2.1 | exact fun z => z.2.2.2.2.2.1 | exact fun z => z.2.2.2.2.2.2.1 | exact fun z => z.2.2.2.2.2.2.2.1 | exact fun z => z.2.2.2.2.2.2.2.2.1 | exact fun z => z.2.2.2.2.2.2.2.2.2.1 | exact fun z => z.2.2.2.2.2.2.2.2.2.2.1 | exact fun z => z.2.2.2.2.2.2.2.2.2.2.2.1 | exact fun z => z.2.2.2.2.2.2.2.2.2.2.2.2.1 | exact fun z => z.2.2.2.2.2.2.2.2.2.2.2.2.2.1 | exact And.right | exact fun z => z.2.2 | exact fun z => z.2.2.2 | exact fun z => z.2.2.2.2 | exact fun z => z.2.2.2.2.2 | exact fun z => z.2.2.2.2.2.2 | exact fun z => z.2.2.2.2.2.2.2 | exact fun z => z.2.2.2.2.2.2.2.2 | exact fun z => z.2.2.2.2.2.2.2.2.2 | exact fun z => z.2.2.2.2.2.2.2.2.2.2 | exact fun z => z.2.2.2.2.2.2.2.2.2.2.2 | exact fun z => z.2.2.2.2.2.2.2.2.2.2.2.2 | exact fun z => z.2.2.2.2.2.2.2.2.2.2.2.2.2)))))
  (k_with "k_upd" => first | (apply uh8; k_all) | (apply ut8; k_ne; k_upd))
  (k_with "k_updF" => first | (apply fh8; k_all) | (apply ft8; k_ne; k_updF))
  (k_with "k_all" => first | exact List.forall_mem_nil _ | (apply an8; k_ne; k_all))
  (k_with "kcf_all" => first | exact fun _ hp => hp | (apply sb8; (focus kcf_m); kcf_all))
  (k_with "ktr_units" => first | exact uu2 hu rfl | exact uu1 hu rfl | exact uu3 hu rfl | exact uu4 hu rfl)
  (k_with "ktr_room" => first | exact uu2 hdp rfl | exact uu1 hdp rfl | exact uu3 hdp rfl | exact uu4 hdp rfl)
  (k_with "subscriptTail Name UnaryOp ref int" => k_extra "subscriptTail")
  exact trivial
section
variable {prog : Program} {w : World} {A : Around} {E : Value → Shared → Prop} {s : Shared} {env : Env} {h₀ : Heap} {body : List Stmt} {Q : Flow → Shared → Prop}
def MixEnd (h₀ : Heap) (L : Addr) (its news : List (Addr × Obj)) (mB : Str → Option Value) (s₁ : Shared) (f : Flow) (s₂ : Shared) : Prop :=
  f = .next ∧ ∃ h' tk m' all mx mt cell, s₂ = { s₁ with heap := h', toks := tk } ∧ Fr h₀ L h' m' ∧ News h₀ L h' all ∧ (∀ p ∈ its, p ∈ all) ∧ (∀ p ∈ news, p ∈ all) ∧ m' = (fun y => if y = Str.ofString "mixed" then some (.int mx mt) else if y = Str.ofString "cell" then cell else mB y) ∧ 0 ≤ mx ∧ mx < 1000003
theorem MixEnd.intro {L : Addr} {its news all : List (Addr × Obj)} {mB m' : Str → Option Value} {s₁ : Shared} {h' : Heap} {tk : Nat} {mx : Int} {mt : Tok} {cell : Option Value} (F : Fr h₀ L h' m') (N : News h₀ L h' all) (hi : ∀ p ∈ its, p ∈ all) (hn : ∀ p ∈ news, p ∈ all)
    (e : ∀ y, m' y = (if y = Str.ofString "mixed" then some (.int mx mt) else if y = Str.ofString "cell" then cell else mB y)) (h0 : 0 ≤ mx) (h1 : mx < 1000003) : MixEnd h₀ L its news mB s₁ .next { s₁ with heap := h', toks := tk } :=
  ⟨rfl, h', tk, m', all, mx, mt, cell, rfl, F, N, hi, hn, funext e, h0, h1⟩
theorem for_mixed {py : Pos} {l : Addr} {vs : List Value} {ns : List Int} {nn : Nat} {mB : Str → Option Value} {news : List (Addr × Obj)} {mx0 : Int} (hh : A.handled = none) (F : Fr h₀ env.locals s.heap mB) (N : News h₀ env.locals s.heap news) (hl : (l, listOf vs.toArray nn) ∈ news)
    (hc : ∀ p ∈ news, itCls p.2.cls = false) (hv : IntsAre vs ns) (hb : ∀ n ∈ ns, 0 ≤ n ∧ n < 1000003) (hmx : ∃ t, mB (Str.ofString "mixed") = some (.int mx0 t)) (h0 : 0 ≤ mx0) (h1 : mx0 < 1000003)
    (turn : ∀ (I : Addr) mx mt cell k t h₁ tk₁ o1, s.heap.objs.size ≤ I → 0 ≤ mx → mx < 1000003 → 0 ≤ k → k < 1000003 → o1.cls = .type "list_iterator" → Fr h₀ env.locals h₁ (fun y => if y = Str.ofString "mixed" then some (.int mx mt) else if y = Str.ofString "cell" then cell else mB y) → News h₀ env.locals h₁ ((I, o1) :: news) →
      wpAny (model prog w) A (assign (.Name (Str.ofString "cell") py) env (.int k t)) (fun _ s₃ => wpAny (model prog w) A (execs body env) (MixEnd h₀ env.locals [(I, o1)] news mB { s with heap := h₁, toks := tk₁ }) E s₃) E { s with heap := h₁, toks := tk₁ })
    (done : ∀ mx mt cell h tk, 0 ≤ mx → mx < 1000003 → Fr h₀ env.locals h (fun y => if y = Str.ofString "mixed" then some (.int mx mt) else if y = Str.ofString "cell" then cell else mB y) → News h₀ env.locals h news → Q .next { s with heap := h, toks := tk }) :
    wpAny (model prog w) A (pyIter (.ref l)) (fun it s₂ => TurnsAt prog w A h₀ env (.Name (Str.ofString "cell") py) body Q E it s₂) E s := by
  obtain ⟨t0, hmx⟩ := hmx
  refine listJ (fun _ m₁ n₁ => n₁ = news ∧ ∃ mx mt cell, (m₁ = fun y => if y = Str.ofString "mixed" then some (.int mx mt) else if y = Str.ofString "cell" then cell else mB y) ∧ 0 ≤ mx ∧ mx < 1000003) hh F N hl (fun i m₁ n₁ h => h.1 ▸ hl) ⟨rfl, mx0, t0, mB (Str.ofString "cell"), ?_, h0, h1⟩ ?_ ?_
  · funext y
    split
    · rename_i h; rw [h, hmx]
    · split
      · rename_i h; rw [h]
      · rfl
  · rintro I i v m₁ n₁ h₁ tk₁ o1 hI hvi ⟨rfl, mx, mt, cell, rfl, c0, c1⟩ ho1 F₁ N₁
    obtain ⟨k, t, hk, rfl⟩ := ints_at' hv hvi
    have hbk := hb k (List.mem_of_getElem? hk)
    refine wpAny_mono (turn I mx mt cell k t h₁ tk₁ o1 hI c0 c1 hbk.1 hbk.2 ho1 F₁ N₁) (fun _ s₃ h₃ => wpAny_mono h₃ (fun f s₄ hf => ?_) fun _ _ e => e) fun _ _ e => e
    obtain ⟨rfl, h', tk, m', all, mx', mt', cell', rfl, F', N', hi, hn, rfl, d0, d1⟩ := hf
    exact TurnEnd.intro n₁ F' N' hi hn hc ⟨rfl, mx', mt', cell', rfl, d0, d1⟩
  · rintro m₁ n₁ h tk ⟨rfl, mx, mt, cell, rfl, c0, c1⟩ F₁ N₁
    exact done mx mt cell h tk c0 c1 F₁ N₁
end
theorem nMC : Str.ofString "mixed" ≠ Str.ofString "cell" := by decide +kernel
theorem lines17 : True := by
  (k_with "eval ListComp" => (k_here; k_dflt (refine LCg.ListComp_U (F₀ := by k_asm) (by rfl) (by decide) (by rfl) (by decide) (by rfl) ?_)))
  (k_with "CompSrc" => (k_here; refine halt_ ?_))
  (k_with "subscriptTail Name Slice ref ref" => (k_here; refine halt_ ?_))
  (k_with "exec For Name Name cons nil" => (k_here; (rename Fr _ _ _ _ => lFzz); (with_unfolding_all refine' For_turns lFzz ?_; k_whole)))
  (k_with "pyIter ref" => (k_here; refine halt_ ?_))
  exact trivial
set_option maxRecDepth 100000 in
set_option maxHeartbeats 1000000 in
theorem C_deck {w : World} {mean : ExcName → Option Value} {mg mb : Str → Option Value} {dp un : Nat} {gd : Option (List Code)} {cn : Str} {cs : Scope} {a : Addr} {ccd : Value} {cl : List (Str × Addr)} {outer : List Env} {A₀ : Around} {base h₀ : Heap} {L : Addr} {m : Str → Option Value} {s : Shared} {Q E : Value → Shared → Prop} (B : Below A₀ base outer h₀) (F : Fr h₀ L s.heap m) (X : (hd.heap_1 w.params).In h₀) (T : (Top view9 (looseW view9 []) mean mg mb h₀)) (hk : cs.kind = .function) {l : Addr} {vs : List Value} {ns : List Int} {news : List (Addr × Obj)}
    (N : News h₀ L s.heap news) (hL : s.heap.IsList l vs.toArray) (hv : IntsAre vs ns) (hlen : ns.length ≤ 63)
    (hdp : dp + 8 < recursionLimit) (hu : un + 300 < cLine)
    (hret : ∀ dk ll od lvs lns mx mt ln h' tk', s.heap.StaysIn h' → Fr h₀ L h' m → News h₀ L h' ((dk, od) :: (ll, listOf lvs.toArray ln) :: news) → DeckOk PySem.Challenge.rw_on0369_01.row.prog w dk ll od lvs lns mx mt → (dk == sysModules) = false → @Ne Nat dk ll → s.heap.get? dk = none → s.heap.get? ll = none → Q (.ref dk) { s with heap := h', toks := tk' }) :
    wpAny (model PySem.Challenge.rw_on0369_01.row.prog w) (ktrTop dp un gd cn cs L a ccd cl outer) (call (.ref 198) [.ref l]) Q E s := by
  w_top off
  have hvl := ints_length hv
  refine wpAny_call ?_
  k_dflt (refine' code_def0 ?k1 ?k2 ?k3 ?k5 ?kA ?kF ?kK ?k6 ?k7 ?k8 ?k9 ?kB ?_ ?c2 ?c3 ?c4 ?c5; (case kA => exact rfl); (case kF => exact rfl); (case kK => assumption); (case k1 => k_asm); (case k2 => k_asm); (case k3 => k_asm); (case k5 => k_asm); (case k6 => k_is); (case k7 => k_is); (case k8 => ktr_room); (case k9 => exact BindsTo.of_eq rfl); (case c5 => decide); (case kB => exact locs rfl); (case c2 => exact rfl); (case c3 => exact rfl); (case c4 => exact rfl); k_whole; intro L' h' F' N' B' X' T'; (try dsimp only); (try k_fold); refine toks_any fun tk9 => ?_; refine let_fr F' ?_; clear F'; intro m9 F'; refine let_A ?_; intro A9)
  k_steps
  refine Halt.go ?_
  k_dflt (refine' slice_K (by k_asm) (by k_asm) (listBase (by k_asm) hL) (by kmk_part) (by kmk_part) ?_ (by with_unfolding_all rfl) (by kmk_pure) ?z9; case z9 => size_fits)
  intro D h0 F0 N0 l1
  (try dsimp only at N0)
  k_steps
  (with_reducible rename Fr _ _ _ _ => F1)
  (with_reducible rename News _ _ _ _ => N1)
  obtain ⟨ms, hms, hml⟩ := ints_pick (lo := none) (hi := some 40) hv
  have hml2 := ints_length hms
  refine Halt.go (LCg.CompSrc.ledger rfl F1 N1 (.head _) (by rw [PySem.sizeLine_eq]; simp only [List.size_toArray, List.toList_toArray]; omega) fun g => ?_)
  refine rest_J (fun i ys nw => nw = [(D, listOf (kms_pick vs.toArray.toList none (some 40)).toArray 0)] ∧ ∃ lns : List Int, IntsAre ys lns ∧ (∀ n ∈ lns, 0 ≤ n ∧ n < 1000003) ∧ ys.length = i) ⟨rfl, [], .nil, (fun _ h => nomatch h), rfl⟩ ?_ ?_
  · rintro i v I oI C oC D2 m₂ ys nw h2 tk2 E' hi hv2 ⟨rfl, lns, hys, hb, hyl⟩ hC hx F2 N2 off ne
    obtain ⟨k, t, hk2, rfl⟩ := ints_at' hms (i := i) (v := v) (by simpa using hv2)
    have hg0 : 0 ≤ Int.fmod k 1000003 := Int.fmod_nonneg_of_pos k (by decide)
    have hg1 : Int.fmod k 1000003 < 1000003 := Int.fmod_lt_of_pos k (by decide)
    (try k_fold)
    k_steps
    all_goals exact LCg.CompEnd.intro (by assumption) (by assumption) _ (by kcf_all) off (by lcg_src) ⟨rfl, _, ints_snoc hys _ _, (fun n hn => (List.mem_append.mp hn).elim (hb n) fun h => by rw [List.mem_singleton.mp h]; exact ⟨hg0, hg1⟩), by simp [hyl]⟩
  · rintro ys nw ⟨rfl, lns, hys, hb, hyl⟩
    have hys2 : ys.length ≤ 63 := by rw [hyl]; simp only [List.size_toArray]; omega
    have hyl2 := ints_length hys
    k_steps
    rename_i ll h4 tk4 o4 T h5 l5 h6 h7 h8 N4
    (with_reducible rename Fr s.heap _ _ _ => F4)
    refine Halt.go (for_mixed rfl F4 N4 (.tail _ (.head _)) (List.forall_mem_cons.mpr ⟨rfl, List.forall_mem_cons.mpr ⟨rfl, List.forall_mem_cons.mpr ⟨rfl, fun _ h => nomatch h⟩⟩⟩) hys hb ⟨_, rfl⟩ (by decide) (by decide) ?_ ?_)
    · intro I mx mt cell k t h₁ tk₁ o1 hI c0 c1 d0 d1 ho1 F9 N9
      have hlI : @LT.lt Nat _ ll I := Nat.lt_of_lt_of_le (Heap.lt_size (N4 _ (.tail _ (.head _))).1) hI
      have hg0 : 0 ≤ Int.fmod (mx * 31 + k + 1) 1000003 := Int.fmod_nonneg_of_pos _ (by decide)
      have hg1 : Int.fmod (mx * 31 + k + 1) 1000003 < 1000003 := Int.fmod_lt_of_pos _ (by decide)
      (try k_fold)
      k_steps
      refine' MixEnd.intro (by assumption) (by assumption) (by kcf_all) (by kcf_all) ?e hg0 hg1
      case e =>
        intro y
        by_cases e1 : y = Str.ofString "mixed"
        · subst e1; rfl
        · by_cases e3 : y = Str.ofString "cell"
          · subst e3; rfl
          · simp only [e1, e3, if_false]
    · intro mx mt cell h₁ tk₁ c0 c1 F9 N9
      (try k_fold)
      k_steps
      (with_reducible rename Fr s.heap _ _ _ => F10)
      (with_reducible rename News s.heap _ _ _ => N10)
      refine hret _ ll _ ys lns mx mt ys.length _ _ F10.keep (by k_asm) ?_ ⟨by assumption, hys, fun n hn => (hb n hn).1, by omega, c0, c1⟩ (by assumption) (by k_ne) (N10 _ (.head _)).2.2 (N10 _ (.tail _ (.tail _ (.head _)))).2.2
      intro p hp
      rcases List.mem_cons.mp hp with rfl | hp
      · exact news_of (by k_asm) _ (.head _)
      · rcases List.mem_cons.mp hp with rfl | hp
        · exact news_of (by k_asm) _ (.tail _ (.tail _ (.head _)))
        · exact news_grow N F10.keep p hp
end V13part
section Gen8part
/-! ## a dict of which one key alone is told -/
def sbS : Str := Str.ofString "sb"
def DLen (prog : Program) (w : World) (o : Obj) (n : Nat) (P : Option Value → Prop) : Prop := ∃ kvs, o.IsDictOf (PySem.strKind prog w) kvs ∧ kvs.length ≤ n ∧ P (valueAt kvs (Str.ofString "sb"))
theorem DLen.mono {prog : Program} {w : World} {o : Obj} {n : Nat} {P P' : Option Value → Prop} (h : DLen prog w o n P) (hp : ∀ x, P x → P' x) : DLen prog w o n P' := by
  obtain ⟨kvs, a, b, c⟩ := h
  exact ⟨kvs, a, b, hp _ c⟩
theorem DLen.cls {prog : Program} {w : World} {o : Obj} {n : Nat} {P : Option Value → Prop} (h : DLen prog w o n P) : o.cls = .type "dict" := by
  obtain ⟨kvs, ⟨es, ep, hx, _⟩, _⟩ := h
  exact hx.1
theorem valueAt_stored {kvs : List (Str × Value)} {k k' : Str} {v : Value} : valueAt (stored kvs k v) k' = if k' = k then some v else valueAt kvs k' := by
  unfold stored
  by_cases ha : kvs.any (fun kv => kv.1 = k) = true
  · rw [if_pos ha]
    unfold valueAt
    have key : ∀ l : List (Str × Value), (l.map fun kv => if kv.1 = k then (kv.1, v) else kv).find? (fun kv => kv.1 = k') = (l.find? fun kv => kv.1 = k').map fun kv => if kv.1 = k then (kv.1, v) else kv := by
      intro l
      induction l with
      | nil => rfl
      | cons p r ih =>
        simp only [List.map_cons, List.find?_cons]
        have e : (if p.1 = k then (p.1, v) else p).1 = p.1 := by split <;> rfl
        rw [e]
        split
        · rfl
        · exact ih
    rw [key]
    by_cases hk : k' = k
    · subst hk
      rw [if_pos rfl]
      cases hf : kvs.find? (fun kv => kv.1 = k') with
      | none =>
        exfalso
        rw [List.any_eq_true] at ha
        obtain ⟨p, hp, hpk⟩ := ha
        exact absurd hpk (List.find?_eq_none.mp hf p hp)
      | some p =>
        have hp := List.find?_some hf
        have hp' : p.1 = k' := by simpa using hp
        simp [hp']
    · rw [if_neg hk]
      cases hf : kvs.find? (fun kv => kv.1 = k') with
      | none => rfl
      | some p =>
        have hp := List.find?_some hf
        have hp' : p.1 = k' := by simpa using hp
        have : ¬ p.1 = k := fun e => hk (hp' ▸ e)
        simp [this]
  · rw [if_neg ha]
    unfold valueAt
    rw [List.find?_append]
    by_cases hk : k' = k
    · subst hk
      rw [if_pos rfl]
      have : kvs.find? (fun kv => kv.1 = k') = none := List.find?_eq_none.mpr fun p hp hpk => ha (List.any_eq_true.mpr ⟨p, hp, hpk⟩)
      rw [this]; simp
    · rw [if_neg hk]
      have : ¬ k = k' := fun e => hk e.symm
      simp [this]
section
variable {prog : Program} {w : World} {A : Around} {E : Value → Shared → Prop} {s : Shared} {h₀ h : Heap} {L d : Addr} {m : Str → Option Value} {news : List (Addr × Obj)} {g : Obj → List (Addr × Obj)} {o : Obj} {n : Nat} {k : Str} {t : Tok} {v : Value} {P : Option Value → Prop}
theorem set_D {Q : Unit → Shared → Prop} (F : Fr h₀ L s.heap m) (N : News h₀ L s.heap news) (hd : DLen prog w o n P) (U : UpdF d o news g) (hz : n ≤ 1000)
    (h : ∀ h' o', Fr h₀ L h' m → News h₀ L h' (g o') → DLen prog w o' (n + 1) (fun x' => ∃ x, P x ∧ x' = if Str.ofString "sb" = k then some v else x) → Q () { s with heap := h', toks := s.toks + 1 }) : wpAny (model prog w) A (setItem (.ref d) (.str k t) v) Q E s := by
  obtain ⟨kvs, hk, hl, hp⟩ := hd
  refine kda_set F N U hk (strKind_is _ _ _ _) (by rw [PySem.sizeLine_eq]; omega) fun h' o' F' N' hd' => h h' o' F' N' ⟨_, hd', ?_, _, hp, valueAt_stored⟩
  have := stored_length_le kvs k v
  omega
theorem made_D {vs : List (Value × Value)} {P : Heap → Prop} (F : Fr h₀ L h m) (N : News h₀ L h news) (hbig : h₀.NoLimit) (hk : allStrKeys vs = true) (hn : ((strPairs vs).map (·.1)).Nodup)
    (kk : ∀ h' o, Fr h₀ L h' m → News h₀ L h' ((h.objs.size, o) :: news) → (∀ p ∈ news, p.1 < h.objs.size) → (h.objs.size == sysModules) = false → DLen prog w o (strPairs vs).length (fun x => x = valueAt (strPairs vs) (Str.ofString "sb")) → P h') :
    ∃ kvs, Carries (PySem.strKind prog w) vs kvs ∧ (h.push { cls := .type "dict", data := .dict #[] }).DictOf (PySem.strKind prog w) h.objs.size [] ∧
      ∀ h', h'.DictOf (PySem.strKind prog w) h.objs.size (merged [] kvs) → Heap.SameBut h.objs.size (h.push { cls := .type "dict", data := .dict #[] }) h' → P h' :=
  made_str F N hk hn fun h' o F' N' hd => kk h' o F' N' (fun p hp => Heap.lt_size (N p hp).1) (F.notModules (modules_low hbig)) ⟨_, hd, Nat.le_refl _, rfl⟩
end
/-! ## a for over a made tuple -/
section
variable {prog : Program} {w : World} {A : Around} {E : Value → Shared → Prop} {s : Shared} {env : Env} {h₀ : Heap} {body : List Stmt} {Q : Flow → Shared → Prop}
theorem tupJ {y : Str} {py : Pos} {l : Addr} {its : Array Value} {nn : Nat} {m₀ : Str → Option Value} {news : List (Addr × Obj)} (st : List Str) (J : Nat → List (Addr × Obj) → Prop)
    (hh : A.handled = none) (F : Fr h₀ env.locals s.heap m₀) (N : News h₀ env.locals s.heap news) (hl : (l, tupN its nn) ∈ news) (hk : ∀ i news₁, J i news₁ → (l, tupN its nn) ∈ news₁) (h0 : J 0 news)
    (turn : ∀ (I i : Nat) v u news₁ h₁ tk₁ o1, s.heap.objs.size ≤ I → its[i]? = some v → J i news₁ → o1.cls = .type "tuple_iterator" → Fr h₀ env.locals h₁ (over st u m₀) → News h₀ env.locals h₁ ((I, o1) :: news₁) →
      wpAny (model prog w) A (assign (.Name y py) env v) (fun _ s₃ => wpAny (model prog w) A (execs body env) (TurnPost h₀ env.locals [(I, o1)] (fun m' n' => (∀ y, st.contains y = false → m' y = m₀ y) ∧ J (i + 1) n') { s with heap := h₁, toks := tk₁ } Q) E s₃) E { s with heap := h₁, toks := tk₁ })
    (done : ∀ u news₁ h tk, J its.size news₁ → Fr h₀ env.locals h (over st u m₀) → News h₀ env.locals h news₁ → Q .next { s with heap := h, toks := tk }) :
    wpAny (model prog w) A (pyIter (.ref l)) (fun it s₂ => TurnsAt prog w A h₀ env (.Name y py) body Q E it s₂) E s := by
  have hget := N _ hl
  have hL : s.heap.IsTuple l its := ⟨_, hget.1, rfl, _, rfl⟩
  have hlt : l < s.heap.objs.size := Heap.lt_size hget.1
  have hLs : env.locals < s.heap.objs.size := F.ns.lt
  have fresh : ∀ b, s.heap.objs.size ≤ b → h₀.get? b = none := fun b hb => by
    cases e : h₀.get? b with
    | none => rfl
    | some o => exact absurd (Heap.lt_size (F.keep _ _ e)) (Nat.not_lt.mpr hb)
  have keep1 : ∀ b o, s.heap.get? b = some o → (s.heap.push { cls := .type "tuple_iterator", data := .fields #[.ref l, .int 0 0] }).get? b = some o := fun b o e => Heap.get?_push_of_some _ e
  refine wpAny_pyIter_tuple hL ?_
  refine turnsJ (tk0 := s.toks) [(s.heap.objs.size, "tuple_iterator")] (fun i m₁ n₁ => (∀ y, st.contains y = false → m₁ y = m₀ y) ∧ J i n₁)
    (KTurns.ofWalks (Walks.tuple hh s.heap.objs.size l (Nat.ne_of_lt hlt) its) fun i v s Q E _ q => by unfold letOwnedTupleGo; exact wpAny_pure q) ?_ ?_ ?_ ?_ ?_ ?_ ?_ ?_ (F.keeps keep1) (N.grown keep1) ⟨fun _ _ => rfl, h0⟩ ?_ (fun m₁ n₁ h tk hJ F₁ N₁ => done m₁ n₁ h tk hJ.2 (over_self hJ.1 ▸ F₁) N₁)
  · rintro i h ⟨⟨o, ho, hc, _⟩, _⟩
    exact ⟨[(s.heap.objs.size, o)], ⟨⟨rfl, hc⟩, trivial⟩, fun p hp => by rw [List.mem_singleton.mp hp]; exact ho⟩
  · intro b hb
    rw [List.mem_singleton.mp hb]; exact ⟨by simp, fresh _ (Nat.le_refl _)⟩
  · intro x hx
    rw [List.mem_singleton.mp hx]; rfl
  · intro b hb; simpa using hb
  · intro b hb
    rcases List.mem_cons.mp hb with rfl | hb
    · exact .inl (by simp)
    · rw [List.mem_singleton.mp hb]
      exact .inr (.inr ⟨_, fun i m₁ n₁ hJ => hk i n₁ hJ.2⟩)
  · intro hb
    rcases List.mem_cons.mp hb with e | hb
    · exact absurd hLs (e ▸ Nat.lt_irrefl _)
    · exact hget.2.1 (List.mem_singleton.mp hb).symm
  · intro p hp hb
    exact absurd (Heap.lt_size (N p hp).1) ((List.mem_singleton.mp hb) ▸ Nat.lt_irrefl _)
  · exact ⟨⟨_, Heap.get?_push_size _ rfl, rfl, rfl⟩, hL.at fun o e => keep1 _ _ e⟩
  · rintro i v m₁ news₁ h₁ tk₁ its' hin hv hJ hits F₁ N₁
    match its', hits with
    | [(a1, o1)], hits =>
      obtain ⟨⟨e1, c1⟩, _⟩ := hits
      have e1' : a1 = s.heap.objs.size := e1
      subst e1'
      exact turn _ i v m₁ news₁ h₁ tk₁ o1 (Nat.le_refl _) hv hJ.2 c1 (over_self hJ.1 ▸ F₁) N₁
    | [], hits => exact (show False from hits).elim
    | _ :: _ :: _, hits => exact (show False from hits.2).elim
def StoreEnd (prog : Program) (w : World) (h₀ : Heap) (L : Addr) (y : Str) (mB : Str → Option Value) (its : List (Addr × Obj)) (g : Obj → List (Addr × Obj)) (n : Nat) (P : Option Value → Prop) (s₁ : Shared) (f : Flow) (s₂ : Shared) : Prop :=
  f = .next ∧ ∃ h' tk m' all od, s₂ = { s₁ with heap := h', toks := tk } ∧ Fr h₀ L h' m' ∧ News h₀ L h' all ∧ (∀ p ∈ its, p ∈ all) ∧ (∀ p ∈ g od, p ∈ all) ∧ (∀ z, [y].contains z = false → m' z = mB z) ∧ DLen prog w od n P
theorem StoreEnd.intro {L : Addr} {y : Str} {mB m' : Str → Option Value} {its all : List (Addr × Obj)} {g : Obj → List (Addr × Obj)} {n : Nat} {P : Option Value → Prop} {s₁ : Shared} {h' : Heap} {tk : Nat} {od : Obj} (F : Fr h₀ L h' m') (N : News h₀ L h' all) (hi : ∀ p ∈ its, p ∈ all) (hd : DLen prog w od n P) (hg : ∀ p ∈ g od, p ∈ all)
    (hs : ∀ z, [y].contains z = false → m' z = mB z) : StoreEnd prog w h₀ L y mB its g n P s₁ .next { s₁ with heap := h', toks := tk } := ⟨rfl, h', tk, m', all, od, rfl, F, N, hi, hg, hs, hd⟩
theorem for_store {y : Str} {py : Pos} {T : Addr} {its : Array Value} {nn : Nat} {names : List Str} {o0 : Obj} {n0 : Nat} (g : Obj → List (Addr × Obj)) {mB : Str → Option Value} (P : Nat → Option Value → Prop) (hh : A.handled = none) (F : Fr h₀ env.locals s.heap mB) (N : News h₀ env.locals s.heap (g o0))
    (hT : ∀ o, (T, tupN its nn) ∈ g o) (hc : ∀ o, o.cls = .type "dict" → ∀ p ∈ g o, itCls p.2.cls = false) (hs : StrsAre its.toList names) (hd : DLen prog w o0 n0 (P 0))
    (turn : ∀ (I : Addr) (i : Nat) k t u od h₁ tk₁ o1, s.heap.objs.size ≤ I → names[i]? = some k → DLen prog w od (n0 + i) (P i) → o1.cls = .type "tuple_iterator" → Fr h₀ env.locals h₁ (over [y] u mB) → News h₀ env.locals h₁ ((I, o1) :: g od) →
      wpAny (model prog w) A (assign (.Name y py) env (.str k t)) (fun _ s₃ => wpAny (model prog w) A (execs body env) (StoreEnd prog w h₀ env.locals y mB [(I, o1)] g (n0 + i + 1) (P (i + 1)) { s with heap := h₁, toks := tk₁ }) E s₃) E { s with heap := h₁, toks := tk₁ })
    (done : ∀ u od h tk, DLen prog w od (n0 + names.length) (P names.length) → Fr h₀ env.locals h (over [y] u mB) → News h₀ env.locals h (g od) → Q .next { s with heap := h, toks := tk }) :
    wpAny (model prog w) A (pyIter (.ref T)) (fun it s₂ => TurnsAt prog w A h₀ env (.Name y py) body Q E it s₂) E s := by
  have hlen := strs_length hs
  refine tupJ [y] (fun i n₁ => ∃ od, n₁ = g od ∧ DLen prog w od (n0 + i) (P i)) hh F N (hT _) (fun i n₁ ⟨od, e, _⟩ => e ▸ hT od) ⟨o0, rfl, hd⟩ ?_ ?_
  · rintro I i v u n₁ h₁ tk₁ o1 hI hv ⟨od, rfl, hod⟩ ho1 F₁ N₁
    obtain ⟨k, t, hk, rfl⟩ := strs_get hs (i := i) (v := v) (by simpa using hv)
    refine wpAny_mono (turn I i k t u od h₁ tk₁ o1 hI hk hod ho1 F₁ N₁) (fun _ s₃ h₃ => wpAny_mono h₃ (fun f s₄ hf => ?_) fun _ _ e => e) fun _ _ e => e
    obtain ⟨rfl, h', tk, m', all, od', rfl, F', N', hi, hg, hs', hd'⟩ := hf
    exact TurnEnd.intro (g od') F' N' hi hg (hc od' hd'.cls) ⟨hs', od', rfl, hd'⟩
  · rintro u n₁ h tk ⟨od, rfl, hod⟩ F₁ N₁
    have e : its.size = names.length := by rw [← hlen]; simp
    rw [e] at hod
    exact done u od h tk hod F₁ N₁
end
theorem For_turnsL {prog : Program} {w : World} {A : Around} {E : Value → Shared → Prop} {s : Shared} {env : Env} {h₀ : Heap} {L : Addr} {target : Expr} {body : List Stmt} {Q : Flow → Shared → Prop} {iter : Expr} {pos : Pos} {m : Str → Option Value} (F : Fr h₀ L s.heap m) (hL : env.locals = L)
    (h : wpAny (model prog w) A (eval iter env) (fun xv s₁ => wpAny (model prog w) A (pyIter xv) (fun it s₂ => TurnsAt prog w A h₀ env target body Q E it s₂) E s₁) E s)
    (hs : ∀ x, foldedSetIterable iter env x = pure x) (hE : PassesOwn (model prog w) A env E) :
    wpAny (model prog w) A (exec (.For target iter body [] pos) env) Q E s := by
  subst hL
  exact For_turns F h hs hE
end Gen8part
section V14part
theorem lines18 : True := by
  k_with_none
  (k_with "k_inst" => exact IsInst.at (by assumption) (by k_asm))
  (k_with "compareOp In str ref" => (k_here; (first | (with_reducible refine' in_22 ?Fq353w ?Xq353w ?_) | (with_reducible refine' in_23 ?Fq353w ?Xq353w ?_) | (with_reducible refine' in_24 ?Fq353w ?Xq353w ?_) | (with_reducible refine' in_25 ?Fq353w ?Xq353w ?_) | (with_reducible refine' in_26 ?Fq353w ?Xq353w ?_)); (case Fq353w => k_asm); (case Xq353w => k_asm); k_whole))
  (k_with "compareOp NotIn str ref" => (k_here; (with_reducible refine' notin_22 ?Fq354w ?Xq354w ?_); (case Fq354w => k_asm); (case Xq354w => k_asm); k_whole))
  (k_with "exec For Tuple Call cons nil" => (k_here; (rename Fr _ _ _ _ => lFzz); (with_unfolding_all refine' For_turns lFzz ?_; k_whole)))
  (k_with "call type:enumerate" => (k_here; (with_reducible show wpAny _ _ (call (Value.type _) [Value.ref _]) (fun xv s₁ => wpAny _ _ (pyIter xv) (fun it s₂ => TurnsAt _ _ _ _ _ _ _ _ _ it s₂) _ s₁) _ _); refine halt_ ?_))
  (k_with "TurnPost" => (dsimp only [TurnPost]))
  (k_with "compareOp In str ref" => (k_here; k_dflt (first | (refine' in_made isHang ?Nq358w ?mq358w ?iq358w ?pq358w ?_; (case Nq358w => k_asm); (case mq358w => k_mem); (case iq358w => repeat constructor); (case pq358w => rfl); k_whole) | (refine' in_made isPara ?Nq358w ?mq358w ?iq358w ?pq358w ?_; (case Nq358w => k_asm); (case mq358w => k_mem); (case iq358w => repeat constructor); (case pq358w => rfl); k_whole) | (refine' in_made isLetterS ?Nq358w ?mq358w ?iq358w ?pq358w ?_; (case Nq358w => k_asm); (case mq358w => k_mem); (case iq358w => repeat constructor); (case pq358w => rfl); k_whole) | (refine' in_made isStayS ?Nq358w ?mq358w ?iq358w ?pq358w ?_; (case Nq358w => k_asm); (case mq358w => k_mem); (case iq358w => repeat constructor); (case pq358w => rfl); k_whole))))
  (k_with "compareOp NotIn str ref" => (k_here; k_dflt (first | (refine' notin_made isTerm ?Nq359w ?mq359w ?iq359w ?pq359w ?_; (case Nq359w => k_asm); (case mq359w => k_mem); (case iq359w => repeat constructor); (case pq359w => rfl); k_whole) | (refine' notin_made isPara ?Nq359w ?mq359w ?iq359w ?pq359w ?_; (case Nq359w => k_asm); (case mq359w => k_mem); (case iq359w => repeat constructor); (case pq359w => rfl); k_whole))))
  (k_with "compareOp NotEq ref ref" => (k_here; k_dflt (refine' ne_unitsK ?Nq360w ?aq360w ?uq360w ?sq360w ?bq360w ?oq360w ?rq360w ?_; (case Nq360w => k_asm); (case aq360w => k_mem); (case uq360w => assumption); (case sq360w => kcf_all); (case bq360w => k_mem); (case oq360w => assumption); (case rq360w => ktr_units); k_whole)))
  (k_with "subscriptTail" => (k_here; (with_reducible show wpAny _ _ (subscriptTail _ _ (Value.ref _) (Value.int (-1) _)) _ _ _); k_dflt (refine' item_lastN ?Nq361w ?aq361w ?_ ?hq361w; (case Nq361w => k_asm); (case aq361w => k_mem); (case hq361w => with_unfolding_all rfl); k_whole)))
  (k_with "subscriptTail" => (k_here; (first | ((with_reducible show wpAny _ _ (subscriptTail _ _ (Value.ref _) (Value.int 0 _)) _ _ _); k_dflt (refine' item3_0 ?Nq362w ?aq362w ?sq362w ?_ ?hq362w; (case Nq362w => k_asm); (case aq362w => with_reducible assumption); (case sq362w => kcf_all); (case hq362w => with_unfolding_all rfl); k_whole)) | ((with_reducible show wpAny _ _ (subscriptTail _ _ (Value.ref _) (Value.int 1 _)) _ _ _); k_dflt (refine' item3_1 ?Nq362w ?aq362w ?sq362w ?_ ?hq362w; (case Nq362w => k_asm); (case aq362w => with_reducible assumption); (case sq362w => kcf_all); (case hq362w => with_unfolding_all rfl); k_whole)) | ((with_reducible show wpAny _ _ (subscriptTail _ _ (Value.ref _) (Value.int 2 _)) _ _ _); k_dflt (refine' item3_2 ?Nq362w ?aq362w ?sq362w ?_ ?hq362w; (case Nq362w => k_asm); (case aq362w => with_reducible assumption); (case sq362w => kcf_all); (case hq362w => with_unfolding_all rfl); k_whole)))))
  (k_with "setItem ref int ref" => (k_here; k_dflt (refine' setLast_K ?Fq363w ?Nq363w ?Uq363w ?_; (case Fq363w => k_asm); (case Nq363w => k_asm); (case Uq363w => k_upd); k_whole); intro _ _ _; (try k_sweep)))
  (k_with "k_all" => assumption)
  (k_with "size_fits" => ((rw [PySem.sizeLine_eq]); (simp only [List.size_toArray, List.length_append, List.length_cons, List.length_nil]); omega))
  (k_with "CompSrcT" => (k_here; k_dflt (refine' LCt.CompSrcT.ledger ?hhq366w ?Fq366w ?Nq366w ?mq366w ?zq366w ?_; (case hhq366w => exact rfl); (case Fq366w => k_asm); (case Nq366w => k_asm); (case mq366w => k_mem); (case zq366w => size_fits)); intro _; refine halt_ ?_))
  (k_with "exec Assign cons ListComp" => (k_here; lct_look; k_dflt (refine LCt.Assign_ListComp_T (F₀ := by k_asm) (by rfl) (by with_unfolding_all rfl) (by with_unfolding_all rfl) (by decide) (by rfl) (by decide) (by rfl) (by rfl) (by rfl) ?_)))
  (k_with "CompEnd" => (refine LCg.CompEnd.intro (by assumption) (by assumption) _ (fun _ h9 => h9) (by first | assumption | (simp only [LCg.Off3, and_true]; assumption)) (by lcg_src) ?_; first | exact ⟨⟨_, rfl⟩, rfl, by first | assumption | exact decide_eq_true (by assumption)⟩ | exact ⟨rfl, by first | assumption | exact decide_eq_false (by assumption)⟩))
  (k_with "call builtin:len" => (k_here; (with_reducible show wpAny _ _ (call (Value.builtin "len") [Value.ref _]) _ _ _); k_dflt (refine' kst_len ?k1q369w ?k2q369w ?k3q369w ?k4q369w ?_; (case k1q369w => k_asm); (case k2q369w => k_mem); (case k3q369w => exact rfl); (case k4q369w => omega); k_whole)))
  (k_with "subscriptTail Name Slice ref ref" => (k_here; (with_reducible show wpAny _ _ (subscriptTail _ (PySem.Expr.Slice _ _ none _) (Value.ref _) (Value.ref _)) _ _ _); k_dflt (refine' slice_K ?Fq370w ?Nq370w ?lq370w ?pq370w ?qq370w ?_ ?sq370w ?tq370w ?zq370w; (case Fq370w => k_asm); (case Nq370w => k_asm); (case lq370w => first | exact News.isList (by k_asm) (by k_mem) | exact listBase (by k_asm) (by assumption)); (case pq370w => kmk_part); (case qq370w => kmk_part); (case sq370w => with_unfolding_all rfl); (case tq370w => kmk_pure); (case zq370w => size_fits)); intro _ _ _ Nzz l1zz; (try k_lt l1zz); (try dsimp only at Nzz); (try k_sweep)))
  (k_with "compareOp In ref ref" => (k_here; k_dflt (refine' in_two ?Nq371w ?xq371w ?vq371w ?tq371w ?aq371w ?vaq371w ?bq371w ?vbq371w ?okq371w ?okaq371w ?okbq371w ?uq371w ?_; (case Nq371w => k_asm); (case xq371w => k_mem); (case vq371w => exact strs_pick (by assumption)); (case tq371w => k_mem); (case aq371w => k_mem); (case vaq371w => exact .cons _ _ .nil); (case bq371w => k_mem); (case vbq371w => exact .cons _ _ .nil); (case okq371w => exact pick_sub (by assumption)); (case okaq371w => decide +kernel); (case okbq371w => decide +kernel); (case uq371w => ktr_units); k_whole)))
  (k_with "exec While" => (k_here; refine halt_ ?_))
  (k_with "compareOp NotEq ref ref" => (k_here; k_dflt (first | (refine' ne_bothK ?Nq373w ?aq373w ?bq373w ?uq373w ?_; (case Nq373w => k_asm); (case aq373w => k_mem); (case bq373w => k_mem); (case uq373w => ktr_units); k_whole) | (refine' ne_snocK ?Nq373w ?aq373w ?vq373w ?bq373w ?oq373w ?uq373w ?_; (case Nq373w => k_asm); (case aq373w => k_mem); (case vq373w => assumption); (case bq373w => k_mem); (case oq373w => assumption); (case uq373w => ktr_units); k_whole))))
  (k_with "compareOp Eq ref ref" => (k_here; k_dflt (first | (refine' eq_bothK ?Nq374w ?aq374w ?bq374w ?uq374w ?_; (case Nq374w => k_asm); (case aq374w => k_mem); (case bq374w => k_mem); (case uq374w => ktr_units); k_whole) | (refine' eq_snocK ?Nq374w ?aq374w ?vq374w ?bq374w ?oq374w ?uq374w ?_; (case Nq374w => k_asm); (case aq374w => k_mem); (case vq374w => assumption); (case bq374w => k_mem); (case oq374w => assumption); (case uq374w => ktr_units); k_whole))))
  (k_with "call builtin:list.pop" => (k_here; (with_reducible show wpAny _ _ (call (Value.builtin _) [Value.ref _]) _ _ _); k_dflt (refine' pop_snoc ?Fq375w ?Nq375w ?Uq375w ?zq375w ?_; (case Fq375w => k_asm); (case Nq375w => k_asm); (case Uq375w => k_upd); (case zq375w => size_fits); k_whole); intro _ _ _; (try k_sweep)))
  (k_with "call ref" => (k_here; refine halt_ ?_))
  (k_with "k_ne" => (apply nn8; (try dsimp only); with_reducible ((fail_if_success show @Ne Nat 987654321 _); (fail_if_success show @Ne Nat _ 987654321); first | assumption | (apply nq1; assumption) | (apply nq2; assumption) | (apply nq3; assumption) | (apply nc1; assumption; (first | exact And.left | exact fun z => z.2.1 | exact fun z => z.2.2.1 | exact fun z => z.2.2.2.1 | exact fun z => z.2.2.2.2.1 | exact fun z => z.2.2.2.2.2.1 | exact fun z => z.2.2.2.2.2.2.1 | exact fun z => z.2.2.2.2.2.2.2.1 | exact fun z => z.2.2.2.2.2.2.2.2.1 | exact fun z => z.2.2.2.2.2.2.2.2.2.1 | exact fun z => z.2.2.2.2.2.2.2.2.2.2.1 | exact fun z => z.2.2.2.2.2.2.2.2.2.2.2.1 | exact fun z => z.2.2.2.2.2.2.2.2.2.2.2.2.1 | exact fun z => z.2.2.2.2.2.2.2.2.2.2.2.2.2.1 | exact And.right | exact fun z => z.2.2 | exact fun z => z.2.2.2 | exact fun z => z.2.2.2.2 | exact fun z => z.2.2.2.2.2 | exact fun z => z.2.2.2.2.2.2 | exact fun z => z.2.2.2.2.2.2.2 | exact fun z => z.2.2.2.2.2.2.2.2 | exact fun z => z.2.2.2.2.2.2.2.2.2 | exact fun z => z.2.2.2.2.2.2.2.2.2.2 | exact fun z => z.2.2.2.2.2.2.2.2.2.2.2 | exact fun z => z.2.2.2.2.2.2.2.2.2.2.2.2 | exact fun z => z.2.2.2.2.2.2.2.2.2.2.2.2.2)) | (apply nc2; assumption; (first | exact And.left | exact fun z => z.2.1 | exact fun z => z.2.2.1 | exact fun z => z.2.2.2.1 | exact fun z => z.2.2.2.2.1 | exact fun z => z.2.2.2.2.2.1 | exact fun z => z.2.2.2.2.2.2.1 | exact fun z => z.2.2.2.2.2.2.2.1 | exact fun z => z.2.2.2.2.2.2.2.2.1 | exact fun z => z.2.2.2.2.2.2.2.2.2.1 | exact fun z => z.2.2.2.2.2.2.2.2.2.2.1 | exact fun z => z.2.2.2.2.2.2.2.2.2.2.2.1 | exact fun z => z.2.2.2.2.2.2.2.2.2.2.2.2.1 | exact fun z => z.2.2.2.2.2.2.2.2.2.2.2.2.2.1 | exact And.right | exact fun z => z.2.2 | exact fun z => z.2.2.2 | exact fun z => z.2.2.2.2 | exact fun z => z.2.2.2.2.2 | exact fun z => z.2.2.2.2.2.2 | exact fun z => z.2.2.2.2.2.2.2 | exact fun z => z.2.2.2.2.2.2.2.2 | exact fun z => z.2.2.2.2.2.2.2.2.2 | exact fun z => z.2.2.2.2.2.2.2.2.2.2 | exact fun z => z.2.2.2.2.2.2.2.2.2.2.2 | exact fun z => z.2.2.2.2.2.2.2.2.2.2.2.2 | exact fun z => z.2.2.2.2.2.2.2.2.2.2.2.2.2)) | (apply nc3; assumption; (first | exact And.left | exact fun z => z.2.1 | exact fun z => z.2.2.1 | exact fun z => z.2.2.2.1 | exact fun z => z.2.2.2.2.1 | exact fun z => z.2.2.2.2.2.1 | exact fun z => z.2.2.2.2.2.2.1 | exact fun z => z.2.2.2.2.2.2.2.1 | exact fun z => z.2.2.2.2.2.2.2.2.1 | exact fun z => z.2.2.2.2.2.2.2.2.2.1 | exact fun z => z.2.2.2.2.2.2.2.2.2.2.1 | exact fun z => z.2.2.2.2.2.2.2.2.2.2.2.1 | exact fun z => z.2.2.2.2.2.2.2.2.2.2.2.2.1 | exact fun z => z.2.2.2.2.2.2.2.2.2.2.2.2.2.1 | exact And.right | exact fun z => z.2.2 | exact fun z => z.2.2.2 | exact fun z => z.2.2.2.2 | exact fun z => z.2.2.2.2.2 | exact fun z => z.2.2.2.2.2.2 | exact fun z => z.2.2.2.2.2.2.2 | exact fun z => z.2.2.2.2.2.2.2.2 | exact fun z => z.2.2.2.2.2.2.2.2.2 | exact fun z => z.2.2.2.2.2.2.2.2.2.2 | exact fun z => z.2.2.2.2.2.2.2.2.2.2.2 | exact fun z => z.2.2.2.2.2.2.2.2.2.2.2.2 | exact fun z => z.2.2.2.2.2.2.2.2.2.2.2.2.2)) | (apply nc4; assumption; (first | exact And.left | exact fun z => z.2.1 | exact fun z => z.2.2.1 | exact fun z => z.2.2.2.1 | exact fun z => z.2.2.2.2.1 | exact fun z => z.2.2.2.2.2.1 | exact fun z => z.2.2.2.2.2.2.1 | exact fun z => z.2.2.2.2.2.2.2.1 | exact fun z => z.2.2.2.2.2.2.2.2.1 | exact fun z => z.2.2.2.2.2.2.2.2.2.1 | exact fun z => z.2.2.2.2.2.2.2.2.2.2.1 | exact fun z => z.2.2.2.2.2.2.2.2.2.2.2.1 | exact fun z => z.2.2.2.2.2.2.2.2.2.2.2.2.1 | exact fun z => z.2.2.2.2.2.2.2.2.2.2.2.2.2.1 | exact And.right | exact fun z => z.2.2 | exact fun z => z.2.2.2 | exact fun z => z.2.2.2.2 | exact fun z => z.2.2.2.2.2 | exact fun z => z.2.2.2.2.2.2 | exact fun z => z.2.2.2.2.2.2.2 | exact fun z => z.2.2.2.2.2.2.2.2 | exact fun z => z.2.2.2.2.2.2.2.2.2 | exact fun z => z.2.2.2.2.2.2.2.2.2.2 | exact fun z => z.2.2.2.2.2.2.2.2.2.2.2 | exact fun z => z.2.2.2.2.2.2.2.2.2.2.2.2 | exact fun z => z.2.2.2.2.2.2.2.2.2.2.2.2.2)))))
  (k_with "k_upd" => first | (apply uh8; k_all) | (apply ut8; k_ne; k_upd))
  (k_with "k_updF" => first | (apply fh8; k_all) | (apply ft8; k_ne; k_updF))
  (k_with "k_all" => first | exact List.forall_mem_nil _ | (apply an8; k_ne; k_all))
  (k_with "kcf_all" => first | exact fun _ hp => hp | (apply sb8; (focus kcf_m); kcf_all))
  (k_with "ktr_units" => first | exact uu2 hu rfl | exact uu1 hu rfl | exact uu3 hu rfl | exact uu4 hu rfl)
  (k_with "ktr_room" => first | exact uu2 hdp rfl | exact uu1 hdp rfl | exact uu3 hdp rfl | exact uu4 hdp rfl)
  (k_with "subscriptTail Name UnaryOp ref int" => k_extra "subscriptTail")
  (k_with "exec For Name Tuple cons nil" => (k_here; (rename Fr _ _ _ _ => lFzz); (with_reducible refine For_turnsL lFzz (by with_unfolding_all rfl) ?_ (by with_unfolding_all (intro _; rfl)) (by with_unfolding_all passes_own))))
  (k_with "pyIter ref" => (k_here; refine halt_ ?_))
  (k_with "Exists" => (k_here; refine made_D (by k_asm) (by first | k_asm | exact News.nil) (Top.nolimit (by k_asm)) (by rfl) (of_decide_eq_true (by rfl)) ?_; intro _ _ _ _ l1zz _ _; (try k_lt l1zz)))
  (k_with "setItem ref str" => (k_here; k_dflt (refine' set_D ?Fq388w ?Nq388w ?dq388w ?Uq388w ?zq388w ?_; (case Fq388w => k_asm); (case Nq388w => k_asm); (case dq388w => assumption); (case Uq388w => k_updF); (case zq388w => omega)); intro _ _ _ Nzz _; (try dsimp only at Nzz)))
  exact trivial
theorem fresh_in {h₀ h : Heap} {L f : Addr} {o : Obj} {all : List (Addr × Obj)} (N : News h₀ L h all) (hf : (f, o) ∈ all) : h₀.get? f = none := (N _ hf).2.2
set_option maxRecDepth 100000 in
set_option maxHeartbeats 1000000 in
theorem C_defaults {w : World} {mean : ExcName → Option Value} {mg mb : Str → Option Value} {dp un : Nat} {gd : Option (List Code)} {cn : Str} {cs : Scope} {a : Addr} {ccd : Value} {cl : List (Str × Addr)} {outer : List Env} {A₀ : Around} {base h₀ : Heap} {L : Addr} {m : Str → Option Value} {s : Shared} {Q E : Value → Shared → Prop} (B : Below A₀ base outer h₀) (F : Fr h₀ L s.heap m) (X : (hd.heap_1 w.params).In h₀) (T : (Top view9 (looseW view9 []) mean mg mb h₀)) (hk : cs.kind = .function) {news : List (Addr × Obj)}
    (N : News h₀ L s.heap news)
    (hdp : dp + 8 < recursionLimit) (hu : un + 300 < cLine)
    (hret : ∀ df od n h' tk', s.heap.StaysIn h' → Fr h₀ L h' m → News h₀ L h' ((df, od) :: news) → DLen PySem.Challenge.rw_on0369_01.row.prog w od n (fun x => ∃ t, x = some (.str (Str.ofString "Other") t)) → (df == sysModules) = false → s.heap.get? df = none → Q (.ref df) { s with heap := h', toks := tk' }) :
    wpAny (model PySem.Challenge.rw_on0369_01.row.prog w) (ktrTop dp un gd cn cs L a ccd cl outer) (call (.ref 150) []) Q E s := by
  w_top off
  refine wpAny_call ?_
  k_dflt (refine' code_def0 ?k1 ?k2 ?k3 ?k5 ?kA ?kF ?kK ?k6 ?k7 ?k8 ?k9 ?kB ?_ ?c2 ?c3 ?c4 ?c5; (case kA => exact rfl); (case kF => exact rfl); (case kK => assumption); (case k1 => k_asm); (case k2 => k_asm); (case k3 => k_asm); (case k5 => k_asm); (case k6 => k_is); (case k7 => k_is); (case k8 => ktr_room); (case k9 => exact BindsTo.of_eq rfl); (case c5 => decide); (case kB => exact locs rfl); (case c2 => exact rfl); (case c3 => exact rfl); (case c4 => exact rfl); k_whole; intro L' h' F' N' B' X' T'; (try dsimp only); (try k_fold))
  k_steps
  rename_i h1 od1 hs1 hd1 h2 T1 h3 F1 N1 l2
  have hd8 : DLen PySem.Challenge.rw_on0369_01.row.prog w od1 8 (fun _ => True) := hd1.mono fun _ _ => trivial
  clear hd1
  generalize h'.objs.size = f at *
  refine Halt.go (for_store (fun o => [(T1, _), (_, o)]) (names := [Str.ofString "gcb", Str.ofString "wb", Str.ofString "sb"]) (fun i x => i = 3 → ∃ t, x = some (.str (Str.ofString "Other") t)) rfl F1 N1 (fun _ => .head _) (fun o ho => List.forall_mem_cons.mpr ⟨rfl, List.forall_mem_cons.mpr ⟨by rw [ho]; rfl, fun _ h => nomatch h⟩⟩) (by repeat constructor) (hd8.mono fun _ _ h => absurd h (by decide)) ?_ ?_)
  · intro I i k t u od h4 tk4 o1 hI hk hod ho1 F4 N4
    have hI1 : @LT.lt Nat _ T1 I := Nat.lt_of_lt_of_le (Heap.lt_size (N1 _ (.head _)).1) hI
    have hI2 := Nat.lt_of_lt_of_le (Heap.lt_size (N1 _ (.tail _ (.head _))).1) hI
    clear hd8
    have hi3 : i < 3 := (List.getElem?_eq_some_iff.mp hk).1
    (try k_fold)
    k_steps
    (with_reducible rename DLen _ _ _ _ _ => hd9)
    refine StoreEnd.intro (by assumption) (by assumption) (by kcf_all) (hd9.mono ?_) (by kcf_all) (by (intro y hy; have hy' := hy; simp only [List.contains_cons, List.contains_nil, Bool.or_false, Bool.or_eq_false_iff, beq_eq_false_iff_ne, ne_eq] at hy'; (first | simp only [hy', if_false, and_self, not_false_eq_true, over_off hy] | simp [hy', over_off hy])))
    rintro x' ⟨x, hx, e⟩ hi
    obtain rfl : i = 2 := by omega
    have hk' := Option.some.inj hk
    subst hk'
    exact ⟨_, by rw [e]; exact if_pos rfl⟩
  · intro u od h4 tk4 hod F4 N4
    have hod2 : DLen PySem.Challenge.rw_on0369_01.row.prog w od 11 (fun x => ∃ t, x = some (.str (Str.ofString "Other") t)) := hod.mono fun x h => h rfl
    clear hod hd8
    (try k_fold)
    k_steps
    rename_i T2 h2a F2a N2a l2a
    refine Halt.go (for_store (fun o => [(T2, _), (T1, _), (f, o)]) (names := [Str.ofString "ex", Str.ofString "sd", Str.ofString "cased", Str.ofString "ci", Str.ofString "ep", Str.ofString "di", Str.ofString "ids", Str.ofString "idc", Str.ofString "xids", Str.ofString "xidc", Str.ofString "pat_syn", Str.ofString "pat_ws", Str.ofString "idst"]) (fun i x => ∃ t, x = some (.str (Str.ofString "Other") t)) rfl F2a N2a (fun _ => .head _) (fun o ho => List.forall_mem_cons.mpr ⟨rfl, List.forall_mem_cons.mpr ⟨rfl, List.forall_mem_cons.mpr ⟨by rw [ho]; rfl, fun _ h => nomatch h⟩⟩⟩) (by repeat constructor) hod2 ?_ ?_)
    · intro I i k t u2 od2 h5 tk5 o1 hI hk hod5 ho1 F5 N5
      have hne : ∀ k ∈ [Str.ofString "ex", Str.ofString "sd", Str.ofString "cased", Str.ofString "ci", Str.ofString "ep", Str.ofString "di", Str.ofString "ids", Str.ofString "idc", Str.ofString "xids", Str.ofString "xidc", Str.ofString "pat_syn", Str.ofString "pat_ws", Str.ofString "idst"], ¬ Str.ofString "sb" = k := by decide +kernel
      have hI0 := Nat.lt_of_lt_of_le (Heap.lt_size (N2a _ (.head _)).1) hI
      have hI1 := Nat.lt_of_lt_of_le (Heap.lt_size (N2a _ (.tail _ (.head _))).1) hI
      have hI2 := Nat.lt_of_lt_of_le (Heap.lt_size (N2a _ (.tail _ (.tail _ (.head _)))).1) hI
      have hi3 : i < 13 := (List.getElem?_eq_some_iff.mp hk).1
      clear hod2
      (try k_fold)
      k_steps
      (with_reducible rename DLen _ _ _ _ _ => hd9)
      refine StoreEnd.intro (by assumption) (by assumption) (by kcf_all) (hd9.mono ?_) (by kcf_all) (by (intro y hy; have hy' := hy; simp only [List.contains_cons, List.contains_nil, Bool.or_false, Bool.or_eq_false_iff, beq_eq_false_iff_ne, ne_eq] at hy'; (first | simp only [hy', if_false, and_self, not_false_eq_true, over_off hy] | simp [hy', over_off hy])))
      rintro x' ⟨x, ⟨t9, hx⟩, e⟩
      exact ⟨t9, by rw [e, if_neg (hne k (List.mem_of_getElem? hk))]; exact hx⟩
    · intro u2 od2 h5 tk5 hod5 F5 N5
      clear hod2
      have hod2 : DLen PySem.Challenge.rw_on0369_01.row.prog w od2 24 (fun x => ∃ t, x = some (.str (Str.ofString "Other") t)) := hod5
      clear hod5
      (try k_fold)
      k_steps
      rename_i T3 h3a F3a N3a l3a
      refine Halt.go (for_store (fun o => [(T3, _), (T2, _), (T1, _), (f, o)]) (names := [Str.ofString "dm", Str.ofString "uc", Str.ofString "lc", Str.ofString "tc", Str.ofString "cf", Str.ofString "bm", Str.ofString "bpb", Str.ofString "scx", Str.ofString "nt", Str.ofString "nv", Str.ofString "name", Str.ofString "conf", Str.ofString "nfkc_cf"]) (fun i x => ∃ t, x = some (.str (Str.ofString "Other") t)) rfl F3a N3a (fun _ => .head _) (fun o ho => List.forall_mem_cons.mpr ⟨rfl, List.forall_mem_cons.mpr ⟨rfl, List.forall_mem_cons.mpr ⟨rfl, List.forall_mem_cons.mpr ⟨by rw [ho]; rfl, fun _ h => nomatch h⟩⟩⟩⟩) (by repeat constructor) hod2 ?_ ?_)
      · intro I i k t u2 od2 h5 tk5 o1 hI hk hod5 ho1 F5 N5
        have hne : ∀ k ∈ [Str.ofString "dm", Str.ofString "uc", Str.ofString "lc", Str.ofString "tc", Str.ofString "cf", Str.ofString "bm", Str.ofString "bpb", Str.ofString "scx", Str.ofString "nt", Str.ofString "nv", Str.ofString "name", Str.ofString "conf", Str.ofString "nfkc_cf"], ¬ Str.ofString "sb" = k := by decide +kernel
        have hI0 := Nat.lt_of_lt_of_le (Heap.lt_size (N3a _ (.head _)).1) hI
        have hI1 := Nat.lt_of_lt_of_le (Heap.lt_size (N3a _ (.tail _ (.head _))).1) hI
        have hI2 := Nat.lt_of_lt_of_le (Heap.lt_size (N3a _ (.tail _ (.tail _ (.head _)))).1) hI
        have hI3 := Nat.lt_of_lt_of_le (Heap.lt_size (N3a _ (.tail _ (.tail _ (.tail _ (.head _))))).1) hI
        have hi3 : i < 13 := (List.getElem?_eq_some_iff.mp hk).1
        clear hod2
        (try k_fold)
        k_steps
        (with_reducible rename DLen _ _ _ _ _ => hd9)
        refine StoreEnd.intro (by assumption) (by assumption) (by kcf_all) (hd9.mono ?_) (by kcf_all) (by (intro y hy; have hy' := hy; simp only [List.contains_cons, List.contains_nil, Bool.or_false, Bool.or_eq_false_iff, beq_eq_false_iff_ne, ne_eq] at hy'; (first | simp only [hy', if_false, and_self, not_false_eq_true, over_off hy] | simp [hy', over_off hy])))
        rintro x' ⟨x, ⟨t9, hx⟩, e⟩
        exact ⟨t9, by rw [e, if_neg (hne k (List.mem_of_getElem? hk))]; exact hx⟩
      · intro u2 od2 h5 tk5 hod5 F5 N5
        clear hod2
        have hod2 : DLen PySem.Challenge.rw_on0369_01.row.prog w od2 37 (fun x => ∃ t, x = some (.str (Str.ofString "Other") t)) := hod5
        clear hod5
        (try k_fold)
        k_steps
        rename_i T4 h4a F4a N4a l4a
        refine Halt.go (for_store (fun o => [(T4, _), (T3, _), (T2, _), (T1, _), (f, o)]) (names := [Str.ofString "suc", Str.ofString "slc", Str.ofString "stc", Str.ofString "alias"]) (fun i x => ∃ t, x = some (.str (Str.ofString "Other") t)) rfl F4a N4a (fun _ => .head _) (fun o ho => List.forall_mem_cons.mpr ⟨rfl, List.forall_mem_cons.mpr ⟨rfl, List.forall_mem_cons.mpr ⟨rfl, List.forall_mem_cons.mpr ⟨rfl, List.forall_mem_cons.mpr ⟨by rw [ho]; rfl, fun _ h => nomatch h⟩⟩⟩⟩⟩) (by repeat constructor) hod2 ?_ ?_)
        · intro I i k t u2 od2 h5 tk5 o1 hI hk hod5 ho1 F5 N5
          have hne : ∀ k ∈ [Str.ofString "suc", Str.ofString "slc", Str.ofString "stc", Str.ofString "alias"], ¬ Str.ofString "sb" = k := by decide +kernel
          have hI0 := Nat.lt_of_lt_of_le (Heap.lt_size (N4a _ (.head _)).1) hI
          have hI1 := Nat.lt_of_lt_of_le (Heap.lt_size (N4a _ (.tail _ (.head _))).1) hI
          have hI2 := Nat.lt_of_lt_of_le (Heap.lt_size (N4a _ (.tail _ (.tail _ (.head _)))).1) hI
          have hI3 := Nat.lt_of_lt_of_le (Heap.lt_size (N4a _ (.tail _ (.tail _ (.tail _ (.head _))))).1) hI
          have hI4 := Nat.lt_of_lt_of_le (Heap.lt_size (N4a _ (.tail _ (.tail _ (.tail _ (.tail _ (.head _)))))).1) hI
          have hi3 : i < 4 := (List.getElem?_eq_some_iff.mp hk).1
          clear hod2
          (try k_fold)
          k_steps
          (with_reducible rename DLen _ _ _ _ _ => hd9)
          refine StoreEnd.intro (by assumption) (by assumption) (by kcf_all) (hd9.mono ?_) (by kcf_all) (by (intro y hy; have hy' := hy; simp only [List.contains_cons, List.contains_nil, Bool.or_false, Bool.or_eq_false_iff, beq_eq_false_iff_ne, ne_eq] at hy'; (first | simp only [hy', if_false, and_self, not_false_eq_true, over_off hy] | simp [hy', over_off hy])))
          rintro x' ⟨x, ⟨t9, hx⟩, e⟩
          exact ⟨t9, by rw [e, if_neg (hne k (List.mem_of_getElem? hk))]; exact hx⟩
        · intro u2 od2 h5 tk5 hod5 F5 N5
          clear hod2
          have hod2 : DLen PySem.Challenge.rw_on0369_01.row.prog w od2 41 (fun x => ∃ t, x = some (.str (Str.ofString "Other") t)) := hod5
          clear hod5
          (try k_fold)
          k_steps
          (with_reducible rename DLen _ _ _ _ _ => hd9)
          (with_reducible rename Fr s.heap _ _ _ => F10)
          (with_reducible rename News s.heap _ _ _ => N10)
          refine hret f _ 42 _ _ F10.keep (by k_asm) ?_ (hd9.mono ?_) hs1 (fresh_in N10 (by k_mem))
          · intro p hp
            rcases List.mem_cons.mp hp with rfl | hp
            · exact news_of (by k_asm) _ (by k_mem)
            · exact news_grow N F10.keep p hp
          · rintro x' ⟨x, ⟨t9, hx⟩, e⟩
            exact ⟨t9, by rw [e, if_neg (by decide +kernel)]; exact hx⟩
end V14part
section Gen9part
set_option maxRecDepth 100000
/-! ## a tuple counted by enumerate -/
section
open PySem.AutoSeq1 (wpAny_loadPart')
variable {prog : Program} {w : World} {A : Around} {E : Value → Shared → Prop} {s : Shared}
theorem nextOf_tup {it t : Addr} {i : Nat} {items : Array Value} {x : Value} {Q : Value → Shared → Prop} (hit : s.heap.IsTupleIter it t i) (ht : s.heap.IsTuple t items) (hx : items[i]? = some x)
    (hQ : ∀ h', h'.IsTupleIter it t (i + 1) → Heap.SameBut it s.heap h' → Q x { s with heap := h' }) : wpAny (model prog w) A (Builtin.SmallTypes.nextOf (.ref it)) Q E s := by
  obtain ⟨oi, hoi, hci, hdi⟩ := id hit
  obtain ⟨ot, hot, _, k, hdt⟩ := ht
  unfold Builtin.SmallTypes.nextOf
  refine wpAny_bind (wpAny_callSpecial?_slot (name := Str.ofString "__next__") hit.typeIs F.slot_tuple_iterator_next (wpAny_call_entry F.slot_tuple_iterator_next hit.typeIs F.entry_tuple_iterator_next ?_ (F.args_tuple_iterator_next_1 _)))
  show wpAny _ _ (field (.ref it) 0 >>= _) _ _ s
  refine wpAny_bind (wpAny_field hoi hdi (x := .ref t) rfl ?_)
  show wpAny _ _ (if (Value.ref t == Value.none) = true then _ else _) _ _ s
  rw [if_neg (show ¬ ((Value.ref t == Value.none) = true) from Bool.false_ne_true)]
  show wpAny _ _ (field (.ref it) 1 >>= _) _ _ s
  refine wpAny_bind (wpAny_field hoi hdi (x := .int i 0) rfl ?_)
  show wpAny _ _ (seqItems? (.ref t) >>= _) _ _ s
  refine wpAny_bind (wpAny_seqItems hot hdt ?_)
  simp only [Int.toNat_natCast, hx]
  refine wpAny_bind (wpAny_setField hoi hdi (by simp) (wpAny_pure ⟨x, rfl, wpAny_pure (hQ _ ?_ (Heap.SameBut.update ..))⟩))
  refine ⟨_, Heap.get?_update_self _ hoi (Obj.isFreed_of_fields (Obj.data_mapFields hdi _)), (Obj.cls_mapFields ..).trans hci, ?_⟩
  rw [Obj.data_mapFields hdi]; simp [rawInt]
theorem nextOf_tup_end {it t : Addr} {i : Nat} {items : Array Value} {Q : Value → Shared → Prop} (hh : A.handled = none) (hit : s.heap.IsTupleIter it t i) (ht : s.heap.IsTuple t items) (hx : items[i]? = none)
    (hE : ∀ h' e, Heap.ExtBut it s.heap h' → (∃ o, h'.get? e = some o ∧ o.cls = .type "StopIteration") → E (.ref e) { s with heap := h' }) : wpAny (model prog w) A (Builtin.SmallTypes.nextOf (.ref it)) Q E s := by
  obtain ⟨oi, hoi, hci, hdi⟩ := id hit
  obtain ⟨ot, hot, _, k, hdt⟩ := ht
  unfold Builtin.SmallTypes.nextOf
  refine wpAny_bind (wpAny_callSpecial?_slot (name := Str.ofString "__next__") hit.typeIs F.slot_tuple_iterator_next (wpAny_call_entry F.slot_tuple_iterator_next hit.typeIs F.entry_tuple_iterator_next ?_ (F.args_tuple_iterator_next_1 _)))
  show wpAny _ _ (field (.ref it) 0 >>= _) _ _ s
  refine wpAny_bind (wpAny_field hoi hdi (x := .ref t) rfl ?_)
  show wpAny _ _ (if (Value.ref t == Value.none) = true then _ else _) _ _ s
  rw [if_neg (show ¬ ((Value.ref t == Value.none) = true) from Bool.false_ne_true)]
  show wpAny _ _ (field (.ref it) 1 >>= _) _ _ s
  refine wpAny_bind (wpAny_field hoi hdi (x := .int i 0) rfl ?_)
  show wpAny _ _ (seqItems? (.ref t) >>= _) _ _ s
  refine wpAny_bind (wpAny_seqItems hot hdt ?_)
  simp only [Int.toNat_natCast, hx]
  refine wpAny_bind (wpAny_rule (wpAny_bind (wpAny_setField hoi hdi (by simp) ?_)))
  show wpAny _ _ (newExc (.type "StopIteration") [] >>= _) _ _ _
  refine wpAny_bind ?_
  simp only [newExc, newTuple]
  refine wpAny_bind (wpAny_newObj_type ?_ (by size_fits))
  refine wpAny_bind (m := firstArgMember _ _) (wpAny_of_eq (a := Value.none) (by first | rfl | (simp only [firstArgMember]; rfl)) ?_)
  refine wpAny_newObj_type ?_ (by size_fits)
  simp only [raiseNew]
  refine wpAny_bind (wpAny_handled ?_)
  first | rw [show A.in1.handled = none from hh] | rw [hh]
  refine wpAny_bind (wpAny_pure (wpAny_throw ?_))
  exact hE _ _ (((Heap.SameBut.update ..).extBut.push _).push _) ⟨_, Heap.get?_push_size _ rfl, rfl⟩
theorem draws_tup {prog : Program} {w : World} {A : Around} (hh : A.handled = none) (it t : Addr) (hne : t ≠ it) (items : Array Value) :
    Draws prog w A it [it, t] items.size (fun i v => items[i]? = some v) (fun i h => h.IsTupleIter it t i ∧ h.IsTuple t items) where
  live := fun _ _ st => let ⟨o, ho, _⟩ := st.1; ⟨o, ho⟩
  frame := fun _ _ _ st hk => ⟨st.1.at fun o e => hk it (by simp) o e, st.2.at fun o e => hk t (by simp) o e⟩
  item := fun i s Q E hi st hQ => by
    refine nextOf_tup st.1 st.2 (x := items[i]) (by simp [hi]) fun h' hit' hs' => ?_
    exact hQ _ h' s.toks (by simp [hi]) ⟨hit', st.2.extBut hs'.extBut hne⟩ hs'
  done := fun s Q E st hE => nextOf_tup_end hh st.1 st.2 (by simp) hE
theorem enum_new_tup (t : Addr) (items : Array Value) (n : Nat) (dct : Option Addr) (sl : Array (Option Value)) :
    Meets (Builtin.«enumerate.__new__» ⟨[.type "enumerate", .ref t], []⟩) (fun _ R s => s.heap.get? t = some { cls := .type "tuple", dict := dct, data := .seq items n, slots := sl } ∧
      R (.ok (.ret (.ref (s.heap.push { cls := .type "tuple_iterator", data := .fields #[.ref t, .int 0 0] }).objs.size)))
        { s with heap := (s.heap.push { cls := .type "tuple_iterator", data := .fields #[.ref t, .int 0 0] }).push { cls := .type "enumerate", data := .fields #[.none, .bool false, .ref s.heap.objs.size, rawInt 0, .none, .none] } }) :=
  .of_wp fun prog w A R s h => by
    obtain ⟨hp, g, d, tk, os⟩ := s; obtain ⟨ht, h⟩ := h
    have hsub := sub_enumerate
    have hT : Heap.IsTuple (Shared.heap ⟨hp, g, d, tk, os⟩) t items := ⟨_, ht, rfl, n, rfl⟩
    wp_walk using wpAny_loadPart' ht
    refine wpAny_stack_any fun st => wpAny_pure ?_
    split
    · rename_i c _ _ _ _ _
      cases (c == Value.type "enumerate")
      · wp_walk using wpAny_loadPart' ht, wpAny_pyIter_tuple hT
        exact ⟨_, rfl, h⟩
      · wp_walk using wpAny_loadPart' ht, wpAny_pyIter_tuple hT
        exact ⟨_, rfl, h⟩
    · wp_walk using wpAny_loadPart' ht, wpAny_pyIter_tuple hT
      exact ⟨_, rfl, h⟩
theorem enum_tup {t : Addr} {items : Array Value} {Q : Value → Shared → Prop} (hT : s.heap.IsTuple t items)
    (h : ∀ h', IsEnum h' (s.heap.objs.size + 1) s.heap.objs.size 0 .none → h'.IsTupleIter s.heap.objs.size t 0 → h'.objs.size = s.heap.objs.size + 2 →
      (∀ b o, s.heap.get? b = some o → h'.get? b = some o) → Q (.ref (s.heap.objs.size + 1)) { s with heap := h' }) :
    wpAny (model prog w) A (call (.type "enumerate") [.ref t]) Q E s := by
  obtain ⟨⟨c, dct, dt, sl⟩, ht, hc, n, hd⟩ := hT
  replace hc : c = .type "tuple" := hc
  replace hd : dt = .seq items n := hd
  subst hc hd
  refine callType_new F.called_enumerate (by decide) (F.typeCall_enumerate_1 _) (F.newCall_enumerate_1 _) (fun obj => F.args_object_init_2 obj _) F.entry_enumerate_new (enum_new_tup t items n dct sl) ⟨ht, ?_⟩
  have hz : (s.heap.push { cls := .type "tuple_iterator", data := .fields #[.ref t, .int 0 0] }).objs.size = s.heap.objs.size + 1 := Heap.size_push ..
  show _ ∧ _
  rw [hz]
  have he : IsEnum ((s.heap.push { cls := .type "tuple_iterator", data := .fields #[.ref t, .int 0 0] }).push
      { cls := .type "enumerate", data := .fields #[.none, .bool false, .ref s.heap.objs.size, rawInt 0, .none, .none] }) (s.heap.objs.size + 1) s.heap.objs.size 0 .none := by
    have := Heap.get?_push_size (s.heap.push { cls := .type "tuple_iterator", data := .fields #[.ref t, .int 0 0] })
      (o := { cls := .type "enumerate", data := .fields #[.none, .bool false, .ref s.heap.objs.size, rawInt 0, .none, .none] }) rfl
    rw [hz] at this; exact this
  refine ⟨⟨_, he, rfl⟩, h _ he ⟨_, Heap.get?_push_of_some _ (Heap.get?_push_size _ rfl), rfl, rfl⟩ (by rw [Heap.size_push, hz]) fun b o x => Heap.get?_push_of_some _ (Heap.get?_push_of_some _ x)⟩
end
section
variable {prog : Program} {w : World} {A : Around} {E : Value → Shared → Prop} {s : Shared} {env : Env} {h₀ : Heap} {body : List Stmt} {Q : Flow → Shared → Prop}
/-- a for over a counted tuple that lies in the base heap -/
theorem enumT {elts : List Expr} {k : Nat} {pos : Pos} {l : Addr} {its : Array Value} {m₀ : Str → Option Value} {news : List (Addr × Obj)} (st : List Str) (J : Nat → List (Addr × Obj) → Prop)
    (hh : A.handled = none) (F : Fr h₀ env.locals s.heap m₀) (N : News h₀ env.locals s.heap news) (hl : s.heap.IsTuple l its) (hk : ∃ o, h₀.get? l = some o) (h0 : J 0 news)
    (turn : ∀ (I i : Nat) v T t u news₁ h₁ tk₁ o1 o2, s.heap.objs.size ≤ I → its[i]? = some v → IsTup h₁ T #[.int (i : Int) t, v] → J i news₁ → o1.cls = .type "enumerate" → o2.cls = .type "tuple_iterator" → Fr h₀ env.locals h₁ (over st u m₀) → News h₀ env.locals h₁ ((I + 1, o1) :: (I, o2) :: news₁) →
      wpAny (model prog w) A (assign (.Tuple elts k pos) env (.ref T)) (fun _ s₃ => wpAny (model prog w) A (execs body env) (TurnPost h₀ env.locals [(I + 1, o1), (I, o2)] (fun m' n' => (∀ y, st.contains y = false → m' y = m₀ y) ∧ J (i + 1) n') { s with heap := h₁, toks := tk₁ } Q) E s₃) E { s with heap := h₁, toks := tk₁ })
    (done : ∀ u news₁ h tk, J its.size news₁ → Fr h₀ env.locals h (over st u m₀) → News h₀ env.locals h news₁ → Q .next { s with heap := h, toks := tk }) :
    wpAny (model prog w) A (call (.type "enumerate") [.ref l]) (fun xv s₁ => wpAny (model prog w) A (pyIter xv) (fun it s₂ => TurnsAt prog w A h₀ env (.Tuple elts k pos) body Q E it s₂) E s₁) E s := by
  obtain ⟨ol, hol⟩ := hk
  have hlt : l < s.heap.objs.size := Heap.lt_size (F.keep _ _ hol)
  have hLs : env.locals < s.heap.objs.size := F.ns.lt
  have fresh : ∀ b, s.heap.objs.size ≤ b → h₀.get? b = none := fun b hb => by
    cases e : h₀.get? b with
    | none => rfl
    | some o => exact absurd (Heap.lt_size (F.keep _ _ e)) (Nat.not_lt.mpr hb)
  have hlL : l ≠ env.locals := fun e => by rw [e, Heap.get?_none_of_le F.above] at hol; cases hol
  have hup : s.heap.objs.size + 1 ∉ [s.heap.objs.size, l] := by
    intro hb
    rcases List.mem_cons.mp hb with e | hb
    · exact absurd e (Nat.succ_ne_self _)
    · exact absurd hlt ((List.mem_singleton.mp hb) ▸ Nat.not_lt.mpr (Nat.le_succ _))
  refine enum_tup hl fun h' hE hI hsz hk' => ?_
  refine wpAny_pyIter_enum hE ?_
  refine turnsJ (tk0 := s.toks) [(s.heap.objs.size + 1, "enumerate"), (s.heap.objs.size, "tuple_iterator")] (fun i m₁ n₁ => (∀ y, st.contains y = false → m₁ y = m₀ y) ∧ J i n₁)
    (KTurns.ofWalksU (WalksT.enumerateD (draws_tup (A := A.in1) (show A.in1.handled = none from hh) s.heap.objs.size l (Nat.ne_of_lt hlt) its) (s.heap.objs.size + 1) (Nat.succ_ne_self _) hup (by simp)).toU) ?_ ?_ ?_ ?_ ?_ ?_ ?_ ?_ (F.keeps hk') (N.grown hk') ⟨fun _ _ => rfl, h0⟩ ?_ (fun m₁ n₁ h tk hJ F₁ N₁ => done m₁ n₁ h tk hJ.2 (over_self hJ.1 ▸ F₁) N₁)
  · rintro i h ⟨⟨old, he⟩, ⟨oi, hoi, hic, _⟩, _⟩
    have he' : ∃ oe : Obj, h.get? (s.heap.objs.size + 1) = some oe ∧ oe.cls = .type "enumerate" := ⟨_, he, rfl⟩
    obtain ⟨oe, h1, h2⟩ := he'
    refine ⟨[(s.heap.objs.size + 1, oe), (s.heap.objs.size, oi)], ⟨⟨rfl, h2⟩, ⟨rfl, hic⟩, trivial⟩, fun p hp => ?_⟩
    rcases List.mem_cons.mp hp with rfl | hp
    · exact h1
    · rw [List.mem_singleton.mp hp]; exact hoi
  · intro b hb
    rcases List.mem_cons.mp hb with rfl | hb
    · exact ⟨by simp, fresh _ (Nat.le_succ _)⟩
    · rw [List.mem_singleton.mp hb]; exact ⟨by simp, fresh _ (Nat.le_refl _)⟩
  · intro x hx
    rcases List.mem_cons.mp hx with rfl | hx
    · rfl
    · rw [List.mem_singleton.mp hx]; rfl
  · intro b hb; simpa using hb
  · intro b hb
    rcases List.mem_cons.mp hb with rfl | hb
    · exact .inl (by simp)
    · rcases List.mem_cons.mp hb with rfl | hb
      · exact .inl (by simp)
      · rw [List.mem_singleton.mp hb]; exact .inr (.inl ⟨ol, hol⟩)
  · intro hb
    rcases List.mem_cons.mp hb with e | hb
    · exact absurd hLs (e ▸ Nat.not_lt.mpr (Nat.le_succ _))
    · rcases List.mem_cons.mp hb with e | hb
      · exact absurd hLs (e ▸ Nat.lt_irrefl _)
      · exact hlL (List.mem_singleton.mp hb).symm
  · intro p hp hb
    have := Heap.lt_size (N p hp).1
    rcases List.mem_cons.mp hb with e | hb
    · exact absurd this (e ▸ Nat.not_lt.mpr (Nat.le_succ _))
    · rw [List.mem_singleton.mp hb] at this; exact Nat.lt_irrefl _ this
  · exact ⟨⟨_, hE⟩, hI, hl.at fun o e => hk' _ _ e⟩
  · rintro i v m₁ news₁ h₁ tk₁ its' hin ⟨T, vals, rfl, ⟨t, x, hx, rfl⟩, hT⟩ hJ hits F₁ N₁
    match its', hits with
    | [(a1, o1), (a2, o2)], hits =>
      obtain ⟨⟨e1, c1⟩, ⟨e2, c2⟩, _⟩ := hits
      have e1' : a1 = s.heap.objs.size + 1 := e1
      have e2' : a2 = s.heap.objs.size := e2
      subst e1' e2'
      exact turn _ i x T t m₁ news₁ h₁ tk₁ o1 o2 (Nat.le_refl _) hx hT hJ.2 c1 c2 (over_self hJ.1 ▸ F₁) N₁
    | [], hits => exact (show False from hits).elim
    | [_], hits => exact (show False from hits.2).elim
    | _ :: _ :: _ :: _, hits => exact (show False from hits.2.2).elim
end
end Gen9part
section Gen10part
set_option maxRecDepth 100000
/-! ## the place of a text in a tuple -/
section
open PySem.AutoSeq1 (wpAny_loadPart')
open PySem.MeetsSeq
theorem forIn_rng {M : Model} {A : Around} {E : Value → Shared → Prop} {s : Shared} {β : Type} (f : Nat → β → Sem (ForInStep β)) (I : List Nat → β → Shared → Prop) (Q : β → Shared → Prop)
    (turn : ∀ x rest b s, I (x :: rest) b s → wpAny M A (f x b) (fun r s' => match r with | .yield b' => I rest b' s' | .done b' => Q b' s') E s)
    (fin : ∀ b s, I [] b s → Q b s) (lo hi : Nat) (b : β) (h : I (List.range' lo (hi - lo)) b s) : wpAny M A (forIn [lo:hi] b f) Q E s := by
  rw [Std.Legacy.Range.forIn_eq_forIn_range']
  refine wpAny_forIn_list f I Q turn fin _ b ?_
  simpa [Std.Legacy.Range.size] using h
theorem tuple_index (l : Addr) (items : Array Value) (n : Nat) (x : Value) (e : Value → Bool) (he : ∀ y, y ∈ items → EqGives y x (e y)) (j : Nat) (hj : j < items.size) (hit : e items[j] = true) (hno : ∀ m (hm : m < items.size), m < j → e items[m] = false) :
    Meets (Builtin.«tuple.index» ⟨[.ref l, x], []⟩)
      (fun _ R s => s.heap.get? l = some { cls := .type "tuple", dict := none, data := .seq items n, slots := #[] } ∧ R (.ok (.ret (.int (j : Int) s.toks))) { s with toks := s.toks + 1 }) :=
  .of_wp fun prog w A R s h => by
    obtain ⟨hp, g, d, tk, os⟩ := s; obtain ⟨hl, h⟩ := h
    wp_walk using wpAny_loadPart' hl, forIn_rng _ (fun rest b s' => b.1 = none ∧ s' = ⟨hp, g, d, tk, os⟩ ∧ ∃ i, i ≤ j ∧ rest = List.range' i (items.size - i)) _
    case turn =>
      rintro m rest b s' ⟨hb, rfl, i, hi, hr⟩
      have hlt : i < items.size := by omega
      have e1 : items.size - i = (items.size - (i + 1)) + 1 := by omega
      rw [e1, List.range'_succ] at hr
      obtain ⟨rfl, rfl⟩ := List.cons.inj hr
      rw [Array.getElem?_eq_getElem hlt]
      refine wpAny_bind (he items[m] (Array.getElem_mem hlt) prog w _ _ _ _ ?_)
      cases hy : e items[m] with
      | true =>
        have hmj : m = j := by
          rcases Nat.lt_or_ge m j with h1 | h1
          · rw [hno m hlt h1] at hy; cases hy
          · omega
        subst hmj
        wp_walk
        exact ⟨_, rfl, h⟩
      | false =>
        have hmj : m < j := by
          rcases Nat.lt_or_ge m j with h1 | h1
          · exact h1
          · have : m = j := by omega
            subst this
            rw [hit] at hy; cases hy
        wp_walk
        exact ⟨rfl, rfl, m + 1, hmj, rfl⟩
    case fin =>
      rintro b s' ⟨hb, rfl, i, hi, hr⟩
      have := congrArg List.length hr
      simp at this
      omega
    case h =>
      exact ⟨rfl, rfl, 0, Nat.zero_le _, by simp⟩
theorem call_tuple_index {prog : Program} {w : World} {A : Around} {E : Value → Shared → Prop} {s : Shared} {T : Addr} {its : List Value} {ks : List Str} {k : Str} {u : Tok} {n : Nat} {Q : Value → Shared → Prop}
    (hT : s.heap.get? T = some { cls := .type "tuple", dict := none, data := .seq its.toArray n, slots := #[] }) (hs : StrsAre its ks) (hk : k ∈ ks) (h : Q (.int ((ks.idxOf k : Nat) : Int) s.toks) { s with toks := s.toks + 1 }) :
    wpAny (model prog w) A (call (.builtin "tuple.index") [.ref T, .str k u]) Q E s := by
  have hlen := strs_length hs
  have hj : ks.idxOf k < ks.length := List.idxOf_lt_length_iff.mpr hk
  have key : ∀ {i : Nat} (hi : i < its.toArray.size), ∃ t, its.toArray[i] = .str (ks[i]'(by simpa [hlen] using hi)) t := by
    intro i hi
    have hi' : i < its.length := by simpa using hi
    obtain ⟨y, t, e1, e2⟩ := strs_get hs (List.getElem?_eq_getElem hi')
    refine ⟨t, ?_⟩
    have e3 := (List.getElem?_eq_some_iff.mp e1).2
    rw [show its.toArray[i] = its[i] from by simp, e2, ← e3]
  refine call_meets F.slot_tuple_index ⟨_, hT, rfl⟩ F.entry_tuple_index (F.args_tuple_index_2 _ _) (tuple_index T its.toArray n (.str k u) (fun v => match v with | .str y _ => y.cps.toList == k.cps.toList | _ => false) ?_ (ks.idxOf k) (by simpa [hlen] using hj) ?_ ?_) ⟨hT, h⟩
  · intro y hy
    obtain ⟨i, hi⟩ := List.mem_iff_getElem?.mp (show y ∈ its from by simpa using hy)
    obtain ⟨z, t, _, rfl⟩ := strs_get hs hi
    exact PySem.SeqRoads2.EqGives.str z k t u
  · obtain ⟨t, e⟩ := key (i := ks.idxOf k) (by simpa [hlen] using hj)
    rw [e]
    simp [List.getElem_idxOf hj]
  · intro m hm hlt
    obtain ⟨t, e⟩ := key hm
    rw [e]
    have hne : ks[m]'(by simpa [hlen] using hm) ≠ k := fun e2 => by
      have := List.not_of_lt_findIdx (p := fun y => y == k) (xs := ks) (i := m) hlt
      simp [e2] at this
    have : ¬ (ks[m]'(by simpa [hlen] using hm)).cps.toList = k.cps.toList := fun e3 => hne (by
      have := Array.toList_inj.mp e3
      cases hh : ks[m]'(by simpa [hlen] using hm); cases k; simp_all)
    simpa using this
end
end Gen10part
section V15part
theorem lines19 : True := by
  k_with_none
  (k_with "k_inst" => exact IsInst.at (by assumption) (by k_asm))
  (k_with "compareOp In str ref" => (k_here; (first | (with_reducible refine' in_22 ?Fq390w ?Xq390w ?_) | (with_reducible refine' in_23 ?Fq390w ?Xq390w ?_) | (with_reducible refine' in_24 ?Fq390w ?Xq390w ?_) | (with_reducible refine' in_25 ?Fq390w ?Xq390w ?_) | (with_reducible refine' in_26 ?Fq390w ?Xq390w ?_)); (case Fq390w => k_asm); (case Xq390w => k_asm); k_whole))
  (k_with "compareOp NotIn str ref" => (k_here; (with_reducible refine' notin_22 ?Fq391w ?Xq391w ?_); (case Fq391w => k_asm); (case Xq391w => k_asm); k_whole))
  (k_with "exec For Tuple Call cons nil" => (k_here; (rename Fr _ _ _ _ => lFzz); (with_unfolding_all refine' For_turns lFzz ?_; k_whole)))
  (k_with "call type:enumerate" => (k_here; (with_reducible show wpAny _ _ (call (Value.type _) [Value.ref _]) (fun xv s₁ => wpAny _ _ (pyIter xv) (fun it s₂ => TurnsAt _ _ _ _ _ _ _ _ _ it s₂) _ s₁) _ _); refine halt_ ?_))
  (k_with "TurnPost" => (dsimp only [TurnPost]))
  (k_with "compareOp In str ref" => (k_here; k_dflt (first | (refine' in_made isHang ?Nq395w ?mq395w ?iq395w ?pq395w ?_; (case Nq395w => k_asm); (case mq395w => k_mem); (case iq395w => repeat constructor); (case pq395w => rfl); k_whole) | (refine' in_made isPara ?Nq395w ?mq395w ?iq395w ?pq395w ?_; (case Nq395w => k_asm); (case mq395w => k_mem); (case iq395w => repeat constructor); (case pq395w => rfl); k_whole) | (refine' in_made isLetterS ?Nq395w ?mq395w ?iq395w ?pq395w ?_; (case Nq395w => k_asm); (case mq395w => k_mem); (case iq395w => repeat constructor); (case pq395w => rfl); k_whole) | (refine' in_made isStayS ?Nq395w ?mq395w ?iq395w ?pq395w ?_; (case Nq395w => k_asm); (case mq395w => k_mem); (case iq395w => repeat constructor); (case pq395w => rfl); k_whole))))
  (k_with "compareOp NotIn str ref" => (k_here; k_dflt (first | (refine' notin_made isTerm ?Nq396w ?mq396w ?iq396w ?pq396w ?_; (case Nq396w => k_asm); (case mq396w => k_mem); (case iq396w => repeat constructor); (case pq396w => rfl); k_whole) | (refine' notin_made isPara ?Nq396w ?mq396w ?iq396w ?pq396w ?_; (case Nq396w => k_asm); (case mq396w => k_mem); (case iq396w => repeat constructor); (case pq396w => rfl); k_whole))))
  (k_with "compareOp NotEq ref ref" => (k_here; k_dflt (refine' ne_unitsK ?Nq397w ?aq397w ?uq397w ?sq397w ?bq397w ?oq397w ?rq397w ?_; (case Nq397w => k_asm); (case aq397w => k_mem); (case uq397w => assumption); (case sq397w => kcf_all); (case bq397w => k_mem); (case oq397w => assumption); (case rq397w => ktr_units); k_whole)))
  (k_with "subscriptTail" => (k_here; (with_reducible show wpAny _ _ (subscriptTail _ _ (Value.ref _) (Value.int (-1) _)) _ _ _); k_dflt (refine' item_lastN ?Nq398w ?aq398w ?_ ?hq398w; (case Nq398w => k_asm); (case aq398w => k_mem); (case hq398w => with_unfolding_all rfl); k_whole)))
  (k_with "subscriptTail" => (k_here; (first | ((with_reducible show wpAny _ _ (subscriptTail _ _ (Value.ref _) (Value.int 0 _)) _ _ _); k_dflt (refine' item3_0 ?Nq399w ?aq399w ?sq399w ?_ ?hq399w; (case Nq399w => k_asm); (case aq399w => with_reducible assumption); (case sq399w => kcf_all); (case hq399w => with_unfolding_all rfl); k_whole)) | ((with_reducible show wpAny _ _ (subscriptTail _ _ (Value.ref _) (Value.int 1 _)) _ _ _); k_dflt (refine' item3_1 ?Nq399w ?aq399w ?sq399w ?_ ?hq399w; (case Nq399w => k_asm); (case aq399w => with_reducible assumption); (case sq399w => kcf_all); (case hq399w => with_unfolding_all rfl); k_whole)) | ((with_reducible show wpAny _ _ (subscriptTail _ _ (Value.ref _) (Value.int 2 _)) _ _ _); k_dflt (refine' item3_2 ?Nq399w ?aq399w ?sq399w ?_ ?hq399w; (case Nq399w => k_asm); (case aq399w => with_reducible assumption); (case sq399w => kcf_all); (case hq399w => with_unfolding_all rfl); k_whole)))))
  (k_with "setItem ref int ref" => (k_here; k_dflt (refine' setLast_K ?Fq400w ?Nq400w ?Uq400w ?_; (case Fq400w => k_asm); (case Nq400w => k_asm); (case Uq400w => k_upd); k_whole); intro _ _ _; (try k_sweep)))
  (k_with "k_all" => assumption)
  (k_with "size_fits" => ((rw [PySem.sizeLine_eq]); (simp only [List.size_toArray, List.length_append, List.length_cons, List.length_nil]); omega))
  (k_with "CompSrcT" => (k_here; k_dflt (refine' LCt.CompSrcT.ledger ?hhq403w ?Fq403w ?Nq403w ?mq403w ?zq403w ?_; (case hhq403w => exact rfl); (case Fq403w => k_asm); (case Nq403w => k_asm); (case mq403w => k_mem); (case zq403w => size_fits)); intro _; refine halt_ ?_))
  (k_with "exec Assign cons ListComp" => (k_here; lct_look; k_dflt (refine LCt.Assign_ListComp_T (F₀ := by k_asm) (by rfl) (by with_unfolding_all rfl) (by with_unfolding_all rfl) (by decide) (by rfl) (by decide) (by rfl) (by rfl) (by rfl) ?_)))
  (k_with "CompEnd" => (refine LCg.CompEnd.intro (by assumption) (by assumption) _ (fun _ h9 => h9) (by first | assumption | (simp only [LCg.Off3, and_true]; assumption)) (by lcg_src) ?_; first | exact ⟨⟨_, rfl⟩, rfl, by first | assumption | exact decide_eq_true (by assumption)⟩ | exact ⟨rfl, by first | assumption | exact decide_eq_false (by assumption)⟩))
  (k_with "call builtin:len" => (k_here; (with_reducible show wpAny _ _ (call (Value.builtin "len") [Value.ref _]) _ _ _); k_dflt (refine' kst_len ?k1q406w ?k2q406w ?k3q406w ?k4q406w ?_; (case k1q406w => k_asm); (case k2q406w => k_mem); (case k3q406w => exact rfl); (case k4q406w => omega); k_whole)))
  (k_with "subscriptTail Name Slice ref ref" => (k_here; (with_reducible show wpAny _ _ (subscriptTail _ (PySem.Expr.Slice _ _ none _) (Value.ref _) (Value.ref _)) _ _ _); k_dflt (refine' slice_K ?Fq407w ?Nq407w ?lq407w ?pq407w ?qq407w ?_ ?sq407w ?tq407w ?zq407w; (case Fq407w => k_asm); (case Nq407w => k_asm); (case lq407w => first | exact News.isList (by k_asm) (by k_mem) | exact listBase (by k_asm) (by assumption)); (case pq407w => kmk_part); (case qq407w => kmk_part); (case sq407w => with_unfolding_all rfl); (case tq407w => kmk_pure); (case zq407w => size_fits)); intro _ _ _ Nzz l1zz; (try k_lt l1zz); (try dsimp only at Nzz); (try k_sweep)))
  (k_with "compareOp In ref ref" => (k_here; k_dflt (refine' in_two ?Nq408w ?xq408w ?vq408w ?tq408w ?aq408w ?vaq408w ?bq408w ?vbq408w ?okq408w ?okaq408w ?okbq408w ?uq408w ?_; (case Nq408w => k_asm); (case xq408w => k_mem); (case vq408w => exact strs_pick (by assumption)); (case tq408w => k_mem); (case aq408w => k_mem); (case vaq408w => exact .cons _ _ .nil); (case bq408w => k_mem); (case vbq408w => exact .cons _ _ .nil); (case okq408w => exact pick_sub (by assumption)); (case okaq408w => decide +kernel); (case okbq408w => decide +kernel); (case uq408w => ktr_units); k_whole)))
  (k_with "exec While" => (k_here; refine halt_ ?_))
  (k_with "compareOp NotEq ref ref" => (k_here; k_dflt (first | (refine' ne_bothK ?Nq410w ?aq410w ?bq410w ?uq410w ?_; (case Nq410w => k_asm); (case aq410w => k_mem); (case bq410w => k_mem); (case uq410w => ktr_units); k_whole) | (refine' ne_snocK ?Nq410w ?aq410w ?vq410w ?bq410w ?oq410w ?uq410w ?_; (case Nq410w => k_asm); (case aq410w => k_mem); (case vq410w => assumption); (case bq410w => k_mem); (case oq410w => assumption); (case uq410w => ktr_units); k_whole))))
  (k_with "compareOp Eq ref ref" => (k_here; k_dflt (first | (refine' eq_bothK ?Nq411w ?aq411w ?bq411w ?uq411w ?_; (case Nq411w => k_asm); (case aq411w => k_mem); (case bq411w => k_mem); (case uq411w => ktr_units); k_whole) | (refine' eq_snocK ?Nq411w ?aq411w ?vq411w ?bq411w ?oq411w ?uq411w ?_; (case Nq411w => k_asm); (case aq411w => k_mem); (case vq411w => assumption); (case bq411w => k_mem); (case oq411w => assumption); (case uq411w => ktr_units); k_whole))))
  (k_with "call builtin:list.pop" => (k_here; (with_reducible show wpAny _ _ (call (Value.builtin _) [Value.ref _]) _ _ _); k_dflt (refine' pop_snoc ?Fq412w ?Nq412w ?Uq412w ?zq412w ?_; (case Fq412w => k_asm); (case Nq412w => k_asm); (case Uq412w => k_upd); (case zq412w => size_fits); k_whole); intro _ _ _; (try k_sweep)))
  (k_with "call ref" => (k_here; refine halt_ ?_))
  (k_with "k_ne" => (apply nn8; (try dsimp only); with_reducible ((fail_if_success show @Ne Nat 987654321 _); (fail_if_success show @Ne Nat _ 987654321); first | assumption | (apply nq1; assumption) | (apply nq2; assumption) | (apply nq3; assumption) | (apply nc1; assumption; (first | exact And.left | exact fun z => z.2.1 | exact fun z => z.2.2.1 | exact fun z => z.2.2.2.1 | exact fun z => z.2.2.2.2.1 | exact fun z => z.2.2.2.2.2.1 | exact fun z => z.2.2.2.2.2.2.1 | exact fun z => z.2.2.2.2.2.2.2.1 | exact fun z => z.2.2.2.2.2.2.2.2.1 | exact fun z => z.2.2.2.2.2.2.2.2.2.1 | exact fun z => z.2.2.2.2.2.2.2.2.2.2.1 | exact fun z => z.2.2.2.2.2.2.2.2.2.2.2.1 | exact fun z => z.2.2.2.2.2.2.2.2.2.2.2.2.1 | exact fun z => z.2.2.2.2.2.2.2.2.2.2.2.2.2.1 | exact And.right | exact fun z => z.2.2 | exact fun z => z.2.2.2 | exact fun z => z.2.2.2.2 | exact fun z => z.2.2.2.2.2 | exact fun z => z.2.2.2.2.2.2 | exact fun z => z.2.2.2.2.2.2.2 | exact fun z => z.2.2.2.2.2.2.2.2 | exact fun z => z.2.2.2.2.2.2.2.2.2 | exact fun z => z.2.2.2.2.2.2.2.2.2.2 | exact fun z => z.2.2.2.2.2.2.2.2.2.2.2 | exact fun z => z.2.2.2.2.2.2.2.2.2.2.2.2 | exact fun z => z.2.2.2.2.2.2.2.2.2.2.2.2.2)) | (apply nc2; assumption; (first | exact And.left | exact fun z => z.2.1 | exact fun z => z.2.2.1 | exact fun z => z.2.2.2.1 | exact fun z => z.2.2.2.2.1 | exact fun z => z.2.2.2.2.2.1 | exact fun z => z.2.2.2.2.2.2.1 | exact fun z => z.2.2.2.2.2.2.2.1 | exact fun z => z.2.2.2.2.2.2.2.2.1 | exact fun z => z.2.2.2.2.2.2.2.2.2.1 | exact fun z => z.2.2.2.2.2.2.2.2.2.2.1 | exact fun z => z.2.2.2.2.2.2.2.2.2.2.2.1 | exact fun z => z.2.2.2.2.2.2.2.2.2.2.2.2.1 | exact fun z => z.2.2.2.2.2.2.2.2.2.2.2.2.2.1 | exact And.right | exact fun z => z.2.2 | exact fun z => z.2.2.2 | exact fun z => z.2.2.2.2 | exact fun z => z.2.2.2.2.2 | exact fun z => z.2.2.2.2.2.2 | exact fun z => z.2.2.2.2.2.2.2 | exact fun z => z.2.2.2.2.2.2.2.2 | exact fun z => z.2.2.2.2.2.2.2.2.2 | exact fun z => z.2.2.2.2.2.2.2.2.2.2 | exact fun z => z.2.2.2.2.2.2.2.2.2.2.2 | exact fun z => z.2.2.2.2.2.2.2.2.2.2.2.2 | exact fun z => z.2.2.2.2.2.2.2.2.2.2.2.2.2)) | (apply nc3; assumption; (first | exact And.left | exact fun z => z.2.1 | exact fun z => z.2.2.1 | exact fun z => z.2.2.2.1 | exact fun z => z.2.2.2.2.1 | exact fun z => z.2.2.2.2.2.1 | exact fun z => z.2.2.2.2.2.2.1 | exact fun z => z.2.2.2.2.2.2.2.1 | exact fun z => z.2.2.2.2.2.2.2.2.1 | exact fun z => z.2.2.2.2.2.2.2.2.2.1 | exact fun z => z.2.2.2.2.2.2.2.2.2.2.1 | exact fun z => z.2.2.2.2.2.2.2.2.2.2.2.1 | exact fun z => z.2.2.2.2.2.2.2.2.2.2.2.2.1 | exact fun z => z.2.2.2.2.2.2.2.2.2.2.2.2.2.1 | exact And.right | exact fun z => z.2.2 | exact fun z => z.2.2.2 | exact fun z => z.2.2.2.2 | exact fun z => z.2.2.2.2.2 | exact fun z => z.2.2.2.2.2.2 | exact fun z => z.2.2.2.2.2.2.2 | exact fun z => z.2.2.2.2.2.2.2.2 | exact fun z => z.2.2.2.2.2.2.2.2.2 | exact fun z => z.2.2.2.2.2.2.2.2.2.2 | exact fun z => z.2.2.2.2.2.2.2.2.2.2.2 | exact fun z => z.2.2.2.2.2.2.2.2.2.2.2.2 | exact fun z => z.2.2.2.2.2.2.2.2.2.2.2.2.2)) | (apply nc4; assumption; (first | exact And.left | exact fun z => z.2.1 | exact fun z => z.2.2.1 | exact fun z => z.2.2.2.1 | exact fun z => z.2.2.2.2.1 | exact fun z => z.2.2.2.2.2.1 | exact fun z => z.2.2.2.2.2.2.1 | exact fun z => z.2.2.2.2.2.2.2.1 | exact fun z => z.2.2.2.2.2.2.2.2.1 | exact fun z => z.2.2.2.2.2.2.2.2.2.1 | exact fun z => z.2.2.2.2.2.2.2.2.2.2.1 | exact fun z => z.2.2.2.2.2.2.2.2.2.2.2.1 | exact fun z => z.2.2.2.2.2.2.2.2.2.2.2.2.1 | exact fun z => z.2.2.2.2.2.2.2.2.2.2.2.2.2.1 | exact And.right | exact fun z => z.2.2 | exact fun z => z.2.2.2 | exact fun z => z.2.2.2.2 | exact fun z => z.2.2.2.2.2 | exact fun z => z.2.2.2.2.2.2 | exact fun z => z.2.2.2.2.2.2.2 | exact fun z => z.2.2.2.2.2.2.2.2 | exact fun z => z.2.2.2.2.2.2.2.2.2 | exact fun z => z.2.2.2.2.2.2.2.2.2.2 | exact fun z => z.2.2.2.2.2.2.2.2.2.2.2 | exact fun z => z.2.2.2.2.2.2.2.2.2.2.2.2 | exact fun z => z.2.2.2.2.2.2.2.2.2.2.2.2.2)))))
  (k_with "k_upd" => first | (apply uh8; k_all) | (apply ut8; k_ne; k_upd))
  (k_with "k_updF" => first | (apply fh8; k_all) | (apply ft8; k_ne; k_updF))
  (k_with "k_all" => first | exact List.forall_mem_nil _ | (apply an8; k_ne; k_all))
  (k_with "kcf_all" => first | exact fun _ hp => hp | (apply sb8; (focus kcf_m); kcf_all))
  (k_with "ktr_units" => first | exact uu2 hu rfl | exact uu1 hu rfl | exact uu3 hu rfl | exact uu4 hu rfl)
  (k_with "ktr_room" => first | exact uu2 hdp rfl | exact uu1 hdp rfl | exact uu3 hdp rfl | exact uu4 hdp rfl)
  (k_with "subscriptTail Name UnaryOp ref int" => k_extra "subscriptTail")
  exact trivial
set_option maxRecDepth 100000 in
set_option maxHeartbeats 1000000 in
theorem C_like {w : World} {mean : ExcName → Option Value} {mg mb : Str → Option Value} {dp un : Nat} {gd : Option (List Code)} {cn : Str} {cs : Scope} {a : Addr} {ccd : Value} {cl : List (Str × Addr)} {outer : List Env} {A₀ : Around} {base h₀ : Heap} {L : Addr} {m : Str → Option Value} {s : Shared} {Q E : Value → Shared → Prop} (B : Below A₀ base outer h₀) (F : Fr h₀ L s.heap m) (X : (hd.heap_1 w.params).In h₀) (T : (Top view9 (looseW view9 []) mean mg mb h₀)) (hk : cs.kind = .function) {x y : Str} {t u : Tok} {news : List (Addr × Obj)}
    (N : News h₀ L s.heap news)
    (hdp : dp + 4 < recursionLimit) (hu : un + 40 < cLine)
    (hret : ∀ h' tk', s.heap.StaysIn h' → Fr h₀ L h' m → News h₀ L h' news → Q (.bool (x == y)) { s with heap := h', toks := tk' }) :
    wpAny (model PySem.Challenge.rw_on0369_01.row.prog w) (ktrTop dp un gd cn cs L a ccd cl outer) (call (.ref 94) [.str x t, .str y u]) Q E s := by
  w_top off
  refine wpAny_call ?_
  k_dflt (refine' code_def0 ?k1 ?k2 ?k3 ?k5 ?kA ?kF ?kK ?k6 ?k7 ?k8 ?k9 ?kB ?_ ?c2 ?c3 ?c4 ?c5; (case kA => exact rfl); (case kF => exact rfl); (case kK => assumption); (case k1 => k_asm); (case k2 => k_asm); (case k3 => k_asm); (case k5 => k_asm); (case k6 => k_is); (case k7 => k_is); (case k8 => ktr_room); (case k9 => exact BindsTo.of_eq rfl); (case c5 => decide); (case kB => exact locs rfl); (case c2 => exact rfl); (case c3 => exact rfl); (case c4 => exact rfl); k_whole; intro L' h' F' N' B' X' T'; (try dsimp only); (try k_fold); refine toks_any fun tk9 => ?_; refine let_fr F' ?_; clear F'; intro m9 F'; refine let_A ?_; intro A9)
  k_steps
  · exact end_b F' F N hret (by rw [show (x == y) = true by assumption]; rfl)
  · exact end_b F' F N hret rfl
theorem lines20 : True := by
  (k_with "execs cons" => ((with_reducible show wpAny _ _ (execs [_, _, _, _] _) _ _ _); refine halt_ ?_))
  (k_with "subscriptTail" => (k_here; (with_reducible show wpAny _ _ (subscriptTail _ _ (Value.ref _) (Value.int _ _)) _ _ _); k_dflt (refine' item_at ?lq423w ?aq423w ?bq423w ?xq423w ?_ ?eq423w; (case lq423w => exact News.isList (by k_asm) (by k_mem)); (case aq423w => omega); (case bq423w => omega); (case xq423w => assumption); (case eq423w => with_unfolding_all rfl); k_whole)))
  (k_with "binaryOp Add ref ref" => (k_here; (with_reducible show wpAny _ _ (binaryOp _ (Value.ref _) (Value.ref _)) _ _ _); k_dflt (refine' add_two ?Fq424w ?Nq424w ?aq424w ?bq424w ?zq424w ?_; (case Fq424w => k_asm); (case Nq424w => k_asm); (case aq424w => exact News.isList (by k_asm) (by k_mem)); (case bq424w => exact News.isList (by k_asm) (by k_mem)); (case zq424w => (try simp only [List.length_append, List.length_cons, List.length_nil, List.length_concat, List.length_take, List.length_drop, List.concat_eq_append]); omega)); intro _ _ _ _ l1zz; (try k_lt l1zz); (try k_sweep)))
  exact trivial
theorem pick_take {vs : List Value} {x : Int} (h : 0 ≤ x) : kms_pick vs none (some x) = vs.take x.toNat := by
  have h2 : ¬ x < 0 := by omega
  unfold kms_pick kms_lo kms_hi
  simp only [h2, if_false, List.drop_zero, Nat.sub_zero]
  first | rfl | (rw [List.take_eq_take_iff]; omega)
theorem pick_drop {vs : List Value} {x : Int} (h : 0 ≤ x) : kms_pick vs (some x) none = vs.drop x.toNat := by
  have h2 : ¬ x < 0 := by omega
  unfold kms_pick kms_lo kms_hi
  simp only [h2, if_false]
  rw [List.take_of_length_le]
  · first | rfl | (rcases Nat.le_total x.toNat vs.length with h3 | h3 <;> simp [h3])
  · rw [List.length_drop]; first | omega | (rcases Nat.le_total x.toNat vs.length with h3 | h3 <;> simp [h3])
section
variable {prog : Program} {w : World} {A : Around} {E : Value → Shared → Prop} {s : Shared} {h₀ : Heap} {L : Addr} {m : Str → Option Value} {value slice : PySem.Expr} {vs : List Value} {vl vu : Value} {x : Int} {l : Addr} {news : List (Addr × Obj)} {Q : Value → Shared → Prop}
theorem slice_takeK (F : Fr h₀ L s.heap m) (N : News h₀ L s.heap news) (hl : s.heap.IsList l vs.toArray) (pl : IsPart vl none) (pu : IsPart vu (some x)) (hx : 0 ≤ x) (hz : vs.length ≤ 10000)
    (h : ∀ D h', Fr h₀ L h' m → News h₀ L h' ((D, listOf (vs.take x.toNat).toArray 0) :: news) → (∀ p ∈ news, p.1 < D) → Q (.ref D) { s with heap := h' })
    (hs : subscripted slice false (.ref l) (.ref s.heap.objs.size) = operate [.ref s.heap.objs.size, .ref l] (getItem (.ref l) (.ref s.heap.objs.size))) (ht : ∀ r, letTemporaryGo value (.ref l) r = pure ()) :
    wpAny (model prog w) A (subscriptTail value slice (.ref l) (.ref s.heap.objs.size)) Q E { s with heap := s.heap.push { cls := .type "slice", data := .fields #[vl, vu, .none] } } := by
  refine slice_K F N hl pl pu (fun D h' F' N' lt => h D h' F' ?_ lt) hs ht (by rw [PySem.sizeLine_eq]; simp; omega)
  rw [List.toList_toArray, pick_take hx] at N'
  exact N'
theorem slice_dropK (F : Fr h₀ L s.heap m) (N : News h₀ L s.heap news) (hl : s.heap.IsList l vs.toArray) (pl : IsPart vl (some x)) (pu : IsPart vu none) (hx : 0 ≤ x) (hz : vs.length ≤ 10000)
    (h : ∀ D h', Fr h₀ L h' m → News h₀ L h' ((D, listOf (vs.drop x.toNat).toArray 0) :: news) → (∀ p ∈ news, p.1 < D) → Q (.ref D) { s with heap := h' })
    (hs : subscripted slice false (.ref l) (.ref s.heap.objs.size) = operate [.ref s.heap.objs.size, .ref l] (getItem (.ref l) (.ref s.heap.objs.size))) (ht : ∀ r, letTemporaryGo value (.ref l) r = pure ()) :
    wpAny (model prog w) A (subscriptTail value slice (.ref l) (.ref s.heap.objs.size)) Q E { s with heap := s.heap.push { cls := .type "slice", data := .fields #[vl, vu, .none] } } := by
  refine slice_K F N hl pl pu (fun D h' F' N' lt => h D h' F' ?_ lt) hs ht (by rw [PySem.sizeLine_eq]; simp; omega)
  rw [List.toList_toArray, pick_drop hx] at N'
  exact N'
end
theorem lines21 : True := by
  (k_with "subscriptTail Name Slice ref ref" => (k_here; (with_reducible show wpAny _ _ (subscriptTail _ _ (Value.ref _) (Value.ref _)) _ _ _); k_dflt (first | (refine' slice_takeK ?Fq425w ?Nq425w ?lq425w ?pq425w ?qq425w ?xq425w ?zq425w ?_ ?sq425w ?tq425w; (case Fq425w => k_asm); (case Nq425w => k_asm); (case lq425w => exact News.isList (by k_asm) (by k_mem)); (case pq425w => kmk_part); (case qq425w => kmk_part); (case xq425w => omega); (case zq425w => (try simp only [List.length_append, List.length_cons, List.length_nil, List.length_concat, List.length_take, List.length_drop]); omega); (case sq425w => with_unfolding_all rfl); (case tq425w => kmk_pure)) | (refine' slice_dropK ?Fq425w ?Nq425w ?lq425w ?pq425w ?qq425w ?xq425w ?zq425w ?_ ?sq425w ?tq425w; (case Fq425w => k_asm); (case Nq425w => k_asm); (case lq425w => exact News.isList (by k_asm) (by k_mem)); (case pq425w => kmk_part); (case qq425w => kmk_part); (case xq425w => omega); (case zq425w => (try simp only [List.length_append, List.length_cons, List.length_nil, List.length_concat, List.length_take, List.length_drop]); omega); (case sq425w => with_unfolding_all rfl); (case tq425w => kmk_pure))); intro _ _ _ Nzz l1zz; (try k_lt l1zz); (try dsimp only at Nzz); (try k_sweep)))
  (k_with "subscriptTail Attribute Slice ref ref" => walk_at "subscriptTail Name Slice ref ref")
  exact trivial
theorem ints_append {vs ws : List Value} {ks ms : List Int} (h : IntsAre vs ks) (h' : IntsAre ws ms) : IntsAre (vs ++ ws) (ks ++ ms) := by
  induction h with
  | nil => exact h'
  | cons x t _ ih => exact .cons x t ih
theorem strs_append2 {vs ws : List Value} {ks ms : List Str} (h : StrsAre vs ks) (h' : StrsAre ws ms) : StrsAre (vs ++ ws) (ks ++ ms) := by
  induction h with
  | nil => exact h'
  | cons x t _ ih => exact .cons x t ih
theorem upd_in2 {d : Addr} {o o' : Obj} {l l' : List (Addr × Obj)} (U : Upd d o o' l l') : (d, o) ∈ l := by
  obtain ⟨pre, post, rfl, rfl, _⟩ := U.split
  exact List.mem_append_right _ (.head _)
theorem news_updM {h₀ h h' : Heap} {L dx : Addr} {o o' : Obj} {l big big' : List (Addr × Obj)} (U : Upd dx o o' big big') (N : News h₀ L h big) (hl : ∀ p ∈ l, p ∈ big) (k : KeepBut (dx :: l.map (·.1)) h h') (N2 : News h₀ L h' ((dx, o') :: l)) : News h₀ L h' big' := by
  obtain ⟨pre, post, rfl, rfl, a, b⟩ := U.split
  have other : ∀ p ∈ pre ++ (dx, o) :: post, p.1 ≠ dx → h'.get? p.1 = some p.2 ∧ p.1 ≠ L ∧ h₀.get? p.1 = none := by
    intro p hp hd
    have hp1 := N p hp
    by_cases e : p.1 ∈ l.map (·.1)
    · obtain ⟨q, hq, hqe⟩ := List.mem_map.mp e
      have h1 := (N q (hl q hq)).1
      have h2 := hp1.1
      have : q = p := Prod.ext hqe (by rw [hqe] at h1; rw [h1] at h2; exact Option.some.inj h2)
      exact this ▸ N2 q (List.mem_cons_of_mem _ hq)
    · exact ⟨k _ _ hp1.1 (by simp only [List.mem_cons, not_or]; exact ⟨hd, e⟩), hp1.2⟩
  intro p hp
  rcases List.mem_append.mp hp with hp | hp
  · exact other p (List.mem_append_left _ hp) (a p hp)
  · rcases List.mem_cons.mp hp with rfl | hp
    · exact N2 _ (.head _)
    · exact other p (List.mem_append_right _ (List.mem_cons_of_mem _ hp)) (b p hp)
theorem ne_made {h g h' : Heap} {L a : Addr} {all : List (Addr × Obj)} {o : Obj} {l : List Addr} (G : GSub h g l) (N : News g L h' all) (hf : (a, o) ∈ all) : ∀ b ob, h.get? b = some ob → b ∉ l → @Ne Nat b a := fun b ob e hn he => by
  have he' : b = a := he
  subst he'
  have h1 := G b ob e hn
  rw [(N _ hf).2.2] at h1; cases h1
theorem newsTwo {h₀ h : Heap} {L : Addr} {p q : Addr × Obj} {l : List (Addr × Obj)} (N : News h₀ L h l) (hp : h.get? p.1 = some p.2 ∧ p.1 ≠ L ∧ h₀.get? p.1 = none) (hq : h.get? q.1 = some q.2 ∧ q.1 ≠ L ∧ h₀.get? q.1 = none) : News h₀ L h (p :: q :: l) := by
  intro r hr
  rcases List.mem_cons.mp hr with rfl | hr
  · exact hp
  · rcases List.mem_cons.mp hr with rfl | hr
    · exact hq
    · exact N r hr
def rputN (ns : List Int) (first last : Int) (same : Bool) : List Int := ns.take (placeS ns (first - 1) + 1).toNat ++ (first :: if same then [] else [last + 1]) ++ ns.drop (placeS ns (last + 1) + 1).toNat
def rputK (ns : List Int) (ks : List Str) (first last : Int) (v b : Str) (same : Bool) : List Str := ks.take (placeS ns (first - 1) + 1).toNat ++ (v :: if same then [] else [b]) ++ ks.drop (placeS ns (last + 1) + 1).toNat
theorem cutR {M : Model} {A : Around} {env : Env} {Q : Flow → Shared → Prop} {E : Value → Shared → Prop} {h₀ : Heap} {L : Addr} {m : Str → Option Value} {σ : Shared} {s1 : Stmt} {rest : List Stmt} {D S V : Addr} {oD : Obj} {vs us : List Value} {k1 k2 : Nat} {base : List (Addr × Obj)} (_ : Fr h₀ L σ.heap m) (_ : News h₀ L σ.heap ((D, oD) :: (V, listOf us.toArray k2) :: (S, listOf vs.toArray k1) :: base)) (P : List Value → List Value → Prop)
    (hrest : ∀ h' tk vs' us' k1' k2', P vs' us' → Fr h₀ L h' m → News h₀ L h' ((V, listOf us'.toArray k2') :: (S, listOf vs'.toArray k1') :: base) → wpAny M A (execs rest env) Q E { σ with heap := h', toks := tk })
    (h : ∀ rest', (∀ h' tk vs' us' k1' k2' all, P vs' us' → Fr h₀ L h' m → News h₀ L h' all → (V, listOf us'.toArray k2') ∈ all → (S, listOf vs'.toArray k1') ∈ all → (∀ p ∈ base, p ∈ all) → wpAny M A (execs rest' env) Q E { σ with heap := h', toks := tk }) → wpAny M A (execs (s1 :: rest') env) Q E σ) : wpAny M A (execs (s1 :: rest) env) Q E σ :=
  h rest fun h' tk vs' us' k1' k2' _ p F' N' a b c => hrest h' tk vs' us' k1' k2' p F' fun q hq => by
    rcases List.mem_cons.mp hq with rfl | hq
    · exact N' _ a
    · rcases List.mem_cons.mp hq with rfl | hq
      · exact N' _ b
      · exact N' _ (c _ hq)
set_option maxRecDepth 100000 in
set_option maxHeartbeats 1000000 in
theorem C_rput {w : World} {mean : ExcName → Option Value} {mg mb : Str → Option Value} {dp un : Nat} {gd : Option (List Code)} {cn : Str} {cs : Scope} {a : Addr} {ccd : Value} {cl : List (Str × Addr)} {outer : List Env} {A₀ : Around} {base h₀ : Heap} {L : Addr} {m : Str → Option Value} {s : Shared} {Q E : Value → Shared → Prop} (B : Below A₀ base outer h₀) (F : Fr h₀ L s.heap m) (X : (hd.heap_1 w.params).In h₀) (T : (Top view9 (looseW view9 []) mean mg mb h₀)) (hk : cs.kind = .function) {rm rd sa va : Addr} {u0 u1 u2 u3 : Tok} {n3 n4 : Nat} {svs vvs : List Value} {ns : List Int} {ks : List Str} {first last : Int} {t1 t2 t3 : Tok} {v b pv : Str} {big : List (Addr × Obj)} {big' : Obj → List (Addr × Obj)}
    (Nb : News h₀ L s.heap big) (hrm : (rm, instObj 139 rd) ∈ big) (hsa : (sa, listOf svs.toArray n3) ∈ big) (hva : (va, listOf vvs.toArray n4) ∈ big) (U : ∀ o', Upd rd (dictOf [⟨PyData.keyHash w.params (Str.ofString "default"), .str (Str.ofString "default") u0, .str (Str.ofString "Other") u1⟩, ⟨PyData.keyHash w.params (Str.ofString "starts"), .str (Str.ofString "starts") u2, .ref sa⟩, ⟨PyData.keyHash w.params (Str.ofString "values"), .str (Str.ofString "values") u3, .ref va⟩] 3) o' big (big' o'))
    (hv : IntsAre svs ns) (hv' : StrsAre vvs ks) (hlen : ns.length < 500) (hkl : ks.length = ns.length) (hsort : ns.Pairwise (· < ·))
    (hf : 0 ≤ first) (hfl : first ≤ last) (hl9 : last < 1000000) (hp0 : 0 ≤ placeS ns (first - 1)) (hp1 : placeS ns (first - 1) < 1000) (hp2 : 0 ≤ placeS ns (last + 1)) (hp3 : placeS ns (last + 1) < 1000)
    (hb : ks[(placeS ns (last + 1)).toNat]? = some b) (hpv : ks[(placeS ns (first - 1)).toNat]? = some pv) (hne : (pv == v) = false)
    (hdp : dp + 8 < recursionLimit) (hu : un + 120 < cLine)
    (hret : ∀ sa9 va9 svs' vvs' na nv h' tk', Fr h₀ L h' m → News h₀ L h' ((sa9, listOf svs'.toArray na) :: (va9, listOf vvs'.toArray nv) :: big' (dictOf [⟨PyData.keyHash w.params (Str.ofString "default"), .str (Str.ofString "default") u0, .str (Str.ofString "Other") u1⟩, ⟨PyData.keyHash w.params (Str.ofString "starts"), .str (Str.ofString "starts") u2, .ref sa9⟩, ⟨PyData.keyHash w.params (Str.ofString "values"), .str (Str.ofString "values") u3, .ref va9⟩] 3)) → IntsAre svs' (rputN ns first last (b == v)) → StrsAre vvs' (rputK ns ks first last v b (b == v)) → Q .none { s with heap := h', toks := tk' }) :
    wpAny (model PySem.Challenge.rw_on0369_01.row.prog w) (ktrTop dp un gd cn cs L a ccd cl outer) (call (.ref 122) [.ref rm, .int first t1, .int last t2, .str v t3]) Q E s := by
  w_top off
  have hsub : ∀ p ∈ [(rm, instObj 139 rd), (sa, listOf svs.toArray n3), (va, listOf vvs.toArray n4)], p ∈ big := List.forall_mem_cons.mpr ⟨hrm, List.forall_mem_cons.mpr ⟨hsa, List.forall_mem_cons.mpr ⟨hva, fun _ h => nomatch h⟩⟩⟩
  have N : News h₀ L s.heap ((rd, _) :: [(rm, instObj 139 rd), (sa, listOf svs.toArray n3), (va, listOf vvs.toArray n4)]) := news_sub Nb fun p hp => (List.mem_cons.mp hp).elim (fun e => e ▸ upd_in2 (U (dictOf [] 0))) (hsub p)
  have hvl := ints_length hv
  have hvl' := strs_length hv'
  obtain ⟨tb, hb9⟩ := strs_at hv' hb
  obtain ⟨tp, hpv9⟩ := strs_at hv' hpv
  rw [show (placeS ns (last + 1)).toNat = (placeS ns (last + 1) + 1 - 1).toNat from by congr 1; omega] at hb9
  rw [show (placeS ns (first - 1)).toNat = (placeS ns (first - 1) + 1 - 1).toNat from by congr 1; omega] at hpv9
  have hr1 : @Ne Nat rd rm := ne_of_cls (N _ (.head _)).1 (N _ (.tail _ (.head _))).1 (fun e => Value.noConfusion (show Value.type "dict" = Value.ref 139 from e))
  have hr2 : @Ne Nat rd sa := ne_of_cls (N _ (.head _)).1 (N _ (.tail _ (.tail _ (.head _)))).1 (fun e => absurd (Value.type.inj (show Value.type "dict" = Value.type "list" from e)) (by decide))
  have hr3 : @Ne Nat rd va := ne_of_cls (N _ (.head _)).1 (N _ (.tail _ (.tail _ (.tail _ (.head _))))).1 (fun e => absurd (Value.type.inj (show Value.type "dict" = Value.type "list" from e)) (by decide))
  refine wpAny_call ?_
  k_dflt (refine' code_defG ?k1 ?k2 ?k3 N ?k5 ?kA ?kF ?kK ?k6 ?k7 ?k8 ?k9 ?kB ?_ ?c2 ?c3 ?c4 ?c5; (case kA => exact rfl); (case kF => exact rfl); (case kK => assumption); (case k1 => k_asm); (case k2 => k_asm); (case k3 => k_asm); (case k5 => k_asm); (case k6 => k_is); (case k7 => k_is); (case k8 => ktr_room); (case k9 => exact BindsTo.of_eq rfl); (case c5 => decide); (case kB => exact locs rfl); (case c2 => exact rfl); (case c3 => exact rfl); (case c4 => exact rfl); k_whole; intro g' L' h' FG' F' N' B' X' T' GS'; (try dsimp only); (try k_fold); refine toks_any fun tk9 => ?_; refine let_fr F' ?_; clear F'; intro m9 F'; refine let_A ?_; intro A9)
  (k_steps; repeat (any_goals ((first | ((with_reducible show Halt (wpAny _ _ (call (Value.ref 87) _) _ _ _)); refine Halt.go ?_; k_dflt (refine' C_place ?B9z ?F9z ?X9z ?T9z ?hk9z ?N9z ?hl9z ?hv9z ?hlen9z ?hs9z ?hdp9z ?hu9z ?_; (case B9z => k_asm); (case F9z => k_asm); (case X9z => k_asm); (case T9z => k_asm); (case hk9z => first | exact rfl | assumption); (case N9z => k_asm); (case hl9z => first | exact News.get (by k_asm) (by k_mem) | exact Fr.keep (by k_asm) _ _ (by assumption)); (case hv9z => assumption); (case hlen9z => omega); (case hs9z => assumption); (case hdp9z => ktr_room); (case hu9z => ktr_units); k_whole); intro t'q h'q tk'q st'q F'q N'q; (try k_sweep)) | ((with_reducible show Halt (wpAny _ _ (call (Value.ref 94) _) _ _ _)); refine Halt.go ?_; k_dflt (refine' C_like ?B9z ?F9z ?X9z ?T9z ?hk9z ?N9z ?hdp9z ?hu9z ?_; (case B9z => k_asm); (case F9z => k_asm); (case X9z => k_asm); (case T9z => k_asm); (case hk9z => first | exact rfl | assumption); (case N9z => k_asm); (case hdp9z => ktr_room); (case hu9z => ktr_units); k_whole); intro h'q tk'q st'q F'q N'q; (try k_sweep))); k_steps)))
  (with_reducible rename Fr _ _ _ _ => F0)
  (with_reducible rename News _ _ _ _ => N1)
  refine Halt.go ?_
  refine let_fr F0 ?_
  clear F0
  intro m8 F1
  refine cutR F1 N1 (fun vs' us' => IntsAre vs' (first :: if (b == v) = true then [] else [last + 1]) ∧ StrsAre us' (v :: if (b == v) = true then [] else [b])) ?_ ?_
  rotate_left
  · intro rest' hrest
    (try k_fold)
    (k_steps; repeat (any_goals ((first | ((with_reducible show Halt (wpAny _ _ (call (Value.ref 87) _) _ _ _)); refine Halt.go ?_; k_dflt (refine' C_place ?B9z ?F9z ?X9z ?T9z ?hk9z ?N9z ?hl9z ?hv9z ?hlen9z ?hs9z ?hdp9z ?hu9z ?_; (case B9z => k_asm); (case F9z => k_asm); (case X9z => k_asm); (case T9z => k_asm); (case hk9z => first | exact rfl | assumption); (case N9z => k_asm); (case hl9z => first | exact News.get (by k_asm) (by k_mem) | exact Fr.keep (by k_asm) _ _ (by assumption)); (case hv9z => assumption); (case hlen9z => omega); (case hs9z => assumption); (case hdp9z => ktr_room); (case hu9z => ktr_units); k_whole); intro t'q h'q tk'q st'q F'q N'q; (try k_sweep)) | ((with_reducible show Halt (wpAny _ _ (call (Value.ref 94) _) _ _ _)); refine Halt.go ?_; k_dflt (refine' C_like ?B9z ?F9z ?X9z ?T9z ?hk9z ?N9z ?hdp9z ?hu9z ?_; (case B9z => k_asm); (case F9z => k_asm); (case X9z => k_asm); (case T9z => k_asm); (case hk9z => first | exact rfl | assumption); (case N9z => k_asm); (case hdp9z => ktr_room); (case hu9z => ktr_units); k_whole); intro h'q tk'q st'q F'q N'q; (try k_sweep))); k_steps)))
    all_goals
      refine' hrest _ _ _ _ _ _ _ ⟨?i9, ?j9⟩ (by k_asm) (by k_asm) (by k_mem) (by k_mem) (by kcf_all)
      case i9 =>
        first
          | (rw [show (b == v) = true by assumption]; exact .cons _ _ .nil)
          | (rw [show (b == v) = false by assumption]; exact .cons _ _ (.cons _ _ .nil))
      case j9 =>
        first
          | (rw [show (b == v) = true by assumption]; exact .cons _ _ .nil)
          | (rw [show (b == v) = false by assumption]; exact .cons _ _ (.cons _ _ .nil))
  · clear N1
    intro h5 tk5 vs5 us5 k5 k6 hij F5 N5
    obtain ⟨hi5, hj5⟩ := hij
    have hl5 : vs5.length ≤ 2 := by rw [ints_length hi5]; split <;> simp
    have hl6 : us5.length ≤ 2 := by rw [strs_length hj5]; split <;> simp
    (try k_fold)
    (k_steps; repeat (any_goals ((first | ((with_reducible show Halt (wpAny _ _ (call (Value.ref 87) _) _ _ _)); refine Halt.go ?_; k_dflt (refine' C_place ?B9z ?F9z ?X9z ?T9z ?hk9z ?N9z ?hl9z ?hv9z ?hlen9z ?hs9z ?hdp9z ?hu9z ?_; (case B9z => k_asm); (case F9z => k_asm); (case X9z => k_asm); (case T9z => k_asm); (case hk9z => first | exact rfl | assumption); (case N9z => k_asm); (case hl9z => first | exact News.get (by k_asm) (by k_mem) | exact Fr.keep (by k_asm) _ _ (by assumption)); (case hv9z => assumption); (case hlen9z => omega); (case hs9z => assumption); (case hdp9z => ktr_room); (case hu9z => ktr_units); k_whole); intro t'q h'q tk'q st'q F'q N'q; (try k_sweep)) | ((with_reducible show Halt (wpAny _ _ (call (Value.ref 94) _) _ _ _)); refine Halt.go ?_; k_dflt (refine' C_like ?B9z ?F9z ?X9z ?T9z ?hk9z ?N9z ?hdp9z ?hu9z ?_; (case B9z => k_asm); (case F9z => k_asm); (case X9z => k_asm); (case T9z => k_asm); (case hk9z => first | exact rfl | assumption); (case N9z => k_asm); (case hdp9z => ktr_room); (case hu9z => ktr_units); k_whole); intro h'q tk'q st'q F'q N'q; (try k_sweep))); k_steps)))
    all_goals
      refine' hret _ _ _ _ _ _ _ _ (by k_asm) (newsTwo (news_updM (U _) Nb hsub (keepBut_of (by assumption) GS') ?n) ?a ?b) ?i ?j
      case n => exact news_sub (by k_asm) (by kcf_all)
      case a => exact news_of (by k_asm) _ (by k_mem)
      case b => exact news_of (by k_asm) _ (by k_mem)
      case i => exact ints_append (ints_append (ints_take hv _) hi5) (ints_drop hv _)
      case j => exact strs_append2 (strs_append2 (strs_take hv' _) hj5) (strs_drop hv' _)
end V15part
section V16part
theorem lines22 : True := by
  k_with_none
  (k_with "k_inst" => exact IsInst.at (by assumption) (by k_asm))
  (k_with "compareOp In str ref" => (k_here; (first | (with_reducible refine' in_22 ?Fq428w ?Xq428w ?_) | (with_reducible refine' in_23 ?Fq428w ?Xq428w ?_) | (with_reducible refine' in_24 ?Fq428w ?Xq428w ?_) | (with_reducible refine' in_25 ?Fq428w ?Xq428w ?_) | (with_reducible refine' in_26 ?Fq428w ?Xq428w ?_)); (case Fq428w => k_asm); (case Xq428w => k_asm); k_whole))
  (k_with "compareOp NotIn str ref" => (k_here; (with_reducible refine' notin_22 ?Fq429w ?Xq429w ?_); (case Fq429w => k_asm); (case Xq429w => k_asm); k_whole))
  (k_with "exec For Tuple Call cons nil" => (k_here; (rename Fr _ _ _ _ => lFzz); (with_unfolding_all refine' For_turns lFzz ?_; k_whole)))
  (k_with "call type:enumerate" => (k_here; (with_reducible show wpAny _ _ (call (Value.type _) [Value.ref _]) (fun xv s₁ => wpAny _ _ (pyIter xv) (fun it s₂ => TurnsAt _ _ _ _ _ _ _ _ _ it s₂) _ s₁) _ _); refine halt_ ?_))
  (k_with "TurnPost" => (dsimp only [TurnPost]))
  (k_with "compareOp In str ref" => (k_here; k_dflt (first | (refine' in_made isHang ?Nq433w ?mq433w ?iq433w ?pq433w ?_; (case Nq433w => k_asm); (case mq433w => k_mem); (case iq433w => repeat constructor); (case pq433w => rfl); k_whole) | (refine' in_made isPara ?Nq433w ?mq433w ?iq433w ?pq433w ?_; (case Nq433w => k_asm); (case mq433w => k_mem); (case iq433w => repeat constructor); (case pq433w => rfl); k_whole) | (refine' in_made isLetterS ?Nq433w ?mq433w ?iq433w ?pq433w ?_; (case Nq433w => k_asm); (case mq433w => k_mem); (case iq433w => repeat constructor); (case pq433w => rfl); k_whole) | (refine' in_made isStayS ?Nq433w ?mq433w ?iq433w ?pq433w ?_; (case Nq433w => k_asm); (case mq433w => k_mem); (case iq433w => repeat constructor); (case pq433w => rfl); k_whole))))
  (k_with "compareOp NotIn str ref" => (k_here; k_dflt (first | (refine' notin_made isTerm ?Nq434w ?mq434w ?iq434w ?pq434w ?_; (case Nq434w => k_asm); (case mq434w => k_mem); (case iq434w => repeat constructor); (case pq434w => rfl); k_whole) | (refine' notin_made isPara ?Nq434w ?mq434w ?iq434w ?pq434w ?_; (case Nq434w => k_asm); (case mq434w => k_mem); (case iq434w => repeat constructor); (case pq434w => rfl); k_whole))))
  (k_with "compareOp NotEq ref ref" => (k_here; k_dflt (refine' ne_unitsK ?Nq435w ?aq435w ?uq435w ?sq435w ?bq435w ?oq435w ?rq435w ?_; (case Nq435w => k_asm); (case aq435w => k_mem); (case uq435w => assumption); (case sq435w => kcf_all); (case bq435w => k_mem); (case oq435w => assumption); (case rq435w => ktr_units); k_whole)))
  (k_with "subscriptTail" => (k_here; (with_reducible show wpAny _ _ (subscriptTail _ _ (Value.ref _) (Value.int (-1) _)) _ _ _); k_dflt (refine' item_lastN ?Nq436w ?aq436w ?_ ?hq436w; (case Nq436w => k_asm); (case aq436w => k_mem); (case hq436w => with_unfolding_all rfl); k_whole)))
  (k_with "subscriptTail" => (k_here; (first | ((with_reducible show wpAny _ _ (subscriptTail _ _ (Value.ref _) (Value.int 0 _)) _ _ _); k_dflt (refine' item3_0 ?Nq437w ?aq437w ?sq437w ?_ ?hq437w; (case Nq437w => k_asm); (case aq437w => with_reducible assumption); (case sq437w => kcf_all); (case hq437w => with_unfolding_all rfl); k_whole)) | ((with_reducible show wpAny _ _ (subscriptTail _ _ (Value.ref _) (Value.int 1 _)) _ _ _); k_dflt (refine' item3_1 ?Nq437w ?aq437w ?sq437w ?_ ?hq437w; (case Nq437w => k_asm); (case aq437w => with_reducible assumption); (case sq437w => kcf_all); (case hq437w => with_unfolding_all rfl); k_whole)) | ((with_reducible show wpAny _ _ (subscriptTail _ _ (Value.ref _) (Value.int 2 _)) _ _ _); k_dflt (refine' item3_2 ?Nq437w ?aq437w ?sq437w ?_ ?hq437w; (case Nq437w => k_asm); (case aq437w => with_reducible assumption); (case sq437w => kcf_all); (case hq437w => with_unfolding_all rfl); k_whole)))))
  (k_with "setItem ref int ref" => (k_here; k_dflt (refine' setLast_K ?Fq438w ?Nq438w ?Uq438w ?_; (case Fq438w => k_asm); (case Nq438w => k_asm); (case Uq438w => k_upd); k_whole); intro _ _ _; (try k_sweep)))
  (k_with "k_all" => assumption)
  (k_with "size_fits" => ((rw [PySem.sizeLine_eq]); (simp only [List.size_toArray, List.length_append, List.length_cons, List.length_nil]); omega))
  (k_with "CompSrcT" => (k_here; k_dflt (refine' LCt.CompSrcT.ledger ?hhq441w ?Fq441w ?Nq441w ?mq441w ?zq441w ?_; (case hhq441w => exact rfl); (case Fq441w => k_asm); (case Nq441w => k_asm); (case mq441w => k_mem); (case zq441w => size_fits)); intro _; refine halt_ ?_))
  (k_with "exec Assign cons ListComp" => (k_here; lct_look; k_dflt (refine LCt.Assign_ListComp_T (F₀ := by k_asm) (by rfl) (by with_unfolding_all rfl) (by with_unfolding_all rfl) (by decide) (by rfl) (by decide) (by rfl) (by rfl) (by rfl) ?_)))
  (k_with "CompEnd" => (refine LCg.CompEnd.intro (by assumption) (by assumption) _ (fun _ h9 => h9) (by first | assumption | (simp only [LCg.Off3, and_true]; assumption)) (by lcg_src) ?_; first | exact ⟨⟨_, rfl⟩, rfl, by first | assumption | exact decide_eq_true (by assumption)⟩ | exact ⟨rfl, by first | assumption | exact decide_eq_false (by assumption)⟩))
  (k_with "call builtin:len" => (k_here; (with_reducible show wpAny _ _ (call (Value.builtin "len") [Value.ref _]) _ _ _); k_dflt (refine' kst_len ?k1q444w ?k2q444w ?k3q444w ?k4q444w ?_; (case k1q444w => k_asm); (case k2q444w => k_mem); (case k3q444w => exact rfl); (case k4q444w => omega); k_whole)))
  (k_with "subscriptTail Name Slice ref ref" => (k_here; (with_reducible show wpAny _ _ (subscriptTail _ (PySem.Expr.Slice _ _ none _) (Value.ref _) (Value.ref _)) _ _ _); k_dflt (refine' slice_K ?Fq445w ?Nq445w ?lq445w ?pq445w ?qq445w ?_ ?sq445w ?tq445w ?zq445w; (case Fq445w => k_asm); (case Nq445w => k_asm); (case lq445w => first | exact News.isList (by k_asm) (by k_mem) | exact listBase (by k_asm) (by assumption)); (case pq445w => kmk_part); (case qq445w => kmk_part); (case sq445w => with_unfolding_all rfl); (case tq445w => kmk_pure); (case zq445w => size_fits)); intro _ _ _ Nzz l1zz; (try k_lt l1zz); (try dsimp only at Nzz); (try k_sweep)))
  (k_with "compareOp In ref ref" => (k_here; k_dflt (refine' in_two ?Nq446w ?xq446w ?vq446w ?tq446w ?aq446w ?vaq446w ?bq446w ?vbq446w ?okq446w ?okaq446w ?okbq446w ?uq446w ?_; (case Nq446w => k_asm); (case xq446w => k_mem); (case vq446w => exact strs_pick (by assumption)); (case tq446w => k_mem); (case aq446w => k_mem); (case vaq446w => exact .cons _ _ .nil); (case bq446w => k_mem); (case vbq446w => exact .cons _ _ .nil); (case okq446w => exact pick_sub (by assumption)); (case okaq446w => decide +kernel); (case okbq446w => decide +kernel); (case uq446w => ktr_units); k_whole)))
  (k_with "exec While" => (k_here; refine halt_ ?_))
  (k_with "compareOp NotEq ref ref" => (k_here; k_dflt (first | (refine' ne_bothK ?Nq448w ?aq448w ?bq448w ?uq448w ?_; (case Nq448w => k_asm); (case aq448w => k_mem); (case bq448w => k_mem); (case uq448w => ktr_units); k_whole) | (refine' ne_snocK ?Nq448w ?aq448w ?vq448w ?bq448w ?oq448w ?uq448w ?_; (case Nq448w => k_asm); (case aq448w => k_mem); (case vq448w => assumption); (case bq448w => k_mem); (case oq448w => assumption); (case uq448w => ktr_units); k_whole))))
  (k_with "compareOp Eq ref ref" => (k_here; k_dflt (first | (refine' eq_bothK ?Nq449w ?aq449w ?bq449w ?uq449w ?_; (case Nq449w => k_asm); (case aq449w => k_mem); (case bq449w => k_mem); (case uq449w => ktr_units); k_whole) | (refine' eq_snocK ?Nq449w ?aq449w ?vq449w ?bq449w ?oq449w ?uq449w ?_; (case Nq449w => k_asm); (case aq449w => k_mem); (case vq449w => assumption); (case bq449w => k_mem); (case oq449w => assumption); (case uq449w => ktr_units); k_whole))))
  (k_with "call builtin:list.pop" => (k_here; (with_reducible show wpAny _ _ (call (Value.builtin _) [Value.ref _]) _ _ _); k_dflt (refine' pop_snoc ?Fq450w ?Nq450w ?Uq450w ?zq450w ?_; (case Fq450w => k_asm); (case Nq450w => k_asm); (case Uq450w => k_upd); (case zq450w => size_fits); k_whole); intro _ _ _; (try k_sweep)))
  (k_with "call ref" => (k_here; refine halt_ ?_))
  (k_with "k_ne" => (apply nn8; (try dsimp only); with_reducible ((fail_if_success show @Ne Nat 987654321 _); (fail_if_success show @Ne Nat _ 987654321); first | assumption | (apply nq1; assumption) | (apply nq2; assumption) | (apply nq3; assumption) | (apply nc1; assumption; (first | exact And.left | exact fun z => z.2.1 | exact fun z => z.2.2.1 | exact fun z => z.2.2.2.1 | exact fun z => z.2.2.2.2.1 | exact fun z => z.2.2.2.2.2.1 | exact fun z => z.2.2.2.2.2.2.1 | exact fun z => z.2.2.2.2.2.2.2.1 | exact fun z => z.2.2.2.2.2.2.2.2.1 | exact fun z => z.2.2.2.2.2.2.2.2.2.1 | exact fun z => z.2.2.2.2.2.2.2.2.2.2.1 | exact fun z => z.2.2.2.2.2.2.2.2.2.2.2.1 | exact fun z => z.2.2.2.2.2.2.2.2.2.2.2.2.1 | exact fun z => z.2.2.2.2.2.2.2.2.2.2.2.2.2.1 | exact And.right | exact fun z => z.2.2 | exact fun z => z.2.2.2 | exact fun z => z.2.2.2.2 | exact fun z => z.2.2.2.2.2 | exact fun z => z.2.2.2.2.2.2 | exact fun z => z.2.2.2.2.2.2.2 | exact fun z => z.2.2.2.2.2.2.2.2 | exact fun z => z.2.2.2.2.2.2.2.2.2 | exact fun z => z.2.2.2.2.2.2.2.2.2.2 | exact fun z => z.2.2.2.2.2.2.2.2.2.2.2 | exact fun z => z.2.2.2.2.2.2.2.2.2.2.2.2 | exact fun z => z.2.2.2.2.2.2.2.2.2.2.2.2.2)) | (apply nc2; assumption; (first | exact And.left | exact fun z => z.2.1 | exact fun z => z.2.2.1 | exact fun z => z.2.2.2.1 | exact fun z => z.2.2.2.2.1 | exact fun z => z.2.2.2.2.2.1 | exact fun z => z.2.2.2.2.2.2.1 | exact fun z => z.2.2.2.2.2.2.2.1 | exact fun z => z.2.2.2.2.2.2.2.2.1 | exact fun z => z.2.2.2.2.2.2.2.2.2.1 | exact fun z => z.2.2.2.2.2.2.2.2.2.2.1 | exact fun z => z.2.2.2.2.2.2.2.2.2.2.2.1 | exact fun z => z.2.2.2.2.2.2.2.2.2.2.2.2.1 | exact fun z => z.2.2.2.2.2.2.2.2.2.2.2.2.2.1 | exact And.right | exact fun z => z.2.2 | exact fun z => z.2.2.2 | exact fun z => z.2.2.2.2 | exact fun z => z.2.2.2.2.2 | exact fun z => z.2.2.2.2.2.2 | exact fun z => z.2.2.2.2.2.2.2 | exact fun z => z.2.2.2.2.2.2.2.2 | exact fun z => z.2.2.2.2.2.2.2.2.2 | exact fun z => z.2.2.2.2.2.2.2.2.2.2 | exact fun z => z.2.2.2.2.2.2.2.2.2.2.2 | exact fun z => z.2.2.2.2.2.2.2.2.2.2.2.2 | exact fun z => z.2.2.2.2.2.2.2.2.2.2.2.2.2)) | (apply nc3; assumption; (first | exact And.left | exact fun z => z.2.1 | exact fun z => z.2.2.1 | exact fun z => z.2.2.2.1 | exact fun z => z.2.2.2.2.1 | exact fun z => z.2.2.2.2.2.1 | exact fun z => z.2.2.2.2.2.2.1 | exact fun z => z.2.2.2.2.2.2.2.1 | exact fun z => z.2.2.2.2.2.2.2.2.1 | exact fun z => z.2.2.2.2.2.2.2.2.2.1 | exact fun z => z.2.2.2.2.2.2.2.2.2.2.1 | exact fun z => z.2.2.2.2.2.2.2.2.2.2.2.1 | exact fun z => z.2.2.2.2.2.2.2.2.2.2.2.2.1 | exact fun z => z.2.2.2.2.2.2.2.2.2.2.2.2.2.1 | exact And.right | exact fun z => z.2.2 | exact fun z => z.2.2.2 | exact fun z => z.2.2.2.2 | exact fun z => z.2.2.2.2.2 | exact fun z => z.2.2.2.2.2.2 | exact fun z => z.2.2.2.2.2.2.2 | exact fun z => z.2.2.2.2.2.2.2.2 | exact fun z => z.2.2.2.2.2.2.2.2.2 | exact fun z => z.2.2.2.2.2.2.2.2.2.2 | exact fun z => z.2.2.2.2.2.2.2.2.2.2.2 | exact fun z => z.2.2.2.2.2.2.2.2.2.2.2.2 | exact fun z => z.2.2.2.2.2.2.2.2.2.2.2.2.2)) | (apply nc4; assumption; (first | exact And.left | exact fun z => z.2.1 | exact fun z => z.2.2.1 | exact fun z => z.2.2.2.1 | exact fun z => z.2.2.2.2.1 | exact fun z => z.2.2.2.2.2.1 | exact fun z => z.2.2.2.2.2.2.1 | exact fun z => z.2.2.2.2.2.2.2.1 | exact fun z => z.2.2.2.2.2.2.2.2.1 | exact fun z => z.2.2.2.2.2.2.2.2.2.1 | exact fun z => z.2.2.2.2.2.2.2.2.2.2.1 | exact fun z => z.2.2.2.2.2.2.2.2.2.2.2.1 | exact fun z => z.2.2.2.2.2.2.2.2.2.2.2.2.1 | exact fun z => z.2.2.2.2.2.2.2.2.2.2.2.2.2.1 | exact And.right | exact fun z => z.2.2 | exact fun z => z.2.2.2 | exact fun z => z.2.2.2.2 | exact fun z => z.2.2.2.2.2 | exact fun z => z.2.2.2.2.2.2 | exact fun z => z.2.2.2.2.2.2.2 | exact fun z => z.2.2.2.2.2.2.2.2 | exact fun z => z.2.2.2.2.2.2.2.2.2 | exact fun z => z.2.2.2.2.2.2.2.2.2.2 | exact fun z => z.2.2.2.2.2.2.2.2.2.2.2 | exact fun z => z.2.2.2.2.2.2.2.2.2.2.2.2 | exact fun z => z.2.2.2.2.2.2.2.2.2.2.2.2.2)))))
  (k_with "k_upd" => first | (apply uh8; k_all) | (apply ut8; k_ne; k_upd))
  (k_with "k_updF" => first | (apply fh8; k_all) | (apply ft8; k_ne; k_updF))
  (k_with "k_all" => first | exact List.forall_mem_nil _ | (apply an8; k_ne; k_all))
  (k_with "kcf_all" => first | exact fun _ hp => hp | (apply sb8; (focus kcf_m); kcf_all))
  (k_with "ktr_units" => first | exact uu2 hu rfl | exact uu1 hu rfl | exact uu3 hu rfl | exact uu4 hu rfl)
  (k_with "ktr_room" => first | exact uu2 hdp rfl | exact uu1 hdp rfl | exact uu3 hdp rfl | exact uu4 hdp rfl)
  (k_with "subscriptTail Name UnaryOp ref int" => k_extra "subscriptTail")
  (k_with "getMethod ref" => (k_here; (with_reducible show wpAny _ _ (getMethod (Value.ref _) (Str.ofString "get") _) _ _ _); k_dflt (refine' kdg_method (knd := PySem.strKind _ _) ?Nq460w ?mq460w ?dq460w ?_; (case Nq460w => k_asm); (case mq460w => k_mem); (case dq460w => assumption); k_whole)))
  (k_with "call builtin:dict.get" => (k_here; k_dflt (refine' kdg_get1 (knd := PySem.strKind _ _) ?Nq461w ?mq461w ?dq461w ?lq461w (strKind_is _ _ _ _) (some _) ?xq461w ?_; (case Nq461w => k_asm); (case mq461w => k_mem); (case dq461w => assumption); (case lq461w => assumption); (case xq461w => assumption); k_whole); (try simp only [Option.getD_some])))
  exact trivial
theorem place_one {x : Int} (h : 0 ≤ x) : placeS [0] x = 0 := by unfold placeS; simp [h]
set_option maxRecDepth 100000 in
set_option maxHeartbeats 1000000 in
theorem C_dput0 {w : World} {mean : ExcName → Option Value} {mg mb : Str → Option Value} {dp un : Nat} {gd : Option (List Code)} {cn : Str} {cs : Scope} {a : Addr} {ccd : Value} {cl : List (Str × Addr)} {outer : List Env} {A₀ : Around} {base h₀ : Heap} {L : Addr} {m : Str → Option Value} {s : Shared} {Q E : Value → Shared → Prop} (B : Below A₀ base outer h₀) (F : Fr h₀ L s.heap m) (X : (hd.heap_1 w.params).In h₀) (T : (Top view9 (looseW view9 []) mean mg mb h₀)) (hk : cs.kind = .function) {d dd mp df pr wd : Addr} {om odf : Obj} {nf n0 : Nat} {t0 t1 t2 t3 tn a1 a2 a3 : Tok} {first last : Int} {v : Str} {big : List (Addr × Obj)} {big' : Obj → List (Addr × Obj)}
    (Nb : News h₀ L s.heap big) (hsub : ∀ p ∈ [(d, instObj 188 dd), (dd, dictOf [⟨PyData.keyHash w.params (Str.ofString "defaults"), .str (Str.ofString "defaults") t0, .ref df⟩, ⟨PyData.keyHash w.params (Str.ofString "maps"), .str (Str.ofString "maps") t1, .ref mp⟩, ⟨PyData.keyHash w.params (Str.ofString "properties"), .str (Str.ofString "properties") t2, .ref pr⟩, ⟨PyData.keyHash w.params (Str.ofString "words"), .str (Str.ofString "words") t3, .ref wd⟩] n0), (df, odf)], p ∈ big) (U : ∀ o', Upd mp om o' big (big' o'))
    (hom : om.IsDictOf (PySem.strKind PySem.Challenge.rw_on0369_01.row.prog w) []) (hmp : (mp == sysModules) = false) (hodf : DLen PySem.Challenge.rw_on0369_01.row.prog w odf nf (fun x => ∃ t, x = some (.str (Str.ofString "Other") t))) (hdf : (df == sysModules) = false) (hn1 : @Ne Nat d mp) (hn2 : @Ne Nat dd mp) (hn3 : @Ne Nat df mp)
    (hf : 0 < first) (hfl : first ≤ last) (hl9 : last < 1000000) (hne : (Str.ofString "Other" == v) = false)
    (hdp : dp + 12 < recursionLimit) (hu : un + 200 < cLine)
    (hret : ∀ rm rd sa va om' u0 u1 u2 u3 svs vvs na nv h' tk', Fr h₀ L h' m → News h₀ L h' ((sa, listOf svs.toArray na) :: (va, listOf vvs.toArray nv) :: (rm, instObj 139 rd) :: (rd, dictOf [⟨PyData.keyHash w.params (Str.ofString "default"), .str (Str.ofString "default") u0, .str (Str.ofString "Other") u1⟩, ⟨PyData.keyHash w.params (Str.ofString "starts"), .str (Str.ofString "starts") u2, .ref sa⟩, ⟨PyData.keyHash w.params (Str.ofString "values"), .str (Str.ofString "values") u3, .ref va⟩] 3) :: big' om') →
      om'.IsDictOf (PySem.strKind PySem.Challenge.rw_on0369_01.row.prog w) [(Str.ofString "sb", .ref rm)] → IntsAre svs [0, first, last + 1] → StrsAre vvs [Str.ofString "Other", v, Str.ofString "Other"] → s.heap.get? rd = none → (∀ b ob, s.heap.get? b = some ob → @Ne Nat b mp → @Ne Nat b d → @Ne Nat b dd → @Ne Nat b df → @Ne Nat b rm ∧ @Ne Nat b rd ∧ @Ne Nat b sa ∧ @Ne Nat b va) → Q .none { s with heap := h', toks := tk' }) :
    wpAny (model PySem.Challenge.rw_on0369_01.row.prog w) (ktrTop dp un gd cn cs L a ccd cl outer) (call (.ref 171) [.ref d, .str (Str.ofString "sb") tn, .int first a1, .int last a2, .str v a3]) Q E s := by
  w_top off
  have N : News h₀ L s.heap ((mp, om) :: [(d, instObj 188 dd), (dd, _), (df, odf)]) := news_sub Nb fun p hp => (List.mem_cons.mp hp).elim (fun e => e ▸ upd_in2 (U (dictOf [] 0))) (hsub p)
  obtain ⟨kvs, hkv, hkl, tx, hx⟩ := hodf
  (refine wpAny_call ?_; k_dflt (refine' code_defG ?k1 ?k2 ?k3 N ?k5 ?kA ?kF ?kK ?k6 ?k7 ?k8 ?k9 ?kB ?_ ?c2 ?c3 ?c4 ?c5; (case kA => exact rfl); (case kF => exact rfl); (case kK => assumption); (case k1 => k_asm); (case k2 => k_asm); (case k3 => k_asm); (case k5 => k_asm); (case k6 => k_is); (case k7 => k_is); (case k8 => ktr_room); (case k9 => exact BindsTo.of_eq rfl); (case c5 => decide); (case kB => exact locs rfl); (case c2 => exact rfl); (case c3 => exact rfl); (case c4 => exact rfl); k_whole; intro g' L' h' FG' F' N' B' X' T' GS'; (try dsimp only); (try k_fold); refine toks_any fun tk9 => ?_; refine let_fr F' ?_; clear F'; intro m9 F'))
  have hp9 := place_one (x := first - 1) (by omega)
  have hp8 := place_one (x := last + 1) (by omega)
  (k_steps; repeat (any_goals ((first | ((with_reducible show Halt (wpAny _ _ (call (Value.ref 185) _) _ _ _)); refine Halt.go ?_; refine wpAny_call ?_; k_dflt (refine' code_defG ?k19z ?k29z ?k39z ?k49z ?k59z ?kA9z ?kF9z ?kK9z ?k69z ?k79z ?k89z ?k99z ?kB9z ?_ ?c29z ?c39z ?c49z ?c59z; (case kA9z => exact rfl); (case kF9z => exact rfl); (case kK9z => first | exact rfl | assumption); (case k19z => k_asm); (case k29z => k_asm); (case k39z => k_asm); (case k49z => k_asm); (case k59z => k_asm); (case k69z => k_is); (case k79z => k_is); (case k89z => ktr_room); (case k99z => exact BindsTo.of_eq rfl); (case c59z => decide); (case kB9z => exact locs rfl); (case c29z => exact rfl); (case c39z => exact rfl); (case c49z => exact rfl); k_whole); intro g'q L'q h'q FG'q F'q N'q B'q X'q T'q GS'q; (try dsimp only); (try k_fold)) | ((with_reducible show Halt (wpAny _ _ (call (Value.ref _) _) _ _ _)); refine Halt.go ?_; k_dflt (refine' call_cls ?k19z ?k29z ?k39z ?k49z ?k59z ?k69z ?_; (case k19z => k_asm); (case k29z => k_asm); (case k39z => k_asm); (case k49z => k_is); (case k59z => k_is); (case k69z => k_is); k_whole; intro x'q d'q h'q F'q N'q l1 l2; (try k_lt l1); (try k_lt2 l2); (try k_sweep)); k_dflt (refine' code_defG ?k19z ?k29z ?k39z ?k49z ?k59z ?kA9z ?kF9z ?kK9z ?k69z ?k79z ?k89z ?k99z ?kB9z ?_ ?c29z ?c39z ?c49z ?c59z; (case kA9z => exact rfl); (case kF9z => exact rfl); (case kK9z => first | exact rfl | assumption); (case k19z => k_asm); (case k29z => k_asm); (case k39z => k_asm); (case k49z => k_asm); (case k59z => k_asm); (case k69z => k_is); (case k79z => k_is); (case k89z => ktr_room); (case k99z => exact BindsTo.of_eq rfl); (case c59z => decide); (case kB9z => exact locs rfl); (case c29z => exact rfl); (case c39z => exact rfl); (case c49z => exact rfl); k_whole); intro g'q L'q h'q FG'q F'q N'q B'q X'q T'q GS'q; (try dsimp only); (try k_fold))); k_steps)))
  refine Halt.go ?_
  refine' C_rput (ns := [0]) (ks := [Str.ofString "Other"]) (b := Str.ofString "Other") (pv := Str.ofString "Other") ?B ?F ?X ?T ?hk ?N ?rm ?sa ?va ?U ?hv ?hv' ?hlen ?kl ?hs ?f ?fl ?l9 ?p0 ?p1 ?p2 ?p3 ?bb ?pp ?ne ?hdp ?hu ?_
  case B => k_asm
  case F => k_asm
  case X => k_asm
  case T => k_asm
  case hk => first | exact rfl | assumption
  case N => k_asm
  case rm => k_mem
  case U => (intro o1; k_upd)
  case sa => k_mem
  case va => k_mem
  case hv => exact .cons _ _ .nil
  case hv' => exact .cons _ _ .nil
  case hlen => decide
  case kl => rfl
  case hs => exact List.pairwise_singleton _ _
  case f => omega
  case fl => exact hfl
  case l9 => exact hl9
  case p0 => rw [hp9]; decide
  case p1 => rw [hp9]; decide
  case p2 => rw [hp8]; decide
  case p3 => rw [hp8]; decide
  case bb => rw [hp8]; rfl
  case pp => rw [hp9]; rfl
  case ne => exact hne
  case hdp => ktr_room
  case hu => ktr_units
  intro sa' va' svs' vvs' na' nv' h' tk' F' N' hi' hj'
  rw [hne] at hi' hj'
  simp only [rputN, rputK, hp8, hp9] at hi' hj'
  (try dsimp only at N')
  k_steps
  refine' hret _ _ sa' va' _ _ _ _ _ svs' vvs' na' nv' h' tk' (by k_asm) (newsTwo (newsTwo (news_updM (U _) Nb hsub (keepBut_of F' GS') ?base) ?c ?e) ?a ?b) ?d ?i ?j ?f ?g
  case base => exact news_sub (by k_asm) (by kcf_all)
  case c => exact news_of (by k_asm) _ (by k_mem)
  case e => exact news_of (by k_asm) _ (by k_mem)
  case a => exact news_of (by k_asm) _ (by k_mem)
  case b => exact news_of (by k_asm) _ (by k_mem)
  case d => assumption
  case i => exact hi'
  case j => exact hj'
  case f => exact fresh_of GS' N' (by k_mem) (by simp only [List.map_cons, List.map_nil, List.mem_cons, List.not_mem_nil, or_false, not_or]; repeat' (first | (exact by k_ne) | apply And.intro))
  case g =>
    intro b ob hb b1 b2 b3 b4
    have hb' : b ∉ List.map (fun x => x.1) [(mp, om), (d, instObj 188 dd), (dd, instObj 188 dd), (df, odf)] := by
      simp only [List.map_cons, List.map_nil, List.mem_cons, List.not_mem_nil, or_false, not_or]
      exact ⟨b1, b2, b3, b4⟩
    exact ⟨ne_made GS' N' (by k_mem) b ob hb hb', ne_made GS' N' (by k_mem) b ob hb hb', ne_made GS' N' (by k_mem) b ob hb hb', ne_made GS' N' (by k_mem) b ob hb hb'⟩
end V16part
section V17part
theorem lines23 : True := by
  k_with_none
  (k_with "k_inst" => exact IsInst.at (by assumption) (by k_asm))
  (k_with "compareOp In str ref" => (k_here; (first | (with_reducible refine' in_22 ?Fq463w ?Xq463w ?_) | (with_reducible refine' in_23 ?Fq463w ?Xq463w ?_) | (with_reducible refine' in_24 ?Fq463w ?Xq463w ?_) | (with_reducible refine' in_25 ?Fq463w ?Xq463w ?_) | (with_reducible refine' in_26 ?Fq463w ?Xq463w ?_)); (case Fq463w => k_asm); (case Xq463w => k_asm); k_whole))
  (k_with "compareOp NotIn str ref" => (k_here; (with_reducible refine' notin_22 ?Fq464w ?Xq464w ?_); (case Fq464w => k_asm); (case Xq464w => k_asm); k_whole))
  (k_with "exec For Tuple Call cons nil" => (k_here; (rename Fr _ _ _ _ => lFzz); (with_unfolding_all refine' For_turns lFzz ?_; k_whole)))
  (k_with "call type:enumerate" => (k_here; (with_reducible show wpAny _ _ (call (Value.type _) [Value.ref _]) (fun xv s₁ => wpAny _ _ (pyIter xv) (fun it s₂ => TurnsAt _ _ _ _ _ _ _ _ _ it s₂) _ s₁) _ _); refine halt_ ?_))
  (k_with "TurnPost" => (dsimp only [TurnPost]))
  (k_with "compareOp In str ref" => (k_here; k_dflt (first | (refine' in_made isHang ?Nq468w ?mq468w ?iq468w ?pq468w ?_; (case Nq468w => k_asm); (case mq468w => k_mem); (case iq468w => repeat constructor); (case pq468w => rfl); k_whole) | (refine' in_made isPara ?Nq468w ?mq468w ?iq468w ?pq468w ?_; (case Nq468w => k_asm); (case mq468w => k_mem); (case iq468w => repeat constructor); (case pq468w => rfl); k_whole) | (refine' in_made isLetterS ?Nq468w ?mq468w ?iq468w ?pq468w ?_; (case Nq468w => k_asm); (case mq468w => k_mem); (case iq468w => repeat constructor); (case pq468w => rfl); k_whole) | (refine' in_made isStayS ?Nq468w ?mq468w ?iq468w ?pq468w ?_; (case Nq468w => k_asm); (case mq468w => k_mem); (case iq468w => repeat constructor); (case pq468w => rfl); k_whole))))
  (k_with "compareOp NotIn str ref" => (k_here; k_dflt (first | (refine' notin_made isTerm ?Nq469w ?mq469w ?iq469w ?pq469w ?_; (case Nq469w => k_asm); (case mq469w => k_mem); (case iq469w => repeat constructor); (case pq469w => rfl); k_whole) | (refine' notin_made isPara ?Nq469w ?mq469w ?iq469w ?pq469w ?_; (case Nq469w => k_asm); (case mq469w => k_mem); (case iq469w => repeat constructor); (case pq469w => rfl); k_whole))))
  (k_with "compareOp NotEq ref ref" => (k_here; k_dflt (refine' ne_unitsK ?Nq470w ?aq470w ?uq470w ?sq470w ?bq470w ?oq470w ?rq470w ?_; (case Nq470w => k_asm); (case aq470w => k_mem); (case uq470w => assumption); (case sq470w => kcf_all); (case bq470w => k_mem); (case oq470w => assumption); (case rq470w => ktr_units); k_whole)))
  (k_with "subscriptTail" => (k_here; (with_reducible show wpAny _ _ (subscriptTail _ _ (Value.ref _) (Value.int (-1) _)) _ _ _); k_dflt (refine' item_lastN ?Nq471w ?aq471w ?_ ?hq471w; (case Nq471w => k_asm); (case aq471w => k_mem); (case hq471w => with_unfolding_all rfl); k_whole)))
  (k_with "subscriptTail" => (k_here; (first | ((with_reducible show wpAny _ _ (subscriptTail _ _ (Value.ref _) (Value.int 0 _)) _ _ _); k_dflt (refine' item3_0 ?Nq472w ?aq472w ?sq472w ?_ ?hq472w; (case Nq472w => k_asm); (case aq472w => with_reducible assumption); (case sq472w => kcf_all); (case hq472w => with_unfolding_all rfl); k_whole)) | ((with_reducible show wpAny _ _ (subscriptTail _ _ (Value.ref _) (Value.int 1 _)) _ _ _); k_dflt (refine' item3_1 ?Nq472w ?aq472w ?sq472w ?_ ?hq472w; (case Nq472w => k_asm); (case aq472w => with_reducible assumption); (case sq472w => kcf_all); (case hq472w => with_unfolding_all rfl); k_whole)) | ((with_reducible show wpAny _ _ (subscriptTail _ _ (Value.ref _) (Value.int 2 _)) _ _ _); k_dflt (refine' item3_2 ?Nq472w ?aq472w ?sq472w ?_ ?hq472w; (case Nq472w => k_asm); (case aq472w => with_reducible assumption); (case sq472w => kcf_all); (case hq472w => with_unfolding_all rfl); k_whole)))))
  (k_with "setItem ref int ref" => (k_here; k_dflt (refine' setLast_K ?Fq473w ?Nq473w ?Uq473w ?_; (case Fq473w => k_asm); (case Nq473w => k_asm); (case Uq473w => k_upd); k_whole); intro _ _ _; (try k_sweep)))
  (k_with "k_all" => assumption)
  (k_with "size_fits" => ((rw [PySem.sizeLine_eq]); (simp only [List.size_toArray, List.length_append, List.length_cons, List.length_nil]); omega))
  (k_with "CompSrcT" => (k_here; k_dflt (refine' LCt.CompSrcT.ledger ?hhq476w ?Fq476w ?Nq476w ?mq476w ?zq476w ?_; (case hhq476w => exact rfl); (case Fq476w => k_asm); (case Nq476w => k_asm); (case mq476w => k_mem); (case zq476w => size_fits)); intro _; refine halt_ ?_))
  (k_with "exec Assign cons ListComp" => (k_here; lct_look; k_dflt (refine LCt.Assign_ListComp_T (F₀ := by k_asm) (by rfl) (by with_unfolding_all rfl) (by with_unfolding_all rfl) (by decide) (by rfl) (by decide) (by rfl) (by rfl) (by rfl) ?_)))
  (k_with "CompEnd" => (refine LCg.CompEnd.intro (by assumption) (by assumption) _ (fun _ h9 => h9) (by first | assumption | (simp only [LCg.Off3, and_true]; assumption)) (by lcg_src) ?_; first | exact ⟨⟨_, rfl⟩, rfl, by first | assumption | exact decide_eq_true (by assumption)⟩ | exact ⟨rfl, by first | assumption | exact decide_eq_false (by assumption)⟩))
  (k_with "call builtin:len" => (k_here; (with_reducible show wpAny _ _ (call (Value.builtin "len") [Value.ref _]) _ _ _); k_dflt (refine' kst_len ?k1q479w ?k2q479w ?k3q479w ?k4q479w ?_; (case k1q479w => k_asm); (case k2q479w => k_mem); (case k3q479w => exact rfl); (case k4q479w => omega); k_whole)))
  (k_with "subscriptTail Name Slice ref ref" => (k_here; (with_reducible show wpAny _ _ (subscriptTail _ (PySem.Expr.Slice _ _ none _) (Value.ref _) (Value.ref _)) _ _ _); k_dflt (refine' slice_K ?Fq480w ?Nq480w ?lq480w ?pq480w ?qq480w ?_ ?sq480w ?tq480w ?zq480w; (case Fq480w => k_asm); (case Nq480w => k_asm); (case lq480w => first | exact News.isList (by k_asm) (by k_mem) | exact listBase (by k_asm) (by assumption)); (case pq480w => kmk_part); (case qq480w => kmk_part); (case sq480w => with_unfolding_all rfl); (case tq480w => kmk_pure); (case zq480w => size_fits)); intro _ _ _ Nzz l1zz; (try k_lt l1zz); (try dsimp only at Nzz); (try k_sweep)))
  (k_with "compareOp In ref ref" => (k_here; k_dflt (refine' in_two ?Nq481w ?xq481w ?vq481w ?tq481w ?aq481w ?vaq481w ?bq481w ?vbq481w ?okq481w ?okaq481w ?okbq481w ?uq481w ?_; (case Nq481w => k_asm); (case xq481w => k_mem); (case vq481w => exact strs_pick (by assumption)); (case tq481w => k_mem); (case aq481w => k_mem); (case vaq481w => exact .cons _ _ .nil); (case bq481w => k_mem); (case vbq481w => exact .cons _ _ .nil); (case okq481w => exact pick_sub (by assumption)); (case okaq481w => decide +kernel); (case okbq481w => decide +kernel); (case uq481w => ktr_units); k_whole)))
  (k_with "exec While" => (k_here; refine halt_ ?_))
  (k_with "compareOp NotEq ref ref" => (k_here; k_dflt (first | (refine' ne_bothK ?Nq483w ?aq483w ?bq483w ?uq483w ?_; (case Nq483w => k_asm); (case aq483w => k_mem); (case bq483w => k_mem); (case uq483w => ktr_units); k_whole) | (refine' ne_snocK ?Nq483w ?aq483w ?vq483w ?bq483w ?oq483w ?uq483w ?_; (case Nq483w => k_asm); (case aq483w => k_mem); (case vq483w => assumption); (case bq483w => k_mem); (case oq483w => assumption); (case uq483w => ktr_units); k_whole))))
  (k_with "compareOp Eq ref ref" => (k_here; k_dflt (first | (refine' eq_bothK ?Nq484w ?aq484w ?bq484w ?uq484w ?_; (case Nq484w => k_asm); (case aq484w => k_mem); (case bq484w => k_mem); (case uq484w => ktr_units); k_whole) | (refine' eq_snocK ?Nq484w ?aq484w ?vq484w ?bq484w ?oq484w ?uq484w ?_; (case Nq484w => k_asm); (case aq484w => k_mem); (case vq484w => assumption); (case bq484w => k_mem); (case oq484w => assumption); (case uq484w => ktr_units); k_whole))))
  (k_with "call builtin:list.pop" => (k_here; (with_reducible show wpAny _ _ (call (Value.builtin _) [Value.ref _]) _ _ _); k_dflt (refine' pop_snoc ?Fq485w ?Nq485w ?Uq485w ?zq485w ?_; (case Fq485w => k_asm); (case Nq485w => k_asm); (case Uq485w => k_upd); (case zq485w => size_fits); k_whole); intro _ _ _; (try k_sweep)))
  (k_with "call ref" => (k_here; refine halt_ ?_))
  (k_with "k_ne" => (apply nn8; (try dsimp only); with_reducible ((fail_if_success show @Ne Nat 987654321 _); (fail_if_success show @Ne Nat _ 987654321); first | assumption | (apply nq1; assumption) | (apply nq2; assumption) | (apply nq3; assumption) | (apply nc1; assumption; (first | exact And.left | exact fun z => z.2.1 | exact fun z => z.2.2.1 | exact fun z => z.2.2.2.1 | exact fun z => z.2.2.2.2.1 | exact fun z => z.2.2.2.2.2.1 | exact fun z => z.2.2.2.2.2.2.1 | exact fun z => z.2.2.2.2.2.2.2.1 | exact fun z => z.2.2.2.2.2.2.2.2.1 | exact fun z => z.2.2.2.2.2.2.2.2.2.1 | exact fun z => z.2.2.2.2.2.2.2.2.2.2.1 | exact fun z => z.2.2.2.2.2.2.2.2.2.2.2.1 | exact fun z => z.2.2.2.2.2.2.2.2.2.2.2.2.1 | exact fun z => z.2.2.2.2.2.2.2.2.2.2.2.2.2.1 | exact And.right | exact fun z => z.2.2 | exact fun z => z.2.2.2 | exact fun z => z.2.2.2.2 | exact fun z => z.2.2.2.2.2 | exact fun z => z.2.2.2.2.2.2 | exact fun z => z.2.2.2.2.2.2.2 | exact fun z => z.2.2.2.2.2.2.2.2 | exact fun z => z.2.2.2.2.2.2.2.2.2 | exact fun z => z.2.2.2.2.2.2.2.2.2.2 | exact fun z => z.2.2.2.2.2.2.2.2.2.2.2 | exact fun z => z.2.2.2.2.2.2.2.2.2.2.2.2 | exact fun z => z.2.2.2.2.2.2.2.2.2.2.2.2.2)) | (apply nc2; assumption; (first | exact And.left | exact fun z => z.2.1 | exact fun z => z.2.2.1 | exact fun z => z.2.2.2.1 | exact fun z => z.2.2.2.2.1 | exact fun z => z.2.2.2.2.2.1 | exact fun z => z.2.2.2.2.2.2.1 | exact fun z => z.2.2.2.2.2.2.2.1 | exact fun z => z.2.2.2.2.2.2.2.2.1 | exact fun z => z.2.2.2.2.2.2.2.2.2.1 | exact fun z => z.2.2.2.2.2.2.2.2.2.2.1 | exact fun z => z.2.2.2.2.2.2.2.2.2.2.2.1 | exact fun z => z.2.2.2.2.2.2.2.2.2.2.2.2.1 | exact fun z => z.2.2.2.2.2.2.2.2.2.2.2.2.2.1 | exact And.right | exact fun z => z.2.2 | exact fun z => z.2.2.2 | exact fun z => z.2.2.2.2 | exact fun z => z.2.2.2.2.2 | exact fun z => z.2.2.2.2.2.2 | exact fun z => z.2.2.2.2.2.2.2 | exact fun z => z.2.2.2.2.2.2.2.2 | exact fun z => z.2.2.2.2.2.2.2.2.2 | exact fun z => z.2.2.2.2.2.2.2.2.2.2 | exact fun z => z.2.2.2.2.2.2.2.2.2.2.2 | exact fun z => z.2.2.2.2.2.2.2.2.2.2.2.2 | exact fun z => z.2.2.2.2.2.2.2.2.2.2.2.2.2)) | (apply nc3; assumption; (first | exact And.left | exact fun z => z.2.1 | exact fun z => z.2.2.1 | exact fun z => z.2.2.2.1 | exact fun z => z.2.2.2.2.1 | exact fun z => z.2.2.2.2.2.1 | exact fun z => z.2.2.2.2.2.2.1 | exact fun z => z.2.2.2.2.2.2.2.1 | exact fun z => z.2.2.2.2.2.2.2.2.1 | exact fun z => z.2.2.2.2.2.2.2.2.2.1 | exact fun z => z.2.2.2.2.2.2.2.2.2.2.1 | exact fun z => z.2.2.2.2.2.2.2.2.2.2.2.1 | exact fun z => z.2.2.2.2.2.2.2.2.2.2.2.2.1 | exact fun z => z.2.2.2.2.2.2.2.2.2.2.2.2.2.1 | exact And.right | exact fun z => z.2.2 | exact fun z => z.2.2.2 | exact fun z => z.2.2.2.2 | exact fun z => z.2.2.2.2.2 | exact fun z => z.2.2.2.2.2.2 | exact fun z => z.2.2.2.2.2.2.2 | exact fun z => z.2.2.2.2.2.2.2.2 | exact fun z => z.2.2.2.2.2.2.2.2.2 | exact fun z => z.2.2.2.2.2.2.2.2.2.2 | exact fun z => z.2.2.2.2.2.2.2.2.2.2.2 | exact fun z => z.2.2.2.2.2.2.2.2.2.2.2.2 | exact fun z => z.2.2.2.2.2.2.2.2.2.2.2.2.2)) | (apply nc4; assumption; (first | exact And.left | exact fun z => z.2.1 | exact fun z => z.2.2.1 | exact fun z => z.2.2.2.1 | exact fun z => z.2.2.2.2.1 | exact fun z => z.2.2.2.2.2.1 | exact fun z => z.2.2.2.2.2.2.1 | exact fun z => z.2.2.2.2.2.2.2.1 | exact fun z => z.2.2.2.2.2.2.2.2.1 | exact fun z => z.2.2.2.2.2.2.2.2.2.1 | exact fun z => z.2.2.2.2.2.2.2.2.2.2.1 | exact fun z => z.2.2.2.2.2.2.2.2.2.2.2.1 | exact fun z => z.2.2.2.2.2.2.2.2.2.2.2.2.1 | exact fun z => z.2.2.2.2.2.2.2.2.2.2.2.2.2.1 | exact And.right | exact fun z => z.2.2 | exact fun z => z.2.2.2 | exact fun z => z.2.2.2.2 | exact fun z => z.2.2.2.2.2 | exact fun z => z.2.2.2.2.2.2 | exact fun z => z.2.2.2.2.2.2.2 | exact fun z => z.2.2.2.2.2.2.2.2 | exact fun z => z.2.2.2.2.2.2.2.2.2 | exact fun z => z.2.2.2.2.2.2.2.2.2.2 | exact fun z => z.2.2.2.2.2.2.2.2.2.2.2 | exact fun z => z.2.2.2.2.2.2.2.2.2.2.2.2 | exact fun z => z.2.2.2.2.2.2.2.2.2.2.2.2.2)))))
  (k_with "k_upd" => first | (apply uh8; k_all) | (apply ut8; k_ne; k_upd))
  (k_with "k_updF" => first | (apply fh8; k_all) | (apply ft8; k_ne; k_updF))
  (k_with "k_all" => first | exact List.forall_mem_nil _ | (apply an8; k_ne; k_all))
  (k_with "kcf_all" => first | exact fun _ hp => hp | (apply sb8; (focus kcf_m); kcf_all))
  (k_with "ktr_units" => first | exact uu2 hu rfl | exact uu1 hu rfl | exact uu3 hu rfl | exact uu4 hu rfl)
  (k_with "ktr_room" => first | exact uu2 hdp rfl | exact uu1 hdp rfl | exact uu3 hdp rfl | exact uu4 hdp rfl)
  (k_with "subscriptTail Name UnaryOp ref int" => k_extra "subscriptTail")
  exact trivial
set_option maxRecDepth 100000 in
set_option maxHeartbeats 1000000 in
theorem C_dput {w : World} {mean : ExcName → Option Value} {mg mb : Str → Option Value} {dp un : Nat} {gd : Option (List Code)} {cn : Str} {cs : Scope} {a : Addr} {ccd : Value} {cl : List (Str × Addr)} {outer : List Env} {A₀ : Around} {base h₀ : Heap} {L : Addr} {m : Str → Option Value} {s : Shared} {Q E : Value → Shared → Prop} (B : Below A₀ base outer h₀) (F : Fr h₀ L s.heap m) (X : (hd.heap_1 w.params).In h₀) (T : (Top view9 (looseW view9 []) mean mg mb h₀)) (hk : cs.kind = .function) {q : DA} {svs vvs : List Value} {ns : List Int} {ks : List Str} {first last : Int} {t1 t2 t3 tn : Tok} {v b pv : Str} {big : List (Addr × Obj)} {big' : Obj → List (Addr × Obj)}
    (Nb : News h₀ L s.heap big) (hsub : ∀ p ∈ [(q.rm, instObj 139 q.rd), (q.sa, listOf svs.toArray q.n3), (q.va, listOf vvs.toArray q.n4), (q.d, instObj 188 q.dd), (q.dd, dictOf [⟨PyData.keyHash w.params (Str.ofString "defaults"), .str (Str.ofString "defaults") q.t0, .ref q.df⟩, ⟨PyData.keyHash w.params (Str.ofString "maps"), .str (Str.ofString "maps") q.t1, .ref q.mp⟩, ⟨PyData.keyHash w.params (Str.ofString "properties"), .str (Str.ofString "properties") q.t2, .ref q.pr⟩, ⟨PyData.keyHash w.params (Str.ofString "words"), .str (Str.ofString "words") q.t3, .ref q.wd⟩] q.n0), (q.mp, q.om)], p ∈ big) (U : ∀ o', Upd q.rd (dictOf [⟨PyData.keyHash w.params (Str.ofString "default"), .str (Str.ofString "default") q.t5, .str (Str.ofString "Other") q.t6⟩, ⟨PyData.keyHash w.params (Str.ofString "starts"), .str (Str.ofString "starts") q.t7, .ref q.sa⟩, ⟨PyData.keyHash w.params (Str.ofString "values"), .str (Str.ofString "values") q.t8, .ref q.va⟩] 3) o' big (big' o'))
    (ok : DOk PySem.Challenge.rw_on0369_01.row.prog w q) (hn : @Ne Nat q.rd q.dd ∧ @Ne Nat q.rd q.mp)
    (hv : IntsAre svs ns) (hv' : StrsAre vvs ks) (hlen : ns.length < 500) (hkl : ks.length = ns.length) (hsort : ns.Pairwise (· < ·))
    (hf : 0 ≤ first) (hfl : first ≤ last) (hl9 : last < 1000000) (hp0 : 0 ≤ placeS ns (first - 1)) (hp1 : placeS ns (first - 1) < 1000) (hp2 : 0 ≤ placeS ns (last + 1)) (hp3 : placeS ns (last + 1) < 1000)
    (hb : ks[(placeS ns (last + 1)).toNat]? = some b) (hpv : ks[(placeS ns (first - 1)).toNat]? = some pv) (hne : (pv == v) = false)
    (hdp : dp + 12 < recursionLimit) (hu : un + 200 < cLine)
    (hret : ∀ sa va svs' vvs' na nv h' tk', Fr h₀ L h' m → News h₀ L h' ((sa, listOf svs'.toArray na) :: (va, listOf vvs'.toArray nv) :: big' (dictOf [⟨PyData.keyHash w.params (Str.ofString "default"), .str (Str.ofString "default") q.t5, .str (Str.ofString "Other") q.t6⟩, ⟨PyData.keyHash w.params (Str.ofString "starts"), .str (Str.ofString "starts") q.t7, .ref sa⟩, ⟨PyData.keyHash w.params (Str.ofString "values"), .str (Str.ofString "values") q.t8, .ref va⟩] 3)) → IntsAre svs' (rputN ns first last (b == v)) → StrsAre vvs' (rputK ns ks first last v b (b == v)) → (∀ b ob, s.heap.get? b = some ob → @Ne Nat b q.rd → @Ne Nat b q.rm → @Ne Nat b q.sa → @Ne Nat b q.va → @Ne Nat b q.d → @Ne Nat b q.dd → @Ne Nat b q.mp → @Ne Nat b sa ∧ @Ne Nat b va) → Q .none { s with heap := h', toks := tk' }) :
    wpAny (model PySem.Challenge.rw_on0369_01.row.prog w) (ktrTop dp un gd cn cs L a ccd cl outer) (call (.ref 171) [.ref q.d, .str (Str.ofString "sb") tn, .int first t1, .int last t2, .str v t3]) Q E s := by
  w_top off
  have N : News h₀ L s.heap ((q.rd, _) :: [(q.rm, instObj 139 q.rd), (q.sa, listOf svs.toArray q.n3), (q.va, listOf vvs.toArray q.n4), (q.d, instObj 188 q.dd), (q.dd, _), (q.mp, q.om)]) := news_sub Nb fun p hp => (List.mem_cons.mp hp).elim (fun e => e ▸ upd_in2 (U (dictOf [] 0))) (hsub p)
  obtain ⟨okm, oks⟩ := ok
  obtain ⟨hn1, hn2⟩ := hn
  have hr1 : @Ne Nat q.rd q.rm := ne_of_cls (N _ (.head _)).1 (N _ (.tail _ (.head _))).1 (fun e => Value.noConfusion (show Value.type "dict" = Value.ref 139 from e))
  have hr2 : @Ne Nat q.rd q.sa := ne_of_cls (N _ (.head _)).1 (N _ (.tail _ (.tail _ (.head _)))).1 (fun e => absurd (Value.type.inj (show Value.type "dict" = Value.type "list" from e)) (by decide))
  have hr3 : @Ne Nat q.rd q.va := ne_of_cls (N _ (.head _)).1 (N _ (.tail _ (.tail _ (.tail _ (.head _))))).1 (fun e => absurd (Value.type.inj (show Value.type "dict" = Value.type "list" from e)) (by decide))
  have hr4 : @Ne Nat q.rd q.d := ne_of_cls (N _ (.head _)).1 (N _ (.tail _ (.tail _ (.tail _ (.tail _ (.head _)))))).1 (fun e => Value.noConfusion (show Value.type "dict" = Value.ref 188 from e))
  refine wpAny_call ?_
  k_dflt (refine' code_defG ?k1 ?k2 ?k3 N ?k5 ?kA ?kF ?kK ?k6 ?k7 ?k8 ?k9 ?kB ?_ ?c2 ?c3 ?c4 ?c5; (case kA => exact rfl); (case kF => exact rfl); (case kK => assumption); (case k1 => k_asm); (case k2 => k_asm); (case k3 => k_asm); (case k5 => k_asm); (case k6 => k_is); (case k7 => k_is); (case k8 => ktr_room); (case k9 => exact BindsTo.of_eq rfl); (case c5 => decide); (case kB => exact locs rfl); (case c2 => exact rfl); (case c3 => exact rfl); (case c4 => exact rfl); k_whole; intro g' L' h' FG' F' N' B' X' T' GS'; (try dsimp only); (try k_fold); refine toks_any fun tk9 => ?_; refine let_fr F' ?_; clear F'; intro m9 F'; refine let_A ?_; intro A9)
  (k_steps; repeat (any_goals ((first | ((with_reducible show Halt (wpAny _ _ (call (Value.ref 185) _) _ _ _)); refine Halt.go ?_; refine wpAny_call ?_; k_dflt (refine' code_defG ?k19z ?k29z ?k39z ?k49z ?k59z ?kA9z ?kF9z ?kK9z ?k69z ?k79z ?k89z ?k99z ?kB9z ?_ ?c29z ?c39z ?c49z ?c59z; (case kA9z => exact rfl); (case kF9z => exact rfl); (case kK9z => first | exact rfl | assumption); (case k19z => k_asm); (case k29z => k_asm); (case k39z => k_asm); (case k49z => k_asm); (case k59z => k_asm); (case k69z => k_is); (case k79z => k_is); (case k89z => ktr_room); (case k99z => exact BindsTo.of_eq rfl); (case c59z => decide); (case kB9z => exact locs rfl); (case c29z => exact rfl); (case c39z => exact rfl); (case c49z => exact rfl); k_whole); intro g'q L'q h'q FG'q F'q N'q B'q X'q T'q GS'q; (try dsimp only); (try k_fold)) | ((with_reducible show Halt (wpAny _ _ (call (Value.ref 122) _) _ _ _)); refine Halt.go ?_; k_dflt (refine' C_rput ?B9z ?F9z ?X9z ?T9z ?hk9z ?N9z ?rm9z ?sa9z ?va9z ?U9z ?hv9z ?hvp9zq ?hlen9z ?kl9z ?hs9z ?f9z ?fl9z ?l99z ?p09z ?p19z ?p29z ?p39z ?b9z ?pv9z ?ne9z ?hdp9z ?hu9z ?_; (case B9z => k_asm); (case F9z => k_asm); (case X9z => k_asm); (case T9z => k_asm); (case hk9z => first | exact rfl | assumption); (case N9z => k_asm); (case rm9z => k_mem); (case U9z => (intro o1; k_upd)); (case sa9z => k_mem); (case va9z => k_mem); (case hv9z => assumption); (case hvp9zq => assumption); (case hlen9z => omega); (case kl9z => assumption); (case hs9z => assumption); (case f9z => omega); (case fl9z => omega); (case l99z => omega); (case p09z => assumption); (case p19z => assumption); (case p29z => assumption); (case p39z => assumption); (case b9z => assumption); (case pv9z => assumption); (case ne9z => assumption); (case hdp9z => ktr_room); (case hu9z => ktr_units); k_whole); intro sa'q va'q svs'q vvs'q na'q nv'q h'q tk'q F'q N'q hi'q hj'q; (try dsimp only at N'q); (try k_sweep))); k_steps)))
  refine' hret _ _ _ _ _ _ _ _ (by k_asm) (newsTwo (news_updM (U _) Nb hsub (keepBut_of (by assumption) GS') ?n) ?a ?b) (by assumption) (by assumption) ?g
  case n => exact news_sub (by k_asm) (by kcf_all)
  case a => exact news_of (by k_asm) _ (by k_mem)
  case b => exact news_of (by k_asm) _ (by k_mem)
  case g =>
    intro b ob hb b1 b2 b3 b4 b5 b6 b7
    have hb' : b ∉ List.map (fun x => x.1) [(q.rd, instObj 1 1), (q.rm, instObj 139 q.rd), (q.sa, instObj 1 1), (q.va, instObj 1 1), (q.d, instObj 188 q.dd), (q.dd, instObj 1 1), (q.mp, q.om)] := by
      simp only [List.map_cons, List.map_nil, List.mem_cons, List.not_mem_nil, or_false, not_or]
      exact ⟨b1, b2, b3, b4, b5, b6, b7⟩
    (with_reducible rename News g' _ _ _ => NN9)
    exact ⟨ne_made GS' NN9 (by k_mem) b ob hb hb', ne_made GS' NN9 (by k_mem) b ob hb hb'⟩
end V17part
section Gen12part
/-! ## a counted list of the ledger, by an invariant over the frame and the ledger -/
section
variable {prog : Program} {w : World} {A : Around} {E : Value → Shared → Prop} {s : Shared} {env : Env} {h₀ : Heap} {body : List Stmt} {Q : Flow → Shared → Prop}
theorem enumM {elts : List Expr} {k : Nat} {pos : Pos} {l : Addr} {vs : List Value} {nn : Nat} {m₀ : Str → Option Value} {news : List (Addr × Obj)} (J : Nat → (Str → Option Value) → List (Addr × Obj) → Prop)
    (hh : A.handled = none) (F : Fr h₀ env.locals s.heap m₀) (N : News h₀ env.locals s.heap news) (hlm : (l, listOf vs.toArray nn) ∈ news)
    (hk : ∀ i m₁ news₁, J i m₁ news₁ → (l, listOf vs.toArray nn) ∈ news₁) (h0 : J 0 m₀ news)
    (turn : ∀ (I i : Nat) v T t m₁ news₁ h₁ tk₁ o1 o2, s.heap.objs.size ≤ I → vs[i]? = some v → IsTup h₁ T #[.int (i : Int) t, v] → J i m₁ news₁ → o1.cls = .type "enumerate" → o2.cls = .type "list_iterator" → Fr h₀ env.locals h₁ m₁ → News h₀ env.locals h₁ ((I + 1, o1) :: (I, o2) :: news₁) →
      wpAny (model prog w) A (assign (.Tuple elts k pos) env (.ref T)) (fun _ s₃ => wpAny (model prog w) A (execs body env) (TurnPost h₀ env.locals [(I + 1, o1), (I, o2)] (J (i + 1)) { s with heap := h₁, toks := tk₁ } Q) E s₃) E { s with heap := h₁, toks := tk₁ })
    (done : ∀ m₁ news₁ h tk, J vs.length m₁ news₁ → Fr h₀ env.locals h m₁ → News h₀ env.locals h news₁ → Q .next { s with heap := h, toks := tk }) :
    wpAny (model prog w) A (call (.type "enumerate") [.ref l]) (fun xv s₁ => wpAny (model prog w) A (pyIter xv) (fun it s₂ => TurnsAt prog w A h₀ env (.Tuple elts k pos) body Q E it s₂) E s₁) E s := by
  have hget := N _ hlm
  have hl : s.heap.IsList l vs.toArray := ⟨_, hget.1, rfl, _, rfl⟩
  have hlt : l < s.heap.objs.size := Heap.lt_size hget.1
  have hLs : env.locals < s.heap.objs.size := F.ns.lt
  have fresh : ∀ b, s.heap.objs.size ≤ b → h₀.get? b = none := fun b hb => by
    cases e : h₀.get? b with
    | none => rfl
    | some o => exact absurd (Heap.lt_size (F.keep _ _ e)) (Nat.not_lt.mpr hb)
  refine call_enumerate_list hl fun h' hE hI hsz hk' => ?_
  refine wpAny_pyIter_enum hE ?_
  refine turnsJ (tk0 := s.toks) [(s.heap.objs.size + 1, "enumerate"), (s.heap.objs.size, "list_iterator")] J
    (KTurns.ofWalksU (WalksT.enumerate hh (s.heap.objs.size + 1) s.heap.objs.size l (Nat.succ_ne_self _) (ktu_ne 1 hlt) (Nat.ne_of_lt hlt) vs.toArray).toU) ?_ ?_ ?_ ?_ ?_ ?_ ?_ ?_ (F.keeps hk') (N.grown hk') h0 ?_ (fun m₁ n₁ h tk hJ F₁ N₁ => done m₁ n₁ h tk (by simpa using hJ) F₁ N₁)
  · rintro i h ⟨⟨old, he⟩, ⟨oi, hoi, hic, _⟩, _⟩
    have he' : ∃ oe : Obj, h.get? (s.heap.objs.size + 1) = some oe ∧ oe.cls = .type "enumerate" := ⟨_, he, rfl⟩
    obtain ⟨oe, h1, h2⟩ := he'
    refine ⟨[(s.heap.objs.size + 1, oe), (s.heap.objs.size, oi)], ⟨⟨rfl, h2⟩, ⟨rfl, hic⟩, trivial⟩, fun p hp => ?_⟩
    rcases List.mem_cons.mp hp with rfl | hp
    · exact h1
    · rw [List.mem_singleton.mp hp]; exact hoi
  · intro b hb
    rcases List.mem_cons.mp hb with rfl | hb
    · exact ⟨by simp, fresh _ (Nat.le_succ _)⟩
    · rw [List.mem_singleton.mp hb]; exact ⟨by simp, fresh _ (Nat.le_refl _)⟩
  · intro x hx
    rcases List.mem_cons.mp hx with rfl | hx
    · rfl
    · rw [List.mem_singleton.mp hx]; rfl
  · intro b hb; simpa using hb
  · intro b hb
    rcases List.mem_cons.mp hb with rfl | hb
    · exact .inl (by simp)
    · rcases List.mem_cons.mp hb with rfl | hb
      · exact .inl (by simp)
      · rw [List.mem_singleton.mp hb]; exact .inr (.inr ⟨_, fun i m₁ n₁ y => hk i m₁ n₁ y⟩)
  · intro hb
    rcases List.mem_cons.mp hb with e | hb
    · exact absurd hLs (e ▸ Nat.not_lt.mpr (Nat.le_succ _))
    · rcases List.mem_cons.mp hb with e | hb
      · exact absurd hLs (e ▸ Nat.lt_irrefl _)
      · exact hget.2.1 (List.mem_singleton.mp hb).symm
  · intro p hp hb
    have := Heap.lt_size (N p hp).1
    rcases List.mem_cons.mp hb with e | hb
    · exact absurd this (e ▸ Nat.not_lt.mpr (Nat.le_succ _))
    · rw [List.mem_singleton.mp hb] at this; exact Nat.lt_irrefl _ this
  · exact ⟨⟨_, hE⟩, hI, hl.at fun o e => hk' _ _ e⟩
  · rintro i v m₁ news₁ h₁ tk₁ its hin ⟨T, vals, rfl, ⟨t, x, hx, rfl⟩, hT⟩ hJ hits F₁ N₁
    match its, hits with
    | [(a1, o1), (a2, o2)], hits =>
      obtain ⟨⟨e1, c1⟩, ⟨e2, c2⟩, _⟩ := hits
      have e1' : a1 = s.heap.objs.size + 1 := e1
      have e2' : a2 = s.heap.objs.size := e2
      subst e1' e2'
      exact turn _ i x T t m₁ news₁ h₁ tk₁ o1 o2 (Nat.le_refl _) (by simpa using hx) hT hJ c1 c2 F₁ N₁
    | [], hits => exact (show False from hits).elim
    | [_], hits => exact (show False from hits.2).elim
    | _ :: _ :: _ :: _, hits => exact (show False from hits.2.2).elim
end
/-! ## a while that fills a list with pairs and counts -/
section
variable {prog : Program} {w : World} {A : Around} {E : Value → Shared → Prop} {s : Shared} {env : Env} {h₀ : Heap} {L D : Addr} {mB : Str → Option Value} {nws : List (Addr × Obj)} {y : Str}
def RowEnd (h₀ : Heap) (L : Addr) (mB : Str → Option Value) (y : Str) (nws : List (Addr × Obj)) (D : Addr) (t : Nat) (r : Int × Bool) (vs : List Value) (tl : List (Addr × Obj)) (s : Shared) (f : Flow) (s₂ : Shared) : Prop :=
  f = .next ∧ ∃ (h' : Heap) (tk' : Nat) (T : Addr) (nn : Nat) (tb tt : Tok) (k' : Nat) (all : List (Addr × Obj)), s₂ = { s with heap := h', toks := tk' } ∧ Fr h₀ L h' (fun z => if z = y then some (.int ((t + 1 : Nat) : Int) tt) else mB z) ∧ News h₀ L h' all ∧ (D, listOf (vs ++ [Value.ref T]).toArray k') ∈ all ∧ (T, tup2 r.1 tb r.2 nn) ∈ all ∧ (∀ p ∈ nws, p ∈ all) ∧ ∀ p ∈ tl, p ∈ all
theorem RowEnd.intro {t : Nat} {r : Int × Bool} {vs vs' : List Value} {tl all : List (Addr × Obj)} {h' : Heap} {tk' : Nat} {T : Addr} {nn k' : Nat} {tb tt : Tok} {p : Int} {b : Bool} {m' : Str → Option Value}
    (F : Fr h₀ L h' m') (N : News h₀ L h' all) (hy : m' y = some (.int ((t : Int) + 1) tt)) (hm : ∀ z, z ≠ y → m' z = mB z) (hD : (D, listOf vs'.toArray k') ∈ all) (ev : vs' = vs ++ [Value.ref T]) (hT : (T, tup2 p tb b nn) ∈ all) (er : r = (p, b)) (hn : ∀ p ∈ nws, p ∈ all) (ht : ∀ p ∈ tl, p ∈ all) :
    RowEnd h₀ L mB y nws D t r vs tl s .next { s with heap := h', toks := tk' } := by
  subst er ev
  have e : m' = fun z => if z = y then some (.int ((t + 1 : Nat) : Int) tt) else mB z := by
    funext z
    by_cases h : z = y
    · subst h; rw [if_pos rfl, hy]; rfl
    · rw [if_neg h]; exact hm z h
  subst e
  exact ⟨rfl, h', tk', T, nn, tb, tt, k', all, rfl, F, N, hD, hT, hn, ht⟩
theorem while_rows {test : PySem.Expr} {body : List Stmt} {pos : Pos} {Q : Flow → Shared → Prop} {k₀ : Nat} {tk0 : Tok} (S : Nat → Bool) (R : Nat → Int × Bool) (t0 lim : Nat)
    (F : Fr h₀ L s.heap mB) (N : News h₀ L s.heap ((D, listOf ([] : List Value).toArray k₀) :: nws)) (hm : mB y = some (.int (t0 : Int) tk0)) (h0 : t0 ≤ lim)
    (testW : ∀ (t : Nat) (tk : Tok) (vs : List Value) (tl : List (Addr × Obj)) (k : Nat) (h : Heap) (tk₁ : Nat), t0 ≤ t → t ≤ lim → vs.length ≤ lim → TupAll tl → Fr h₀ L h (fun z => if z = y then some (.int (t : Int) tk) else mB z) → News h₀ L h ((D, listOf vs.toArray k) :: (nws ++ tl)) →
      wpAny (model prog w) A (isTrue test env (eval test env)) (fun b s₂ => b = (decide (t < lim) && S t) ∧ SameAt h₀ L (fun z => if z = y then some (.int (t : Int) tk) else mB z) ((D, listOf vs.toArray k) :: (nws ++ tl)) s s₂) E { s with heap := h, toks := tk₁ })
    (bodyW : ∀ (t : Nat) (tk : Tok) (vs : List Value) (tl : List (Addr × Obj)) (k : Nat) (h : Heap) (tk₁ : Nat), t0 ≤ t → t < lim → vs.length ≤ lim → TupAll tl → Fr h₀ L h (fun z => if z = y then some (.int (t : Int) tk) else mB z) → News h₀ L h ((D, listOf vs.toArray k) :: (nws ++ tl)) →
      wpAny (model prog w) A (execs body env) (RowEnd h₀ L mB y nws D t (R t) vs tl s) E { s with heap := h, toks := tk₁ })
    (done : ∀ (t : Nat) (tk : Tok) (vs : List Value) (tl : List (Addr × Obj)) (k : Nat) (h : Heap) (tk₁ : Nat), t0 ≤ t → t ≤ lim → (∀ p, t0 ≤ p → p < t → S p = true) → (t = lim ∨ S t = false) → RowsIn tl vs ((List.range (t - t0)).map fun i => R (t0 + i)) → TupAll tl → Fr h₀ L h (fun z => if z = y then some (.int (t : Int) tk) else mB z) → News h₀ L h ((D, listOf vs.toArray k) :: (nws ++ tl)) → Q .next { s with heap := h, toks := tk₁ })
    (hE : PassesOwn (model prog w) A env E := by passes_own) :
    wpAny (model prog w) A (exec (.While test body [] pos) env) Q E s := by
  have e0 : mB = fun z => if z = y then some (.int (t0 : Int) tk0) else mB z := by
    funext z
    by_cases h : z = y
    · subst h; rw [if_pos rfl, hm]
    · rw [if_neg h]
  rw [e0] at F
  refine While_inv2 (n₀ := lim - t0) (fun n m nx => ∃ (t : Nat) (tk : Tok) (vs : List Value) (tl : List (Addr × Obj)) (k : Nat), (m = fun z => if z = y then some (.int (t : Int) tk) else mB z) ∧ nx = (D, listOf vs.toArray k) :: (nws ++ tl) ∧ RowsIn tl vs ((List.range (t - t0)).map fun i => R (t0 + i)) ∧ TupAll tl ∧ t0 ≤ t ∧ t ≤ lim ∧ lim - t = n ∧ ∀ p, t0 ≤ p → p < t → S p = true)
    F N ⟨t0, tk0, [], [], k₀, rfl, by simp, by simpa using RowsIn.nil, (fun _ h => nomatch h), Nat.le_refl _, h0, rfl, fun p h1 h2 => by omega⟩ ?_ hE
  rintro n m₁ nx h tk₁ F₁ N₁ ⟨t, tk, vs, tl, k, rfl, rfl, hr, hta, h1, h2, hn, hs⟩
  have hvl : vs.length ≤ lim := by rw [hr.length]; simp; omega
  refine wpAny_mono (testW t tk vs tl k h tk₁ h1 h2 hvl hta F₁ N₁) (fun b s₂ hb => ?_) fun _ _ e => e
  obtain ⟨rfl, h', tk', all, rfl, F', N', hsub⟩ := hb
  have N'' := fun p hp => N' p (hsub p hp)
  cases hb : (decide (t < lim) && S t) with
  | false =>
    simp only [Bool.false_eq_true, if_false]
    refine done t tk vs tl k h' tk' h1 h2 hs ?_ hr hta F' N''
    rcases Nat.lt_or_ge t lim with h3 | h3
    · right; simpa [h3] using hb
    · left; omega
  | true =>
    simp only [if_true]
    simp only [Bool.and_eq_true, decide_eq_true_eq] at hb
    refine wpAny_mono (bodyW t tk vs tl k h' tk' h1 hb.1 hvl hta F' N'') (fun f s₃ hf => ?_) fun _ _ e => e
    obtain ⟨rfl, h3, tk3, T, nn, tb, tt, k', all3, rfl, F3, N3, hD, hT, hn3, ht3⟩ := hf
    refine ⟨h3, tk3, _, (D, listOf (vs ++ [Value.ref T]).toArray k') :: (nws ++ (tl ++ [(T, tup2 (R t).1 tb (R t).2 nn)])), lim - (t + 1), rfl, F3, ?_, by omega, t + 1, tt, _, _, k', rfl, rfl, ?_, ?_, by omega, hb.1, rfl, ?_⟩
    · intro p hp
      rcases List.mem_cons.mp hp with rfl | hp
      · exact N3 _ hD
      · rcases List.mem_append.mp hp with hp | hp
        · exact N3 _ (hn3 p hp)
        · rcases List.mem_append.mp hp with hp | hp
          · exact N3 _ (ht3 p hp)
          · rw [List.mem_singleton.mp hp]; exact N3 _ hT
    · rw [show t + 1 - t0 = (t - t0) + 1 by omega, List.range_succ, List.map_append, List.map_singleton, show t0 + (t - t0) = t by omega]
      exact (hr.mono fun p hp => List.mem_append_left _ hp).append (.cons (List.mem_append_right _ (List.mem_singleton.mpr rfl)) .nil)
    · intro p hp
      rcases List.mem_append.mp hp with hp | hp
      · exact hta p hp
      · rw [List.mem_singleton.mp hp]
    · intro p h4 h5
      rcases Nat.eq_or_lt_of_le (Nat.le_of_lt_succ h5) with rfl | h6
      · exact hb.2
      · exact hs p h4 h6
end
/-! ## comprehensions: the items as they are; pairs over a range -/
section
open PyProof.Rows.LCg
variable {prog : Program} {w : World} {A : Around} {h₀ : Heap} {L : Addr} {m : Str → Option Value} {env : Env} {elt : PySem.Expr} {x : Str} {scope : Scope} {cl : List (Str × Addr)} {s : Shared} {S : List (Addr × Obj) → Prop} {P : Nat → Value → Prop} {Fin : List Value → List (Addr × Obj) → Prop}
theorem rest_same {news : List (Addr × Obj)} {its : Array Value}
    (turn : ∀ (i : Nat) v I oI C oC D m₂ ys h tk (E' : Value → Shared → Prop), its[i]? = some v → NsObj oC m₂ → m₂ x = some v → Fr h₀ L h m → News h₀ L h ((I, oI) :: (C, oC) :: (D, lst ys) :: news) → Off3 I C D news → ((@Ne Nat I C) ∧ (@Ne Nat I D) ∧ (@Ne Nat C D)) →
      wpAny (model prog w) A (eval elt (compEnvC scope cl C env)) (CompEnd h₀ L m { s with heap := h, toks := tk } I oI C oC D (lst ys) S (fun y nw' => y = v ∧ nw' = news)) E' { s with heap := h, toks := tk })
    (fin : Fin its.toList news) : CompRest prog w A h₀ L m env elt x scope cl s S (fun i v => its[i]? = some v) Fin its.size 0 [] news := by
  refine rest_J (fun i ys nw => nw = news ∧ ys = its.toList.take i) ⟨rfl, rfl⟩ ?_ ?_
  · rintro i v I oI C oC D m₂ ys nw h tk E' hlt hv ⟨rfl, hys⟩ hC hx F N off ne
    refine wpAny_mono (turn i v I oI C oC D m₂ ys h tk E' hv hC hx F N off ne) (fun y s₃ q => ?_) fun _ _ e => e
    obtain ⟨h', tk', nw', e, F', N', off', hS, rfl, rfl⟩ := q
    refine ⟨h', tk', _, e, F', N', off', hS, rfl, ?_⟩
    have hv' : its.toList[i]? = some y := by simpa using hv
    rw [hys, List.take_add_one, hv']; rfl
  · rintro ys nw ⟨rfl, rfl⟩
    have e : its.toList.take its.size = its.toList := by rw [← Array.length_toList]; exact List.take_length ..
    rw [e]; exact fin
def rowsF (a : Nat) (f : Nat → Bool) (n : Nat) : List (Int × Bool) := (List.range n).map fun i => (((a + i : Nat) : Int), f (a + i))
theorem rowsF_succ (a : Nat) (f : Nat → Bool) (n : Nat) : rowsF a f (n + 1) = rowsF a f n ++ [(((a + n : Nat) : Int), f (a + n))] := by simp [rowsF, List.range_succ]
theorem rest_rowsF {a n : Nat} {news : List (Addr × Obj)} (f : Nat → Bool) (hP : ∀ i v, P i v → ∃ t, v = .int ((a : Int) + (i : Int)) t)
    (turn : ∀ (i : Nat) t I oI C oC D m₂ ys tl h tk (E' : Value → Shared → Prop), i < n → ys.length ≤ i → NsObj oC m₂ → m₂ x = some (.int ((a + i : Nat) : Int) t) → Fr h₀ L h m → News h₀ L h ((I, oI) :: (C, oC) :: (D, lst ys) :: (news ++ tl)) → Off3 I C D (news ++ tl) → ((@Ne Nat I C) ∧ (@Ne Nat I D) ∧ (@Ne Nat C D)) →
      wpAny (model prog w) A (eval elt (compEnvC scope cl C env)) (CompEnd h₀ L m { s with heap := h, toks := tk } I oI C oC D (lst ys) S (fun y nw' => ∃ T tk k, y = .ref T ∧ nw' = news ++ (tl ++ [(T, tup2 ((a + i : Nat) : Int) tk (f (a + i)) k)]))) E' { s with heap := h, toks := tk })
    (fin : ∀ ys tl, RowsIn tl ys (rowsF a f n) → TupAll tl → Fin ys (news ++ tl)) : CompRest prog w A h₀ L m env elt x scope cl s S P Fin n 0 [] news := by
  refine rest_J (fun i ys nw => ∃ tl, nw = news ++ tl ∧ RowsIn tl ys (rowsF a f i) ∧ TupAll tl ∧ ys.length ≤ i) ⟨[], by simp, .nil, (fun _ h => nomatch h), Nat.le_refl _⟩ ?_ ?_
  · rintro i v I oI C oC D m₂ ys nw h tk E' hi hv ⟨tl, rfl, hr, ht, hyl⟩ hC hx F N off ne
    obtain ⟨t, rfl⟩ := hP i v hv
    refine wpAny_mono (turn i t I oI C oC D m₂ ys tl h tk E' hi hyl hC (by simpa using hx) F N off ne) (fun y s₃ q => ?_) fun _ _ e => e
    obtain ⟨h', tk', nw', e, F', N', off', hS, T, tk9, k, rfl, rfl⟩ := q
    refine ⟨h', tk', _, e, F', N', off', hS, tl ++ [(T, tup2 ((a + i : Nat) : Int) tk9 (f (a + i)) k)], rfl, ?_, ?_, by simp; omega⟩
    · rw [rowsF_succ]
      exact (hr.mono fun p hp => List.mem_append_left _ hp).append (.cons (List.mem_append_right _ (List.mem_singleton.mpr rfl)) .nil)
    · intro p hp
      rcases List.mem_append.mp hp with hp | hp
      · exact ht p hp
      · rw [List.mem_singleton.mp hp]
  · rintro ys nw ⟨tl, rfl, hr, ht, _⟩
    exact fin ys tl hr ht
end
/-! ## lists of pairs compared -/
section
variable {prog : Program} {w : World} {A : Around} {E : Value → Shared → Prop} {s : Shared} {h₀ : Heap} {L a b : Addr} {news tl tl' : List (Addr × Obj)} {vs us : List Value} {r r' : List (Int × Bool)} {n n' : Nat} {Q : Value → Shared → Prop}
theorem rowsIn_get {tl : List (Addr × Obj)} {us : List Value} {u : List (Int × Bool)} (h : RowsIn tl us u) : ∀ {i : Nat} {v : Value}, us[i]? = some v → ∃ t p tk b n, v = .ref t ∧ (t, tup2 p tk b n) ∈ tl := by
  induction h with
  | nil => intro i v e; simp at e
  | cons hm _ ih =>
    intro i v e
    cases i with
    | zero => simp at e; exact ⟨_, _, _, _, _, e.symm, hm⟩
    | succ i => exact ih (by simpa using e)
theorem ne_rowsK (N : News h₀ L s.heap news) (ha : (a, listOf vs.toArray n) ∈ news) (hv : RowsIn tl vs r) (hs : ∀ p ∈ tl, p ∈ news) (hb : (b, listOf us.toArray n') ∈ news) (hu : RowsIn tl' us r') (hs' : ∀ p ∈ tl', p ∈ news)
    (hun : A.units + 64 < cLine) (h : Q (.bool (!decide (r = r'))) s) : wpAny (model prog w) A (compareOp .NotEq (.ref a) (.ref b)) Q E s :=
  ne_dataH (reads_listOf (N _ ha).1 (readsAll_rows N hs hv)) (reads_listOf (N _ hb).1 (readsAll_rows N hs' hu)) (shaped_rows r) (shaped_rows r') hun (by simp only [PyData.eqv]; rw [eqv_rows]; exact h)
theorem eq_rowsK (N : News h₀ L s.heap news) (ha : (a, listOf vs.toArray n) ∈ news) (hv : RowsIn tl vs r) (hs : ∀ p ∈ tl, p ∈ news) (hb : (b, listOf us.toArray n') ∈ news) (hu : RowsIn tl' us r') (hs' : ∀ p ∈ tl', p ∈ news)
    (hun : A.units + 64 < cLine) (h : Q (.bool (decide (r = r'))) s) : wpAny (model prog w) A (compareOp .Eq (.ref a) (.ref b)) Q E s :=
  eq_dataH (reads_listOf (N _ ha).1 (readsAll_rows N hs hv)) (reads_listOf (N _ hb).1 (readsAll_rows N hs' hu)) (shaped_rows r) (shaped_rows r') hun (by simp only [PyData.eqv]; rw [eqv_rows]; exact h)
theorem ne_nilStrs {ks : List Str} (N : News h₀ L s.heap news) (ha : (a, listOf vs.toArray n) ∈ news) (hv : StrsAre vs ks) (hok : ∀ k ∈ ks, PyData.strOk k = true) (hb : (b, listOf ([] : List Value).toArray n') ∈ news)
    (hun : A.units + 64 < cLine) (h : Q (.bool (!decide (ks = []))) s) : wpAny (model prog w) A (compareOp .NotEq (.ref a) (.ref b)) Q E s :=
  ne_strsK ⟨_, (N _ ha).1, rfl, _, rfl⟩ hv ⟨_, (N _ hb).1, rfl, _, rfl⟩ .nil hok (fun _ h => nomatch h) hun h
end
end Gen12part
section Plainpart
set_option linter.unusedVariables false
set_option linter.unusedSimpArgs false
/-! # the plain law: what the stream tells is what the law's own rules say -/
/-! ## words -/
theorem isLetter_eq (k : Str) : isLetterS k = (isPara k || isTerm k || k == Str.ofString "Lower" || k == Str.ofString "Upper" || k == Str.ofString "OLetter") := by
  have h : ∀ a b : Str, (a == b) = (b == a) := fun a b => by
    by_cases e : a = b
    · subst e; rfl
    · rw [beq_eq_false_iff_ne.mpr e, beq_eq_false_iff_ne.mpr (Ne.symm e)]
  simp only [isLetterS, isPara, isTerm, List.any_cons, List.any_nil, Bool.or_false, Bool.or_assoc, h k]
theorem isStay_eq (k : Str) : isStayS k = (k == Str.ofString "SContinue" || isTerm k || k == Str.ofString "Sp" || isPara k) := by
  have h : ∀ a b : Str, (a == b) = (b == a) := fun a b => by
    by_cases e : a = b
    · subst e; rfl
    · rw [beq_eq_false_iff_ne.mpr e, beq_eq_false_iff_ne.mpr (Ne.symm e)]
  simp only [isStayS, isPara, isTerm, List.any_cons, List.any_nil, Bool.or_false, Bool.or_assoc, h k]
  generalize (Str.ofString "SContinue" == k) = a
  generalize (Str.ofString "Sp" == k) = b
  generalize (Str.ofString "ATerm" == k) = c
  generalize (Str.ofString "STerm" == k) = d
  cases a <;> cases b <;> cases c <;> cases d <;> rfl
theorem isTerm_iff {k : Str} : isTerm k = true ↔ k = Str.ofString "ATerm" ∨ k = Str.ofString "STerm" := by
  simp only [isTerm, List.any_cons, List.any_nil, Bool.or_false, Bool.or_eq_true, beq_iff_eq]
  constructor <;> (rintro (h | h)) <;> simp [h]
theorem isHang_iff {k : Str} : isHang k = true ↔ k = Str.ofString "Extend" ∨ k = Str.ofString "Format" := by
  simp only [isHang, List.any_cons, List.any_nil, Bool.or_false, Bool.or_eq_true, beq_iff_eq]
  constructor <;> (rintro (h | h)) <;> simp [h]
theorem isPara_iff {k : Str} : isPara k = true ↔ k = Str.ofString "Sep" ∨ k = Str.ofString "CR" ∨ k = Str.ofString "LF" := by
  simp only [isPara, List.any_cons, List.any_nil, Bool.or_false, Bool.or_eq_true, beq_iff_eq]
  constructor <;> (rintro (h | h | h)) <;> simp [h]
theorem hang_noLetter {k : Str} (h : isHang k = true) : isLetterS k = false := by
  rcases isHang_iff.mp h with rfl | rfl <;> decide +kernel
theorem hang_noPara {k : Str} (h : isHang k = true) : isPara k = false := by
  rcases isHang_iff.mp h with rfl | rfl <;> decide +kernel
theorem term_ne {k : Str} (h : isTerm k = true) : k ≠ Str.ofString "" ∧ k ≠ Str.ofString "Sp" ∧ k ≠ Str.ofString "Close" ∧ isPara k = false ∧ isHang k = false := by
  rcases isTerm_iff.mp h with rfl | rfl <;> decide +kernel
/-! ## units -/
abbrev namesS (us : List (Str × Int × Int)) : List Str := us.map (·.1)
def absN (A : List Str) (k : Str) : Bool := isHang k && match A.getLast? with | some a => !isPara a | none => false
theorem unitsStep_ne {us : List (Str × Int × Int)} {p : Int} {k : Str} : unitsStep us p k ≠ [] := by
  unfold unitsStep
  split
  · split <;> simp
  · simp
theorem unitsStep_join {us t : List (Str × Int × Int)} (ht : t ≠ []) (p : Int) (k : Str) : unitsStep (us ++ t) p k = us ++ unitsStep t p k := by
  rcases List.eq_nil_or_concat t with rfl | ⟨t', u, rfl⟩
  · exact absurd rfl ht
  · rw [List.concat_eq_append]
    simp only [unitsStep, ← List.append_assoc, List.getLast?_append, List.getLast?_singleton, Option.some_or, List.dropLast_concat]
    split <;> simp
theorem unitsFrom_join : ∀ (ks : List Str) (i : Int) (us t : List (Str × Int × Int)), t ≠ [] → unitsFrom i (us ++ t) ks = us ++ unitsFrom i t ks
  | [], _, _, _, _ => rfl
  | k :: r, i, us, t, h => by
    simp only [unitsFrom]
    rw [unitsStep_join h, unitsFrom_join r _ _ _ unitsStep_ne]
theorem names_step {us : List (Str × Int × Int)} {p : Int} {k : Str} : namesS (unitsStep us p k) = if absN (namesS us) k then namesS us else namesS us ++ [k] := by
  rcases List.eq_nil_or_concat us with rfl | ⟨t, u, rfl⟩
  · simp [unitsStep, absN]
  · rw [List.concat_eq_append]
    simp only [unitsStep, absN, namesS, List.map_append, List.map_cons, List.map_nil, List.getLast?_append, List.getLast?_singleton, Option.some_or, List.dropLast_concat]
    split <;> simp
theorem names_from_cons : ∀ (r : List Str) (i : Int) (u : Str × Int × Int) (t : List (Str × Int × Int)), ∃ B, namesS (unitsFrom i (u :: t) r) = u.1 :: B
  | [], _, u, t => ⟨namesS t, rfl⟩
  | k :: r, i, u, t => by
    have h := names_step (us := u :: t) (p := i) (k := k)
    obtain ⟨v, s, e⟩ := List.exists_cons_of_ne_nil (unitsStep_ne (us := u :: t) (p := i) (k := k))
    obtain ⟨B, hB⟩ := names_from_cons r (i + 1) v s
    refine ⟨B, ?_⟩
    simp only [unitsFrom]
    rw [e, hB]
    rw [e] at h
    have h1 := congrArg List.head? h
    split at h1 <;> simp at h1 <;> rw [h1]
theorem letters_step {us : List (Str × Int × Int)} {p : Int} {k : Str} : (namesS (unitsStep us p k)).filter isLetterS = (namesS us).filter isLetterS ++ [k].filter isLetterS := by
  rw [names_step]
  split
  · rename_i h
    have h1 : isHang k = true := by unfold absN at h; exact (Bool.and_eq_true _ _ ▸ h).1
    simp [hang_noLetter h1]
  · rw [List.filter_append]
theorem letters_from : ∀ (r : List Str) (i : Int) (us : List (Str × Int × Int)), (namesS (unitsFrom i us r)).filter isLetterS = (namesS us).filter isLetterS ++ r.filter isLetterS
  | [], _, us => by simp [unitsFrom]
  | k :: r, i, us => by
    simp only [unitsFrom]
    rw [letters_from r, letters_step, List.append_assoc, ← List.filter_append]
    rfl
theorem ends_step {us : List (Str × Int × Int)} {p : Int} {k : Str} (h : ∀ u ∈ us, u.2.2 ≤ p) : ∀ u ∈ unitsStep us p k, u.2.2 ≤ p + 1 := by
  intro u hu
  unfold unitsStep at hu
  have old : ∀ u ∈ us, u.2.2 ≤ p + 1 := fun u hu => by have := h u hu; omega
  split at hu
  · split at hu
    · rcases List.mem_append.mp hu with hu | hu
      · exact old u (List.dropLast_subset _ hu)
      · rw [List.mem_singleton.mp hu]; exact Int.le_refl _
    · rcases List.mem_append.mp hu with hu | hu
      · exact old u hu
      · rw [List.mem_singleton.mp hu]; exact Int.le_refl _
  · rcases List.mem_append.mp hu with hu | hu
    · exact old u hu
    · rw [List.mem_singleton.mp hu]; exact Int.le_refl _
theorem ends_from : ∀ (r : List Str) (i : Int) (us : List (Str × Int × Int)), (∀ u ∈ us, u.2.2 ≤ i) → ∀ u ∈ unitsFrom i us r, u.2.2 ≤ i + r.length
  | [], i, us, h => fun u hu => by have := h u hu; simpa using this
  | k :: r, i, us, h => fun u hu => by
    have := ends_from r (i + 1) _ (ends_step h) u hu
    simp only [List.length_cons]; omega
theorem starts_step {n : Int} {us : List (Str × Int × Int)} {p : Int} {k : Str} (hp : n ≤ p) (h : ∀ u ∈ us, n ≤ u.2.1) : ∀ u ∈ unitsStep us p k, n ≤ u.2.1 := by
  intro u hu
  unfold unitsStep at hu
  split at hu
  · rename_i v hv
    split at hu
    · rcases List.mem_append.mp hu with hu | hu
      · exact h u (List.dropLast_subset _ hu)
      · rw [List.mem_singleton.mp hu]; exact h v (List.mem_of_getLast? hv)
    · rcases List.mem_append.mp hu with hu | hu
      · exact h u hu
      · rw [List.mem_singleton.mp hu]; exact hp
  · rcases List.mem_append.mp hu with hu | hu
    · exact h u hu
    · rw [List.mem_singleton.mp hu]; exact hp
theorem starts_from {n : Int} : ∀ (r : List Str) (i : Int) (us : List (Str × Int × Int)), n ≤ i → (∀ u ∈ us, n ≤ u.2.1) → ∀ u ∈ unitsFrom i us r, n ≤ u.2.1
  | [], i, us, _, h => h
  | k :: r, i, us, hi, h => starts_from r (i + 1) _ (by omega) (starts_step hi h)
def Strad (n : Int) (us : List (Str × Int × Int)) : Prop := ∃ u ∈ us, u.2.1 < n ∧ n < u.2.2
theorem strad_step {n : Int} {us : List (Str × Int × Int)} {p : Int} {k : Str} (hp : n ≤ p) (h : Strad n us) : Strad n (unitsStep us p k) := by
  obtain ⟨u, hu, h1, h2⟩ := h
  rcases List.eq_nil_or_concat us with rfl | ⟨t, v, rfl⟩
  · cases hu
  · rw [List.concat_eq_append] at *
    simp only [unitsStep, List.getLast?_append, List.getLast?_singleton, Option.some_or, List.dropLast_concat]
    split
    · rcases List.mem_append.mp hu with hu | hu
      · exact ⟨u, List.mem_append_left _ hu, h1, h2⟩
      · rw [List.mem_singleton.mp hu] at h1
        exact ⟨_, List.mem_append_right _ (List.mem_singleton.mpr rfl), h1, by show n < p + 1; omega⟩
    · exact ⟨u, List.mem_append_left _ hu, h1, h2⟩
theorem strad_from {n : Int} : ∀ (r : List Str) (i : Int) (us : List (Str × Int × Int)), n ≤ i → Strad n us → Strad n (unitsFrom i us r)
  | [], _, _, _, h => h
  | k :: r, i, us, hi, h => strad_from r (i + 1) _ (by omega) (strad_step hi h)
theorem break_strad {ks : List Str} {n : Int} (h : Strad n (unitsS ks)) : isBreakS ks n = false := by
  obtain ⟨u, hu, h1, h2⟩ := h
  have c := both_sides (us := unitsS ks) (pl := n) (cover_units ks).1
  unfold isBreakS
  rw [if_pos]
  simp only [aheadS, behindS, List.length_map]
  rcases Nat.lt_or_ge (((unitsS ks).filter fun u => decide (u.2.2 ≤ n)).length + ((unitsS ks).filter fun u => decide (n ≤ u.2.1)).length) (unitsS ks).length with hl | hl
  · exact hl
  · rcases c.2 hl u hu with h3 | h3 <;> omega
abbrev namesU (ks : List Str) : List Str := namesS (unitsS ks)
theorem unitsS_split (ks r : List Str) (k : Str) : unitsS (ks ++ k :: r) = unitsFrom (ks.length + 1) (unitsStep (unitsS ks) ks.length k) r := by
  unfold unitsS
  rw [unitsFrom_append]
  simp [unitsFrom]
theorem namesU_snoc (ks : List Str) (k : Str) : namesU (ks ++ [k]) = if absN (namesU ks) k then namesU ks else namesU ks ++ [k] := by
  unfold namesU
  rw [unitsS_split, unitsFrom, names_step]
theorem step_app {us : List (Str × Int × Int)} {p : Int} {k : Str} (h : absN (namesS us) k = false) : unitsStep us p k = us ++ [(k, p, p + 1)] := by
  rcases List.eq_nil_or_concat us with rfl | ⟨t, u, rfl⟩
  · rfl
  · rw [List.concat_eq_append] at *
    simp only [absN, namesS, List.map_append, List.map_cons, List.map_nil, List.getLast?_append, List.getLast?_singleton, Option.some_or] at h
    simp only [unitsStep, List.getLast?_append, List.getLast?_singleton, Option.some_or, List.dropLast_concat, h, Bool.false_eq_true, if_false]
theorem step_abs {us : List (Str × Int × Int)} {p : Int} {k : Str} (h : absN (namesS us) k = true) : ∃ t u, us = t ++ [u] ∧ unitsStep us p k = t ++ [(u.1, u.2.1, p + 1)] := by
  rcases List.eq_nil_or_concat us with rfl | ⟨t, u, rfl⟩
  · simp [absN] at h
  · rw [List.concat_eq_append] at *
    refine ⟨t, u, rfl, ?_⟩
    simp only [absN, namesS, List.map_append, List.map_cons, List.map_nil, List.getLast?_append, List.getLast?_singleton, Option.some_or] at h
    simp only [unitsStep, List.getLast?_append, List.getLast?_singleton, Option.some_or, List.dropLast_concat, h, if_true]
/-- the place behind ks, where a unit begins -/
theorem sides {ks r : List Str} {k : Str} (h : absN (namesU ks) k = false) : ∃ B, aheadS (ks ++ k :: r) ks.length = namesU ks ∧ behindS (ks ++ k :: r) ks.length = k :: B ∧ (k :: B).filter isLetterS = (k :: r).filter isLetterS ∧
    (aheadS (ks ++ k :: r) ks.length).length + (behindS (ks ++ k :: r) ks.length).length = (unitsS (ks ++ k :: r)).length := by
  have e : unitsS (ks ++ k :: r) = unitsS ks ++ unitsFrom (ks.length + 1) [(k, (ks.length : Int), (ks.length : Int) + 1)] r := by
    rw [unitsS_split, step_app h, unitsFrom_join _ _ _ _ (by simp)]
  have hend : ∀ u ∈ unitsS ks, u.2.2 ≤ ks.length := fun u hu => by have := ends_from ks 0 [] (fun _ h => nomatch h) u hu; simpa using this
  have hlt := (cover_units (ks ++ k :: r)).1
  rw [e] at hlt
  have hst : ∀ u ∈ unitsFrom (ks.length + 1) [(k, (ks.length : Int), (ks.length : Int) + 1)] r, (ks.length : Int) ≤ u.2.1 :=
    starts_from r _ _ (by omega) fun u hu => by rw [List.mem_singleton.mp hu]; exact Int.le_refl _
  have a1 : (unitsS ks).filter (fun u => decide (u.2.2 ≤ (ks.length : Int))) = unitsS ks := List.filter_eq_self.mpr fun u hu => decide_eq_true (hend u hu)
  have a2 : (unitsFrom (ks.length + 1) [(k, (ks.length : Int), (ks.length : Int) + 1)] r).filter (fun u => decide (u.2.2 ≤ (ks.length : Int))) = [] := List.filter_eq_nil_iff.mpr fun u hu => by
    have h1 := hst u hu
    have h2 := hlt u (List.mem_append_right _ hu)
    simp; omega
  have b1 : (unitsS ks).filter (fun u => decide ((ks.length : Int) ≤ u.2.1)) = [] := List.filter_eq_nil_iff.mpr fun u hu => by
    have h1 := hend u hu
    have h2 := hlt u (List.mem_append_left _ hu)
    simp; omega
  have b2 : (unitsFrom (ks.length + 1) [(k, (ks.length : Int), (ks.length : Int) + 1)] r).filter (fun u => decide ((ks.length : Int) ≤ u.2.1)) = unitsFrom (ks.length + 1) [(k, (ks.length : Int), (ks.length : Int) + 1)] r := List.filter_eq_self.mpr fun u hu => decide_eq_true (hst u hu)
  obtain ⟨B, hB⟩ := names_from_cons r (ks.length + 1) (k, (ks.length : Int), (ks.length : Int) + 1) []
  have hA : aheadS (ks ++ k :: r) ks.length = namesU ks := by
    unfold aheadS; rw [e, List.filter_append, a1, a2, List.append_nil]
  have hBe : behindS (ks ++ k :: r) ks.length = k :: B := by
    unfold behindS; rw [e, List.filter_append, b1, b2, List.nil_append]; exact hB
  refine ⟨B, hA, hBe, ?_, ?_⟩
  · have := letters_from r (ks.length + 1) [(k, (ks.length : Int), (ks.length : Int) + 1)]
    rw [hB] at this
    rw [this]
    exact (List.filter_append (p := isLetterS) [k] r).symm
  · rw [hA, hBe, e, List.length_append]
    have := congrArg List.length hB
    simp only [List.length_map] at this ⊢
    rw [this]
/-! ## the row of a term -/
def termS (A : List Str) : Str × Bool :=
  match (stripS (Str.ofString "Close") (stripS (Str.ofString "Sp") A)).getLast? with
  | some z => if isTerm z then (z, decide ((stripS (Str.ofString "Sp") A).length < A.length)) else (Str.ofString "", false)
  | none => (Str.ofString "", false)
theorem tailS_term (A B : List Str) : tailS A B = if (termS A).1 == Str.ofString "" then false
    else if (termS A).1 == Str.ofString "ATerm" && decide ((B.filter isLetterS).take 1 = [Str.ofString "Lower"]) then false
    else !(isStayS (B.headD (Str.ofString "")) || (B.headD (Str.ofString "") == Str.ofString "Close" && !(termS A).2)) := by
  unfold tailS termS
  simp only
  cases (stripS (Str.ofString "Close") (stripS (Str.ofString "Sp") A)).getLast? with
  | none => simp
  | some z =>
    cases hz : isTerm z with
    | false => simp [hz]
    | true => simp only [hz, Bool.not_true, Bool.false_eq_true, if_false, if_true, beq_eq_false_iff_ne.mpr (term_ne hz).1]
theorem termS_kind (A : List Str) : (termS A).1 = Str.ofString "" ∧ (termS A).2 = false ∨ isTerm (termS A).1 = true := by
  unfold termS
  split
  · split
    · rename_i h; exact .inr h
    · exact .inl ⟨rfl, rfl⟩
  · exact .inl ⟨rfl, rfl⟩
def termStep (t : Str × Bool) (k : Str) : Str × Bool :=
  if isTerm k then (k, false) else if k == Str.ofString "Sp" && !(t.1 == Str.ofString "") then (t.1, true) else if !(k == Str.ofString "Close") || t.2 then (Str.ofString "", false) else t
theorem stripS_last {x : Str} {A : List Str} (h : (stripS x A).length < A.length) : ∃ B, A = B ++ [x] := by
  rcases List.eq_nil_or_concat A with rfl | ⟨B, y, rfl⟩
  · simp at h
  · rw [List.concat_eq_append] at *
    rw [stripS_snoc] at h
    split at h
    · rename_i e; exact ⟨B, by rw [eq_of_beq e]⟩
    · exact absurd h (Nat.lt_irrefl _)
theorem stripS_same {x : Str} {A : List Str} (h : ¬ (stripS x A).length < A.length) : stripS x A = A := by
  rcases List.eq_nil_or_concat A with rfl | ⟨B, y, rfl⟩
  · rfl
  · rw [List.concat_eq_append] at *
    rw [stripS_snoc] at h ⊢
    split
    · rename_i e
      rw [if_pos e] at h
      have := stripS_length x B
      simp at h; omega
    · rfl
theorem nSp : isTerm (Str.ofString "Sp") = false := by decide +kernel
theorem nClose : isTerm (Str.ofString "Close") = false := by decide +kernel
theorem nSC : (Str.ofString "Sp" == Str.ofString "Close") = false := by decide +kernel
theorem nCS : (Str.ofString "Close" == Str.ofString "Sp") = false := by decide +kernel
theorem termS_snoc (A : List Str) (k : Str) : termS (A ++ [k]) = termStep (termS A) k := by
  unfold termStep
  cases hk : isTerm k with
  | true =>
    obtain ⟨_, h2, h3, _⟩ := term_ne hk
    simp only [termS, stripS_snoc, beq_eq_false_iff_ne.mpr h2, beq_eq_false_iff_ne.mpr h3, Bool.false_eq_true, if_false, List.getLast?_append, List.getLast?_singleton, Option.some_or, hk, if_true, Nat.lt_irrefl, decide_false]
  | false =>
    simp only [Bool.false_eq_true, if_false]
    by_cases hs : k = Str.ofString "Sp"
    · subst hs
      have hl : (stripS (Str.ofString "Sp") A).length < (A ++ [Str.ofString "Sp"]).length := by have := stripS_length (Str.ofString "Sp") A; simp; omega
      have e : termS (A ++ [Str.ofString "Sp"]) = match (stripS (Str.ofString "Close") (stripS (Str.ofString "Sp") A)).getLast? with
          | some z => if isTerm z then (z, true) else (Str.ofString "", false)
          | none => (Str.ofString "", false) := by
        unfold termS
        rw [stripS_snoc]
        simp only [beq_self_eq_true, if_true, decide_eq_true hl]
      rw [e]
      unfold termS
      simp only [beq_self_eq_true, Bool.true_and, nSC, Bool.not_false, Bool.true_or, if_true]
      cases (stripS (Str.ofString "Close") (stripS (Str.ofString "Sp") A)).getLast? with
      | none => simp
      | some z =>
        cases hz : isTerm z with
        | false => simp [hz]
        | true => simp only [hz, if_true, beq_eq_false_iff_ne.mpr (term_ne hz).1, Bool.not_false]
    · simp only [beq_eq_false_iff_ne.mpr hs, Bool.false_and, Bool.false_eq_true, if_false]
      by_cases hc : k = Str.ofString "Close"
      · subst hc
        simp only [beq_self_eq_true, Bool.not_true, Bool.false_or]
        have e : termS (A ++ [Str.ofString "Close"]) = match (stripS (Str.ofString "Close") A).getLast? with
            | some z => if isTerm z then (z, false) else (Str.ofString "", false)
            | none => (Str.ofString "", false) := by
          unfold termS
          rw [stripS_snoc, nCS]
          simp only [Bool.false_eq_true, if_false]
          rw [stripS_snoc]
          simp only [beq_self_eq_true, if_true, Nat.lt_irrefl, decide_false]
        rw [e]
        by_cases hl : (stripS (Str.ofString "Sp") A).length < A.length
        · obtain ⟨B, rfl⟩ := stripS_last hl
          have e2 : stripS (Str.ofString "Close") (B ++ [Str.ofString "Sp"]) = B ++ [Str.ofString "Sp"] := by rw [stripS_snoc, nSC]; rfl
          rw [e2]
          simp only [List.getLast?_append, List.getLast?_singleton, Option.some_or, nSp, Bool.false_eq_true, if_false]
          rcases termS_kind (B ++ [Str.ofString "Sp"]) with h | h
          · rw [if_neg (by rw [h.2]; simp)]
            exact (Prod.ext h.1 h.2).symm
          · rw [if_pos]
            unfold termS at h ⊢
            split at h
            · rename_i z hz
              split at h
              · rename_i hz2; rw [if_pos hz2]; exact decide_eq_true hl
              · exact absurd h (by decide +kernel)
            · exact absurd h (by decide +kernel)
        · have e1 := stripS_same hl
          have e2 : termS A = match (stripS (Str.ofString "Close") A).getLast? with
            | some z => if isTerm z then (z, false) else (Str.ofString "", false)
            | none => (Str.ofString "", false) := by
            unfold termS
            rw [e1]
            simp only [Nat.lt_irrefl, decide_false]
          rw [← e2]
          have e3 : (termS A).2 = false := by
            rw [e2]
            split
            · split <;> rfl
            · rfl
          rw [e3]; rfl
      · simp only [beq_eq_false_iff_ne.mpr hc, Bool.not_false, Bool.true_or, if_true]
        simp only [termS, stripS_snoc, beq_eq_false_iff_ne.mpr hs, beq_eq_false_iff_ne.mpr hc, Bool.false_eq_true, if_false, List.getLast?_append, List.getLast?_singleton, Option.some_or, hk]
/-! ## the stream's state behind a text -/
structure Sound (ks : List Str) (c : St) : Prop where
  pos : c.pos = ks.length
  bas : c.bas = (namesU ks).getLastD (Str.ofString "")
  prior : c.prior = (namesU ks).dropLast.getLastD (Str.ofString "")
  para : isPara c.last = isPara c.bas
  last : isPara c.last = true → c.last = c.bas
  term : (c.term, c.spaced) = termS (namesU ks)
  ne : ks ≠ [] → namesU ks ≠ []
theorem sound_abs {ks : List Str} {c : St} (h : Sound ks c) (k : Str) : absN (namesU ks) k = (isHang k && decide (c.pos > 0) && !isPara c.last) := by
  rcases List.eq_nil_or_concat (namesU ks) with e | ⟨A, n, e⟩
  · have : ks = [] := Classical.byContradiction fun hk => h.ne hk e
    have hp := h.pos
    subst this
    simp [absN, hp, unitsS, unitsFrom]
  · rw [List.concat_eq_append] at e
    have hne : ks ≠ [] := fun hk => by subst hk; rw [show namesU [] = [] from rfl] at e; simp at e
    have hpos : c.pos > 0 := by rw [h.pos]; have := List.length_pos_iff.mpr hne; omega
    have hb : c.bas = n := by rw [h.bas, e]; simp
    rw [h.para, hb, e]
    simp [absN, hpos]
theorem sound_take {ks : List Str} {c : St} (h : Sound ks c) (k : Str) : Sound (ks ++ [k]) (takeS c k) := by
  have ha := sound_abs h k
  have hn := namesU_snoc ks k
  unfold takeS
  rw [← ha]
  cases hk : absN (namesU ks) k with
  | true =>
    rw [hk] at ha hn
    have hh : isHang k = true ∧ isPara c.last = false := by
      have := ha.symm
      simp only [Bool.and_eq_true, Bool.not_eq_true'] at this
      exact ⟨this.1.1, this.2⟩
    simp only [if_true] at hn ⊢
    have hp := hang_noPara hh.1
    refine ⟨?_, ?_, ?_, ?_, ?_, ?_, ?_⟩
    · simp [h.pos]
    · rw [hn]; exact h.bas
    · rw [hn]; exact h.prior
    · show isPara k = isPara c.bas
      rw [hp, ← h.para, hh.2]
    · intro e
      have e' : isPara k = true := e
      rw [hp] at e'; cases e'
    · rw [hn]; exact h.term
    · intro _
      rw [hn]
      intro e
      have : absN (namesU ks) k = false := by rw [e]; simp [absN]
      rw [hk] at this; cases this
  | false =>
    rw [hk] at hn
    simp only [Bool.false_eq_true, if_false] at hn ⊢
    refine ⟨?_, ?_, ?_, ?_, ?_, ?_, ?_⟩
    · simp [h.pos]
    · rw [hn]; simp
    · rw [hn]; simp only [List.dropLast_concat]; exact h.bas
    · rfl
    · intro _; rfl
    · rw [hn, termS_snoc, ← h.term]
      unfold termStep
      simp only
      split
      · rfl
      · split
        · rfl
        · split <;> rfl
    · intro _; rw [hn]; simp
def initS : St := ⟨0, Str.ofString "", Str.ofString "", Str.ofString "", Str.ofString "", false, -1⟩
theorem sound_nil : Sound [] initS := by
  refine ⟨rfl, rfl, rfl, rfl, fun _ => rfl, ?_, fun h => absurd rfl h⟩
  decide +kernel
theorem sound_held {ks : List Str} {c : St} (h : Sound ks c) (x : Int) : Sound ks { c with held := x } := ⟨h.pos, h.bas, h.prior, h.para, h.last, h.term, h.ne⟩
def outS (v : Str) (r : List Str) : Bool := if v == Str.ofString "break" then true else if v == Str.ofString "wait" then !decide ((r.filter isLetterS).take 1 = [Str.ofString "Lower"]) else false
theorem vBN : (Str.ofString "none" == Str.ofString "break") = false := by decide +kernel
theorem vNW : (Str.ofString "none" == Str.ofString "wait") = false := by decide +kernel
theorem vWB : (Str.ofString "wait" == Str.ofString "break") = false := by decide +kernel
theorem out_none (r : List Str) : outS (Str.ofString "none") r = false := by unfold outS; rw [vBN, vNW]; rfl
theorem out_break (r : List Str) : outS (Str.ofString "break") r = true := by unfold outS; rw [beq_self_eq_true]; rfl
theorem out_wait (r : List Str) : outS (Str.ofString "wait") r = !decide ((r.filter isLetterS).take 1 = [Str.ofString "Lower"]) := by unfold outS; rw [vWB, beq_self_eq_true]; rfl
theorem nLower : (Str.ofString "ATerm" == Str.ofString "STerm") = false := by decide +kernel
theorem nLowerO : isLetterS (Str.ofString "OLetter") = true ∧ isLetterS (Str.ofString "Upper") = true ∧ isLetterS (Str.ofString "Lower") = true ∧ (Str.ofString "OLetter" ≠ Str.ofString "Lower") ∧ (Str.ofString "Upper" ≠ Str.ofString "Lower") ∧ isPara (Str.ofString "CR") = true ∧ isPara (Str.ofString "ATerm") = false := by decide +kernel
/-- the place behind a text: what the stream makes of it is what the rules say -/
theorem break_at {ks : List Str} {c : St} (h : Sound ks c) (hne : ks ≠ []) (k : Str) (r : List Str) :
    isBreakS (ks ++ k :: r) ks.length = outS (verdictS c k) r ∧ (verdictS c k = Str.ofString "wait" → isLetterS k = false) := by
  have hpos : c.pos > 0 := by rw [h.pos]; have := List.length_pos_iff.mpr hne; omega
  have ha := sound_abs h k
  have hp0 : ¬ c.pos = 0 := by omega
  cases hk : absN (namesU ks) k with
  | true =>
    rw [hk] at ha
    have hh : isHang k = true ∧ isPara c.last = false := by
      have := ha.symm
      simp only [Bool.and_eq_true, Bool.not_eq_true'] at this
      exact ⟨this.1.1, this.2⟩
    have hv : verdictS c k = Str.ofString "none" := by
      unfold verdictS
      rw [if_neg hp0, hh.2, hh.1]; rfl
    rw [hv, out_none]
    refine ⟨break_strad ?_, fun e => absurd e (by decide +kernel)⟩
    rw [unitsS_split]
    obtain ⟨t, u, e1, e2⟩ := step_abs (us := unitsS ks) (p := ks.length) hk
    rw [e2]
    refine strad_from r _ _ (by omega) ⟨(u.1, u.2.1, (ks.length : Int) + 1), by simp, ?_, ?_⟩
    · have h1 := (cover_units ks).1 u (by rw [e1]; simp)
      have h2 := (cover_units ks).2.2 u (by rw [e1]; simp)
      show u.2.1 < (ks.length : Int)
      omega
    · show (ks.length : Int) < (ks.length : Int) + 1
      omega
  | false =>
    obtain ⟨B, hA, hB, hL, hlen⟩ := sides (r := r) hk
    have hdp : decide (c.pos > 0) = true := decide_eq_true hpos
    rw [hk, hdp, Bool.and_true] at ha
    have hbr : isBreakS (ks ++ k :: r) ks.length = edgeS (namesU ks) (k :: B) := by
      unfold isBreakS
      rw [if_neg (by rw [hlen]; exact Nat.lt_irrefl _), hA, hB]
    rw [hbr]
    unfold edgeS verdictS
    simp only [List.headD_cons, hp0, if_false, ← h.bas]
    cases hpa : isPara c.last with
    | true =>
      have hl := h.last hpa
      rw [← hl, hpa]
      simp only [if_true]
      split
      · rw [out_none]; exact ⟨rfl, fun e => absurd e (by decide +kernel)⟩
      · rw [out_break]; exact ⟨rfl, fun e => absurd e (by decide +kernel)⟩
    | false =>
      rw [hpa] at ha
      have hh : isHang k = false := by simpa using ha.symm
      have hb := h.para
      rw [hpa] at hb
      have hcr : (c.bas == Str.ofString "CR") = false := beq_eq_false_iff_ne.mpr fun e => by rw [e, nLowerO.2.2.2.2.2.1] at hb; cases hb
      rw [← hb, hh, hcr]
      simp only [Bool.false_and, Bool.false_eq_true, if_false]
      have hpr : (decide ((namesU ks).dropLast.getLast?.toList = [Str.ofString "Upper"]) || decide ((namesU ks).dropLast.getLast?.toList = [Str.ofString "Lower"])) = isCased c.prior := by
        rw [h.prior, List.getLastD_eq_getLast?]
        cases (namesU ks).dropLast.getLast? with
        | none => decide +kernel
        | some z =>
          have hz : ∀ a b : Str, (a == b) = (b == a) := fun a b => by
            by_cases e : a = b
            · subst e; rfl
            · rw [beq_eq_false_iff_ne.mpr e, beq_eq_false_iff_ne.mpr (Ne.symm e)]
          simp only [Option.toList_some, Option.getD_some, isCased, List.any_cons, List.any_nil, Bool.or_false, hz _ z, List.cons.injEq, and_true]
          congr 1
      rw [hpr]
      split
      · rw [out_none]; exact ⟨rfl, fun e => absurd e (by decide +kernel)⟩
      · rw [tailS_term, ← h.term]
        simp only [List.headD_cons, hL]
        cases ht : (c.term == Str.ofString "") with
        | true =>
          simp only [Bool.true_or, if_true]
          rw [out_none]; exact ⟨rfl, fun e => absurd e (by decide +kernel)⟩
        | false =>
          have htk : isTerm c.term = true := by
            have := termS_kind (namesU ks)
            rw [← h.term] at this
            rcases this with e | e
            · exact absurd e.1 (by simpa using ht)
            · exact e
          simp only [Bool.false_or, Bool.false_eq_true, if_false]
          have hst := isStay_eq k
          cases hs : isStayS k with
          | true =>
            rw [hs] at hst
            rw [← hst]
            simp only [if_true, Bool.true_or, Bool.not_true, ite_self]
            rw [out_none]; exact ⟨rfl, fun e => absurd e (by decide +kernel)⟩
          | false =>
            rw [hs] at hst
            rw [← hst]
            simp only [Bool.false_eq_true, if_false, Bool.false_or]
            cases hc : (k == Str.ofString "Close" && !c.spaced) with
            | true =>
              simp only [if_true, Bool.not_true, ite_self]
              rw [out_none]; exact ⟨rfl, fun e => absurd e (by decide +kernel)⟩
            | false =>
              simp only [Bool.false_eq_true, if_false, Bool.not_false]
              have h3 := hst.symm
              simp only [Bool.or_eq_false_iff] at h3
              by_cases hS : c.term = Str.ofString "STerm"
              · rw [hS]
                simp only [beq_self_eq_true, Bool.true_or, if_true]
                have : (Str.ofString "STerm" == Str.ofString "ATerm") = false := by decide +kernel
                rw [this, out_break]
                exact ⟨rfl, fun e => absurd e (by decide +kernel)⟩
              · have hAT : c.term = Str.ofString "ATerm" := (isTerm_iff.mp htk).resolve_right hS
                rw [hAT, nLower, beq_self_eq_true]
                simp only [Bool.false_or, Bool.true_and]
                by_cases hO : k = Str.ofString "OLetter"
                · subst hO
                  simp only [beq_self_eq_true, Bool.true_or, if_true, List.filter_cons, nLowerO.1, List.take_succ_cons, List.take_zero, List.cons.injEq, and_true, nLowerO.2.2.2.1, decide_false, Bool.false_eq_true, if_false]
                  rw [out_break]; exact ⟨rfl, fun e => absurd e (by decide +kernel)⟩
                · by_cases hU : k = Str.ofString "Upper"
                  · subst hU
                    simp only [beq_self_eq_true, Bool.or_true, if_true, List.filter_cons, nLowerO.2.1, List.take_succ_cons, List.take_zero, List.cons.injEq, and_true, nLowerO.2.2.2.2.1, decide_false, Bool.false_eq_true, if_false]
                    rw [out_break]; exact ⟨rfl, fun e => absurd e (by decide +kernel)⟩
                  · by_cases hLo : k = Str.ofString "Lower"
                    · subst hLo
                      simp only [beq_eq_false_iff_ne.mpr hO, beq_eq_false_iff_ne.mpr hU, Bool.or_false, Bool.false_eq_true, beq_self_eq_true, if_true, if_false, List.filter_cons, nLowerO.2.2.1, List.take_succ_cons, List.take_zero, decide_true]
                      rw [out_none]; exact ⟨rfl, fun e => absurd e (by decide +kernel)⟩
                    · have hlet : isLetterS k = false := by
                        rw [isLetter_eq, h3.2, h3.1.1.2, beq_eq_false_iff_ne.mpr hO, beq_eq_false_iff_ne.mpr hU, beq_eq_false_iff_ne.mpr hLo]; rfl
                      simp only [beq_eq_false_iff_ne.mpr hO, beq_eq_false_iff_ne.mpr hU, beq_eq_false_iff_ne.mpr hLo, Bool.or_false, Bool.false_eq_true, if_false, List.filter_cons, hlet]
                      rw [out_wait]
                      refine ⟨?_, fun _ => trivial⟩
                      split <;> rename_i hd <;> simp only [Bool.not_eq_true, decide_eq_true_eq, decide_eq_false_iff_not] at hd <;> simp [hd]
end Plainpart
section V4part
theorem lines24 : True := by
  k_with_none
  (k_with "k_inst" => exact IsInst.at (by assumption) (by k_asm))
  (k_with "compareOp In str ref" => (k_here; (first | (with_reducible refine' in_22 ?Fq496w ?Xq496w ?_) | (with_reducible refine' in_23 ?Fq496w ?Xq496w ?_) | (with_reducible refine' in_24 ?Fq496w ?Xq496w ?_) | (with_reducible refine' in_25 ?Fq496w ?Xq496w ?_) | (with_reducible refine' in_26 ?Fq496w ?Xq496w ?_)); (case Fq496w => k_asm); (case Xq496w => k_asm); k_whole))
  (k_with "compareOp NotIn str ref" => (k_here; (with_reducible refine' notin_22 ?Fq497w ?Xq497w ?_); (case Fq497w => k_asm); (case Xq497w => k_asm); k_whole))
  (k_with "exec For Tuple Call cons nil" => (k_here; (rename Fr _ _ _ _ => lFzz); (with_unfolding_all refine' For_turns lFzz ?_; k_whole)))
  (k_with "call type:enumerate" => (k_here; (with_reducible show wpAny _ _ (call (Value.type _) [Value.ref _]) (fun xv s₁ => wpAny _ _ (pyIter xv) (fun it s₂ => TurnsAt _ _ _ _ _ _ _ _ _ it s₂) _ s₁) _ _); refine halt_ ?_))
  (k_with "TurnPost" => (dsimp only [TurnPost]))
  (k_with "compareOp In str ref" => (k_here; k_dflt (first | (refine' in_made isHang ?Nq501w ?mq501w ?iq501w ?pq501w ?_; (case Nq501w => k_asm); (case mq501w => k_mem); (case iq501w => repeat constructor); (case pq501w => rfl); k_whole) | (refine' in_made isPara ?Nq501w ?mq501w ?iq501w ?pq501w ?_; (case Nq501w => k_asm); (case mq501w => k_mem); (case iq501w => repeat constructor); (case pq501w => rfl); k_whole) | (refine' in_made isLetterS ?Nq501w ?mq501w ?iq501w ?pq501w ?_; (case Nq501w => k_asm); (case mq501w => k_mem); (case iq501w => repeat constructor); (case pq501w => rfl); k_whole) | (refine' in_made isStayS ?Nq501w ?mq501w ?iq501w ?pq501w ?_; (case Nq501w => k_asm); (case mq501w => k_mem); (case iq501w => repeat constructor); (case pq501w => rfl); k_whole))))
  (k_with "compareOp NotIn str ref" => (k_here; k_dflt (first | (refine' notin_made isTerm ?Nq502w ?mq502w ?iq502w ?pq502w ?_; (case Nq502w => k_asm); (case mq502w => k_mem); (case iq502w => repeat constructor); (case pq502w => rfl); k_whole) | (refine' notin_made isPara ?Nq502w ?mq502w ?iq502w ?pq502w ?_; (case Nq502w => k_asm); (case mq502w => k_mem); (case iq502w => repeat constructor); (case pq502w => rfl); k_whole))))
  (k_with "compareOp NotEq ref ref" => (k_here; k_dflt (refine' ne_unitsK ?Nq503w ?aq503w ?uq503w ?sq503w ?bq503w ?oq503w ?rq503w ?_; (case Nq503w => k_asm); (case aq503w => k_mem); (case uq503w => assumption); (case sq503w => kcf_all); (case bq503w => k_mem); (case oq503w => assumption); (case rq503w => ktr_units); k_whole)))
  (k_with "subscriptTail" => (k_here; (with_reducible show wpAny _ _ (subscriptTail _ _ (Value.ref _) (Value.int (-1) _)) _ _ _); k_dflt (refine' item_lastN ?Nq504w ?aq504w ?_ ?hq504w; (case Nq504w => k_asm); (case aq504w => k_mem); (case hq504w => with_unfolding_all rfl); k_whole)))
  (k_with "subscriptTail" => (k_here; (first | ((with_reducible show wpAny _ _ (subscriptTail _ _ (Value.ref _) (Value.int 0 _)) _ _ _); k_dflt (refine' item3_0 ?Nq505w ?aq505w ?sq505w ?_ ?hq505w; (case Nq505w => k_asm); (case aq505w => with_reducible assumption); (case sq505w => kcf_all); (case hq505w => with_unfolding_all rfl); k_whole)) | ((with_reducible show wpAny _ _ (subscriptTail _ _ (Value.ref _) (Value.int 1 _)) _ _ _); k_dflt (refine' item3_1 ?Nq505w ?aq505w ?sq505w ?_ ?hq505w; (case Nq505w => k_asm); (case aq505w => with_reducible assumption); (case sq505w => kcf_all); (case hq505w => with_unfolding_all rfl); k_whole)) | ((with_reducible show wpAny _ _ (subscriptTail _ _ (Value.ref _) (Value.int 2 _)) _ _ _); k_dflt (refine' item3_2 ?Nq505w ?aq505w ?sq505w ?_ ?hq505w; (case Nq505w => k_asm); (case aq505w => with_reducible assumption); (case sq505w => kcf_all); (case hq505w => with_unfolding_all rfl); k_whole)))))
  (k_with "setItem ref int ref" => (k_here; k_dflt (refine' setLast_K ?Fq506w ?Nq506w ?Uq506w ?_; (case Fq506w => k_asm); (case Nq506w => k_asm); (case Uq506w => k_upd); k_whole); intro _ _ _; (try k_sweep)))
  (k_with "k_all" => assumption)
  (k_with "size_fits" => ((rw [PySem.sizeLine_eq]); (simp only [List.size_toArray, List.length_append, List.length_cons, List.length_nil]); omega))
  (k_with "CompSrcT" => (k_here; k_dflt (refine' LCt.CompSrcT.ledger ?hhq509w ?Fq509w ?Nq509w ?mq509w ?zq509w ?_; (case hhq509w => exact rfl); (case Fq509w => k_asm); (case Nq509w => k_asm); (case mq509w => k_mem); (case zq509w => size_fits)); intro _; refine halt_ ?_))
  (k_with "exec Assign cons ListComp" => (k_here; lct_look; k_dflt (refine LCt.Assign_ListComp_T (F₀ := by k_asm) (by rfl) (by with_unfolding_all rfl) (by with_unfolding_all rfl) (by decide) (by rfl) (by decide) (by rfl) (by rfl) (by rfl) ?_)))
  (k_with "CompEnd" => (refine LCg.CompEnd.intro (by assumption) (by assumption) _ (fun _ h9 => h9) (by first | assumption | (simp only [LCg.Off3, and_true]; assumption)) (by lcg_src) ?_; first | exact ⟨⟨_, rfl⟩, rfl, by first | assumption | exact decide_eq_true (by assumption)⟩ | exact ⟨rfl, by first | assumption | exact decide_eq_false (by assumption)⟩))
  (k_with "call builtin:len" => (k_here; (with_reducible show wpAny _ _ (call (Value.builtin "len") [Value.ref _]) _ _ _); k_dflt (refine' kst_len ?k1q512w ?k2q512w ?k3q512w ?k4q512w ?_; (case k1q512w => k_asm); (case k2q512w => k_mem); (case k3q512w => exact rfl); (case k4q512w => omega); k_whole)))
  (k_with "subscriptTail Name Slice ref ref" => (k_here; (with_reducible show wpAny _ _ (subscriptTail _ (PySem.Expr.Slice _ _ none _) (Value.ref _) (Value.ref _)) _ _ _); k_dflt (refine' slice_K ?Fq513w ?Nq513w ?lq513w ?pq513w ?qq513w ?_ ?sq513w ?tq513w ?zq513w; (case Fq513w => k_asm); (case Nq513w => k_asm); (case lq513w => first | exact News.isList (by k_asm) (by k_mem) | exact listBase (by k_asm) (by assumption)); (case pq513w => kmk_part); (case qq513w => kmk_part); (case sq513w => with_unfolding_all rfl); (case tq513w => kmk_pure); (case zq513w => size_fits)); intro _ _ _ Nzz l1zz; (try k_lt l1zz); (try dsimp only at Nzz); (try k_sweep)))
  (k_with "compareOp In ref ref" => (k_here; k_dflt (refine' in_two ?Nq514w ?xq514w ?vq514w ?tq514w ?aq514w ?vaq514w ?bq514w ?vbq514w ?okq514w ?okaq514w ?okbq514w ?uq514w ?_; (case Nq514w => k_asm); (case xq514w => k_mem); (case vq514w => exact strs_pick (by assumption)); (case tq514w => k_mem); (case aq514w => k_mem); (case vaq514w => exact .cons _ _ .nil); (case bq514w => k_mem); (case vbq514w => exact .cons _ _ .nil); (case okq514w => exact pick_sub (by assumption)); (case okaq514w => decide +kernel); (case okbq514w => decide +kernel); (case uq514w => ktr_units); k_whole)))
  (k_with "exec While" => (k_here; refine halt_ ?_))
  (k_with "compareOp NotEq ref ref" => (k_here; k_dflt (first | (refine' ne_bothK ?Nq516w ?aq516w ?bq516w ?uq516w ?_; (case Nq516w => k_asm); (case aq516w => k_mem); (case bq516w => k_mem); (case uq516w => ktr_units); k_whole) | (refine' ne_snocK ?Nq516w ?aq516w ?vq516w ?bq516w ?oq516w ?uq516w ?_; (case Nq516w => k_asm); (case aq516w => k_mem); (case vq516w => assumption); (case bq516w => k_mem); (case oq516w => assumption); (case uq516w => ktr_units); k_whole))))
  (k_with "compareOp Eq ref ref" => (k_here; k_dflt (first | (refine' eq_bothK ?Nq517w ?aq517w ?bq517w ?uq517w ?_; (case Nq517w => k_asm); (case aq517w => k_mem); (case bq517w => k_mem); (case uq517w => ktr_units); k_whole) | (refine' eq_snocK ?Nq517w ?aq517w ?vq517w ?bq517w ?oq517w ?uq517w ?_; (case Nq517w => k_asm); (case aq517w => k_mem); (case vq517w => assumption); (case bq517w => k_mem); (case oq517w => assumption); (case uq517w => ktr_units); k_whole))))
  (k_with "call builtin:list.pop" => (k_here; (with_reducible show wpAny _ _ (call (Value.builtin _) [Value.ref _]) _ _ _); k_dflt (refine' pop_snoc ?Fq518w ?Nq518w ?Uq518w ?zq518w ?_; (case Fq518w => k_asm); (case Nq518w => k_asm); (case Uq518w => k_upd); (case zq518w => size_fits); k_whole); intro _ _ _; (try k_sweep)))
  (k_with "call ref" => (k_here; refine halt_ ?_))
  (k_with "k_ne" => (apply nn8; (try dsimp only); with_reducible ((fail_if_success show @Ne Nat 987654321 _); (fail_if_success show @Ne Nat _ 987654321); first | assumption | (apply nq1; assumption) | (apply nq2; assumption) | (apply nq3; assumption) | (apply nc1; assumption; (first | exact And.left | exact fun z => z.2.1 | exact fun z => z.2.2.1 | exact fun z => z.2.2.2.1 | exact fun z => z.2.2.2.2.1 | exact fun z => z.2.2.2.2.2.1 | exact fun z => z.2.2.2.2.2.2.1 | exact fun z => z.2.2.2.2.2.2.2.1 | exact fun z => z.2.2.2.2.2.2.2.2.1 | exact fun z => z.2.2.2.2.2.2.2.2.2.1 | exact fun z => z.2.2.2.2.2.2.2.2.2.2.1 | exact fun z => z.2.2.2.2.2.2.2.2.2.2.2.1 | exact fun z => z.2.2.2.2.2.2.2.2.2.2.2.2.1 | exact fun z => z.2.2.2.2.2.2.2.2.2.2.2.2.2.1 | exact And.right | exact fun z => z.2.2 | exact fun z => z.2.2.2 | exact fun z => z.2.2.2.2 | exact fun z => z.2.2.2.2.2 | exact fun z => z.2.2.2.2.2.2 | exact fun z => z.2.2.2.2.2.2.2 | exact fun z => z.2.2.2.2.2.2.2.2 | exact fun z => z.2.2.2.2.2.2.2.2.2 | exact fun z => z.2.2.2.2.2.2.2.2.2.2 | exact fun z => z.2.2.2.2.2.2.2.2.2.2.2 | exact fun z => z.2.2.2.2.2.2.2.2.2.2.2.2 | exact fun z => z.2.2.2.2.2.2.2.2.2.2.2.2.2)) | (apply nc2; assumption; (first | exact And.left | exact fun z => z.2.1 | exact fun z => z.2.2.1 | exact fun z => z.2.2.2.1 | exact fun z => z.2.2.2.2.1 | exact fun z => z.2.2.2.2.2.1 | exact fun z => z.2.2.2.2.2.2.1 | exact fun z => z.2.2.2.2.2.2.2.1 | exact fun z => z.2.2.2.2.2.2.2.2.1 | exact fun z => z.2.2.2.2.2.2.2.2.2.1 | exact fun z => z.2.2.2.2.2.2.2.2.2.2.1 | exact fun z => z.2.2.2.2.2.2.2.2.2.2.2.1 | exact fun z => z.2.2.2.2.2.2.2.2.2.2.2.2.1 | exact fun z => z.2.2.2.2.2.2.2.2.2.2.2.2.2.1 | exact And.right | exact fun z => z.2.2 | exact fun z => z.2.2.2 | exact fun z => z.2.2.2.2 | exact fun z => z.2.2.2.2.2 | exact fun z => z.2.2.2.2.2.2 | exact fun z => z.2.2.2.2.2.2.2 | exact fun z => z.2.2.2.2.2.2.2.2 | exact fun z => z.2.2.2.2.2.2.2.2.2 | exact fun z => z.2.2.2.2.2.2.2.2.2.2 | exact fun z => z.2.2.2.2.2.2.2.2.2.2.2 | exact fun z => z.2.2.2.2.2.2.2.2.2.2.2.2 | exact fun z => z.2.2.2.2.2.2.2.2.2.2.2.2.2)) | (apply nc3; assumption; (first | exact And.left | exact fun z => z.2.1 | exact fun z => z.2.2.1 | exact fun z => z.2.2.2.1 | exact fun z => z.2.2.2.2.1 | exact fun z => z.2.2.2.2.2.1 | exact fun z => z.2.2.2.2.2.2.1 | exact fun z => z.2.2.2.2.2.2.2.1 | exact fun z => z.2.2.2.2.2.2.2.2.1 | exact fun z => z.2.2.2.2.2.2.2.2.2.1 | exact fun z => z.2.2.2.2.2.2.2.2.2.2.1 | exact fun z => z.2.2.2.2.2.2.2.2.2.2.2.1 | exact fun z => z.2.2.2.2.2.2.2.2.2.2.2.2.1 | exact fun z => z.2.2.2.2.2.2.2.2.2.2.2.2.2.1 | exact And.right | exact fun z => z.2.2 | exact fun z => z.2.2.2 | exact fun z => z.2.2.2.2 | exact fun z => z.2.2.2.2.2 | exact fun z => z.2.2.2.2.2.2 | exact fun z => z.2.2.2.2.2.2.2 | exact fun z => z.2.2.2.2.2.2.2.2 | exact fun z => z.2.2.2.2.2.2.2.2.2 | exact fun z => z.2.2.2.2.2.2.2.2.2.2 | exact fun z => z.2.2.2.2.2.2.2.2.2.2.2 | exact fun z => z.2.2.2.2.2.2.2.2.2.2.2.2 | exact fun z => z.2.2.2.2.2.2.2.2.2.2.2.2.2)) | (apply nc4; assumption; (first | exact And.left | exact fun z => z.2.1 | exact fun z => z.2.2.1 | exact fun z => z.2.2.2.1 | exact fun z => z.2.2.2.2.1 | exact fun z => z.2.2.2.2.2.1 | exact fun z => z.2.2.2.2.2.2.1 | exact fun z => z.2.2.2.2.2.2.2.1 | exact fun z => z.2.2.2.2.2.2.2.2.1 | exact fun z => z.2.2.2.2.2.2.2.2.2.1 | exact fun z => z.2.2.2.2.2.2.2.2.2.2.1 | exact fun z => z.2.2.2.2.2.2.2.2.2.2.2.1 | exact fun z => z.2.2.2.2.2.2.2.2.2.2.2.2.1 | exact fun z => z.2.2.2.2.2.2.2.2.2.2.2.2.2.1 | exact And.right | exact fun z => z.2.2 | exact fun z => z.2.2.2 | exact fun z => z.2.2.2.2 | exact fun z => z.2.2.2.2.2 | exact fun z => z.2.2.2.2.2.2 | exact fun z => z.2.2.2.2.2.2.2 | exact fun z => z.2.2.2.2.2.2.2.2 | exact fun z => z.2.2.2.2.2.2.2.2.2 | exact fun z => z.2.2.2.2.2.2.2.2.2.2 | exact fun z => z.2.2.2.2.2.2.2.2.2.2.2 | exact fun z => z.2.2.2.2.2.2.2.2.2.2.2.2 | exact fun z => z.2.2.2.2.2.2.2.2.2.2.2.2.2)))))
  (k_with "k_upd" => first | (apply uh8; k_all) | (apply ut8; k_ne; k_upd))
  (k_with "k_updF" => first | (apply fh8; k_all) | (apply ft8; k_ne; k_updF))
  (k_with "k_all" => first | exact List.forall_mem_nil _ | (apply an8; k_ne; k_all))
  (k_with "kcf_all" => first | exact fun _ hp => hp | (apply sb8; (focus kcf_m); kcf_all))
  (k_with "ktr_units" => first | exact uu2 hu rfl | exact uu1 hu rfl | exact uu3 hu rfl | exact uu4 hu rfl)
  (k_with "ktr_room" => first | exact uu2 hdp rfl | exact uu1 hdp rfl | exact uu3 hdp rfl | exact uu4 hdp rfl)
  (k_with "subscriptTail Name UnaryOp ref int" => k_extra "subscriptTail")
  exact trivial
set_option maxRecDepth 100000 in
set_option maxHeartbeats 8000000 in
theorem C_units {w : World} {mean : ExcName → Option Value} {mg mb : Str → Option Value} {dp un : Nat} {gd : Option (List Code)} {cn : Str} {cs : Scope} {a : Addr} {ccd : Value} {cl : List (Str × Addr)} {outer : List Env} {A₀ : Around} {base h₀ : Heap} {L : Addr} {m : Str → Option Value} {s : Shared} {Q E : Value → Shared → Prop} (B : Below A₀ base outer h₀) (F : Fr h₀ L s.heap m) (X : (hd.heap_1 w.params).In h₀) (T : (Top view9 (looseW view9 []) mean mg mb h₀)) (hk : cs.kind = .function) {l : Addr} {vs : List Value} {ks : List Str} {nn : Nat} {news : List (Addr × Obj)}
    (N : News h₀ L s.heap news) (hl : s.heap.get? l = some (listOf vs.toArray nn)) (hv : StrsAre vs ks) (hlen : ks.length < 100) (hok : ∀ k ∈ ks, PyData.strOk k = true)
    (hdp : dp + 4 < recursionLimit) (hu : un + 400 < cLine)
    (hret : ∀ f us tl k h' tk', s.heap.StaysIn h' → Fr h₀ L h' m → News h₀ L h' ((f, listOf us.toArray k) :: (news ++ tl)) → UnitsIn tl us (unitsS ks) → TupTail f tl → s.heap.get? f = none → us.length ≤ ks.length → Q (.ref f) { s with heap := h', toks := tk' }) :
    wpAny (model PySem.Challenge.rw_on0369_01.row.prog w) (ktrTop dp un gd cn cs L a ccd cl outer) (call (.ref 219) [.ref l]) Q E s := by
  w_top off
  refine wpAny_call ?_
  k_dflt (refine' code_def0 ?k1 ?k2 ?k3 ?k5 ?kA ?kF ?kK ?k6 ?k7 ?k8 ?k9 ?kB ?_ ?c2 ?c3 ?c4 ?c5; (case kA => exact rfl); (case kF => exact rfl); (case kK => assumption); (case k1 => k_asm); (case k2 => k_asm); (case k3 => k_asm); (case k5 => k_asm); (case k6 => k_is); (case k7 => k_is); (case k8 => ktr_room); (case k9 => exact BindsTo.of_eq rfl); (case c5 => decide); (case kB => exact locs rfl); (case c2 => exact rfl); (case c3 => exact rfl); (case c4 => exact rfl); k_whole; intro L' h' F' N' B' X' T'; (try dsimp only); (try k_fold); refine toks_any fun tk9 => ?_; refine let_fr F' ?_; clear F'; intro m9 F'; refine let_A ?_; intro A9)
  k_steps
  (with_reducible rename Fr _ _ _ _ => F1)
  (with_reducible rename News _ _ _ _ => N1)
  refine Halt.go ?_
  rename_i f h1 q1 h2
  have hfl : l ≠ f := fun e => by have := (N1 _ (.head _)).2.2; rw [← e, hl] at this; cases this
  have hlL : l ≠ L' := fun e => by have := Heap.lt_size hl; rw [e] at this; exact absurd this (Nat.not_lt.mpr F1.above)
  refine enumJ [Str.ofString "place", Str.ofString "kind"] (fun i n₁ => ∃ us tl k, n₁ = (f, listOf us.toArray k) :: tl ∧ UnitsIn tl us (unitsS (ks.take i)) ∧ TupTail f tl) rfl F1 N1 ⟨_, F1.keep _ _ hl, rfl, _, rfl⟩ (.inl ⟨_, hl⟩) hlL ⟨[], [], 0, rfl, .nil, fun _ h => nomatch h⟩ ?_ ?_
  · rintro I i v T t u news₁ h₁ tk₁ o1 o2 hI hvi hT ⟨us, tl, k, rfl, hus, htl⟩ c1 c2 F2 N2
    obtain ⟨kd, kt, hki, rfl⟩ := strs_get hv hvi
    have hfI : @LT.lt Nat _ f I := Nat.lt_of_lt_of_le (Heap.lt_size (N1 _ (.head _)).1) hI
    have hoff : ∀ p ∈ tl, p.1 ≠ f := fun p hp => (htl p hp).2
    have hok' : ∀ k ∈ unitsS (ks.take i), PyData.strOk k.1 = true := unitsS_ok (P := fun k => PyData.strOk k = true) fun k hk => hok k (List.mem_of_mem_take hk)
    have hul : us.length ≤ 100 := by
      have h1 := unitsS_length (ks.take i)
      have h2 : (ks.take i).length ≤ ks.length := by simp [List.length_take]; omega
      rw [hus.length]; omega
    have hsu := unitsS_succ hki
    rcases unitsIn_snoc hus with ⟨rfl, eu⟩ | ⟨us', u', t', k', t1', a', t2', b', t3', n', rfl, eu, hm', hu'⟩
    · (try k_fold)
      k_steps
      all_goals (refine units_end (by assumption) (by assumption) (by (intro y hy; have hy' := hy; simp only [List.contains_cons, List.contains_nil, Bool.or_false, Bool.or_eq_false_iff, beq_eq_false_iff_ne, ne_eq] at hy'; (first | simp only [hy', if_false, and_self, not_false_eq_true, over_off hy] | simp [hy', over_off hy]))) (by kcf_all) (by k_mem) (by k_mem) (by kcf_all) htl (by k_ne) hus (by simp) ?_)
      all_goals (rw [hsu, eu]; exact step_miss (.inr (.inl rfl)))
    · (try k_fold)
      k_steps
      all_goals (try simp only [List.push_toArray] at *)
      all_goals (first
        | (refine units_end (by assumption) (by assumption) (by (intro y hy; have hy' := hy; simp only [List.contains_cons, List.contains_nil, Bool.or_false, Bool.or_eq_false_iff, beq_eq_false_iff_ne, ne_eq] at hy'; (first | simp only [hy', if_false, and_self, not_false_eq_true, over_off hy] | simp [hy', over_off hy]))) (by kcf_all) (by k_mem) (by k_mem) (by kcf_all) htl (by k_ne) hus rfl ?_; rw [hsu]; refine step_miss ?_; first | exact .inl (by assumption) | exact .inr (.inr ⟨_, _, _, _, eu, by simp_all⟩))
        | (refine units_end (by assumption) (by assumption) (by (intro y hy; have hy' := hy; simp only [List.contains_cons, List.contains_nil, Bool.or_false, Bool.or_eq_false_iff, beq_eq_false_iff_ne, ne_eq] at hy'; (first | simp only [hy', if_false, and_self, not_false_eq_true, over_off hy] | simp [hy', over_off hy]))) (by kcf_all) (by k_mem) (by k_mem) (by kcf_all) htl (by k_ne) hu' rfl ?_; rw [hsu, eu]; exact step_hit (by assumption) (by simp_all)))
  · rintro u news₁ h tk ⟨us, tl, k, rfl, hus, htl⟩ F2 N2
    (try k_fold)
    k_steps
    have e : ks.take vs.length = ks := by rw [strs_length hv]; exact List.take_length ..
    rw [e] at hus
    refine hret f us tl k _ _ F2.keep (by k_asm) (fun p hp => ?_) hus htl (N1 _ (.head _)).2.2 (by rw [hus.length]; exact unitsS_length ks)
    rcases List.mem_cons.mp hp with rfl | hp
    · exact news_of (by k_asm) _ (.head _)
    · rcases List.mem_append.mp hp with hp | hp
      · exact news_grow N F2.keep p hp
      · exact news_of (by k_asm) p (.tail _ hp)
end V4part
section V5part
theorem lines25 : True := by
  k_with_none
  (k_with "k_inst" => exact IsInst.at (by assumption) (by k_asm))
  (k_with "compareOp In str ref" => (k_here; (first | (with_reducible refine' in_22 ?Fq529w ?Xq529w ?_) | (with_reducible refine' in_23 ?Fq529w ?Xq529w ?_) | (with_reducible refine' in_24 ?Fq529w ?Xq529w ?_) | (with_reducible refine' in_25 ?Fq529w ?Xq529w ?_) | (with_reducible refine' in_26 ?Fq529w ?Xq529w ?_)); (case Fq529w => k_asm); (case Xq529w => k_asm); k_whole))
  (k_with "compareOp NotIn str ref" => (k_here; (with_reducible refine' notin_22 ?Fq530w ?Xq530w ?_); (case Fq530w => k_asm); (case Xq530w => k_asm); k_whole))
  (k_with "exec For Tuple Call cons nil" => (k_here; (rename Fr _ _ _ _ => lFzz); (with_unfolding_all refine' For_turns lFzz ?_; k_whole)))
  (k_with "call type:enumerate" => (k_here; (with_reducible show wpAny _ _ (call (Value.type _) [Value.ref _]) (fun xv s₁ => wpAny _ _ (pyIter xv) (fun it s₂ => TurnsAt _ _ _ _ _ _ _ _ _ it s₂) _ s₁) _ _); refine halt_ ?_))
  (k_with "TurnPost" => (dsimp only [TurnPost]))
  (k_with "compareOp In str ref" => (k_here; k_dflt (first | (refine' in_made isHang ?Nq534w ?mq534w ?iq534w ?pq534w ?_; (case Nq534w => k_asm); (case mq534w => k_mem); (case iq534w => repeat constructor); (case pq534w => rfl); k_whole) | (refine' in_made isPara ?Nq534w ?mq534w ?iq534w ?pq534w ?_; (case Nq534w => k_asm); (case mq534w => k_mem); (case iq534w => repeat constructor); (case pq534w => rfl); k_whole) | (refine' in_made isLetterS ?Nq534w ?mq534w ?iq534w ?pq534w ?_; (case Nq534w => k_asm); (case mq534w => k_mem); (case iq534w => repeat constructor); (case pq534w => rfl); k_whole) | (refine' in_made isStayS ?Nq534w ?mq534w ?iq534w ?pq534w ?_; (case Nq534w => k_asm); (case mq534w => k_mem); (case iq534w => repeat constructor); (case pq534w => rfl); k_whole))))
  (k_with "compareOp NotIn str ref" => (k_here; k_dflt (first | (refine' notin_made isTerm ?Nq535w ?mq535w ?iq535w ?pq535w ?_; (case Nq535w => k_asm); (case mq535w => k_mem); (case iq535w => repeat constructor); (case pq535w => rfl); k_whole) | (refine' notin_made isPara ?Nq535w ?mq535w ?iq535w ?pq535w ?_; (case Nq535w => k_asm); (case mq535w => k_mem); (case iq535w => repeat constructor); (case pq535w => rfl); k_whole))))
  (k_with "compareOp NotEq ref ref" => (k_here; k_dflt (refine' ne_unitsK ?Nq536w ?aq536w ?uq536w ?sq536w ?bq536w ?oq536w ?rq536w ?_; (case Nq536w => k_asm); (case aq536w => k_mem); (case uq536w => assumption); (case sq536w => kcf_all); (case bq536w => k_mem); (case oq536w => assumption); (case rq536w => ktr_units); k_whole)))
  (k_with "subscriptTail" => (k_here; (with_reducible show wpAny _ _ (subscriptTail _ _ (Value.ref _) (Value.int (-1) _)) _ _ _); k_dflt (refine' item_lastN ?Nq537w ?aq537w ?_ ?hq537w; (case Nq537w => k_asm); (case aq537w => k_mem); (case hq537w => with_unfolding_all rfl); k_whole)))
  (k_with "subscriptTail" => (k_here; (first | ((with_reducible show wpAny _ _ (subscriptTail _ _ (Value.ref _) (Value.int 0 _)) _ _ _); k_dflt (refine' item3_0 ?Nq538w ?aq538w ?sq538w ?_ ?hq538w; (case Nq538w => k_asm); (case aq538w => with_reducible assumption); (case sq538w => kcf_all); (case hq538w => with_unfolding_all rfl); k_whole)) | ((with_reducible show wpAny _ _ (subscriptTail _ _ (Value.ref _) (Value.int 1 _)) _ _ _); k_dflt (refine' item3_1 ?Nq538w ?aq538w ?sq538w ?_ ?hq538w; (case Nq538w => k_asm); (case aq538w => with_reducible assumption); (case sq538w => kcf_all); (case hq538w => with_unfolding_all rfl); k_whole)) | ((with_reducible show wpAny _ _ (subscriptTail _ _ (Value.ref _) (Value.int 2 _)) _ _ _); k_dflt (refine' item3_2 ?Nq538w ?aq538w ?sq538w ?_ ?hq538w; (case Nq538w => k_asm); (case aq538w => with_reducible assumption); (case sq538w => kcf_all); (case hq538w => with_unfolding_all rfl); k_whole)))))
  (k_with "setItem ref int ref" => (k_here; k_dflt (refine' setLast_K ?Fq539w ?Nq539w ?Uq539w ?_; (case Fq539w => k_asm); (case Nq539w => k_asm); (case Uq539w => k_upd); k_whole); intro _ _ _; (try k_sweep)))
  (k_with "k_all" => assumption)
  (k_with "size_fits" => ((rw [PySem.sizeLine_eq]); (simp only [List.size_toArray, List.length_append, List.length_cons, List.length_nil]); omega))
  (k_with "CompSrcT" => (k_here; k_dflt (refine' LCt.CompSrcT.ledger ?hhq542w ?Fq542w ?Nq542w ?mq542w ?zq542w ?_; (case hhq542w => exact rfl); (case Fq542w => k_asm); (case Nq542w => k_asm); (case mq542w => k_mem); (case zq542w => size_fits)); intro _; refine halt_ ?_))
  (k_with "exec Assign cons ListComp" => (k_here; lct_look; k_dflt (refine LCt.Assign_ListComp_T (F₀ := by k_asm) (by rfl) (by with_unfolding_all rfl) (by with_unfolding_all rfl) (by decide) (by rfl) (by decide) (by rfl) (by rfl) (by rfl) ?_)))
  (k_with "CompEnd" => (refine LCg.CompEnd.intro (by assumption) (by assumption) _ (fun _ h9 => h9) (by first | assumption | (simp only [LCg.Off3, and_true]; assumption)) (by lcg_src) ?_; first | exact ⟨⟨_, rfl⟩, rfl, by first | assumption | exact decide_eq_true (by assumption)⟩ | exact ⟨rfl, by first | assumption | exact decide_eq_false (by assumption)⟩))
  (k_with "call builtin:len" => (k_here; (with_reducible show wpAny _ _ (call (Value.builtin "len") [Value.ref _]) _ _ _); k_dflt (refine' kst_len ?k1q545w ?k2q545w ?k3q545w ?k4q545w ?_; (case k1q545w => k_asm); (case k2q545w => k_mem); (case k3q545w => exact rfl); (case k4q545w => omega); k_whole)))
  (k_with "subscriptTail Name Slice ref ref" => (k_here; (with_reducible show wpAny _ _ (subscriptTail _ (PySem.Expr.Slice _ _ none _) (Value.ref _) (Value.ref _)) _ _ _); k_dflt (refine' slice_K ?Fq546w ?Nq546w ?lq546w ?pq546w ?qq546w ?_ ?sq546w ?tq546w ?zq546w; (case Fq546w => k_asm); (case Nq546w => k_asm); (case lq546w => first | exact News.isList (by k_asm) (by k_mem) | exact listBase (by k_asm) (by assumption)); (case pq546w => kmk_part); (case qq546w => kmk_part); (case sq546w => with_unfolding_all rfl); (case tq546w => kmk_pure); (case zq546w => size_fits)); intro _ _ _ Nzz l1zz; (try k_lt l1zz); (try dsimp only at Nzz); (try k_sweep)))
  (k_with "compareOp In ref ref" => (k_here; k_dflt (refine' in_two ?Nq547w ?xq547w ?vq547w ?tq547w ?aq547w ?vaq547w ?bq547w ?vbq547w ?okq547w ?okaq547w ?okbq547w ?uq547w ?_; (case Nq547w => k_asm); (case xq547w => k_mem); (case vq547w => exact strs_pick (by assumption)); (case tq547w => k_mem); (case aq547w => k_mem); (case vaq547w => exact .cons _ _ .nil); (case bq547w => k_mem); (case vbq547w => exact .cons _ _ .nil); (case okq547w => exact pick_sub (by assumption)); (case okaq547w => decide +kernel); (case okbq547w => decide +kernel); (case uq547w => ktr_units); k_whole)))
  (k_with "exec While" => (k_here; refine halt_ ?_))
  (k_with "compareOp NotEq ref ref" => (k_here; k_dflt (first | (refine' ne_bothK ?Nq549w ?aq549w ?bq549w ?uq549w ?_; (case Nq549w => k_asm); (case aq549w => k_mem); (case bq549w => k_mem); (case uq549w => ktr_units); k_whole) | (refine' ne_snocK ?Nq549w ?aq549w ?vq549w ?bq549w ?oq549w ?uq549w ?_; (case Nq549w => k_asm); (case aq549w => k_mem); (case vq549w => assumption); (case bq549w => k_mem); (case oq549w => assumption); (case uq549w => ktr_units); k_whole))))
  (k_with "compareOp Eq ref ref" => (k_here; k_dflt (first | (refine' eq_bothK ?Nq550w ?aq550w ?bq550w ?uq550w ?_; (case Nq550w => k_asm); (case aq550w => k_mem); (case bq550w => k_mem); (case uq550w => ktr_units); k_whole) | (refine' eq_snocK ?Nq550w ?aq550w ?vq550w ?bq550w ?oq550w ?uq550w ?_; (case Nq550w => k_asm); (case aq550w => k_mem); (case vq550w => assumption); (case bq550w => k_mem); (case oq550w => assumption); (case uq550w => ktr_units); k_whole))))
  (k_with "call builtin:list.pop" => (k_here; (with_reducible show wpAny _ _ (call (Value.builtin _) [Value.ref _]) _ _ _); k_dflt (refine' pop_snoc ?Fq551w ?Nq551w ?Uq551w ?zq551w ?_; (case Fq551w => k_asm); (case Nq551w => k_asm); (case Uq551w => k_upd); (case zq551w => size_fits); k_whole); intro _ _ _; (try k_sweep)))
  (k_with "call ref" => (k_here; refine halt_ ?_))
  (k_with "k_ne" => (apply nn8; (try dsimp only); with_reducible ((fail_if_success show @Ne Nat 987654321 _); (fail_if_success show @Ne Nat _ 987654321); first | assumption | (apply nq1; assumption) | (apply nq2; assumption) | (apply nq3; assumption) | (apply nc1; assumption; (first | exact And.left | exact fun z => z.2.1 | exact fun z => z.2.2.1 | exact fun z => z.2.2.2.1 | exact fun z => z.2.2.2.2.1 | exact fun z => z.2.2.2.2.2.1 | exact fun z => z.2.2.2.2.2.2.1 | exact fun z => z.2.2.2.2.2.2.2.1 | exact fun z => z.2.2.2.2.2.2.2.2.1 | exact fun z => z.2.2.2.2.2.2.2.2.2.1 | exact fun z => z.2.2.2.2.2.2.2.2.2.2.1 | exact fun z => z.2.2.2.2.2.2.2.2.2.2.2.1 | exact fun z => z.2.2.2.2.2.2.2.2.2.2.2.2.1 | exact fun z => z.2.2.2.2.2.2.2.2.2.2.2.2.2.1 | exact And.right | exact fun z => z.2.2 | exact fun z => z.2.2.2 | exact fun z => z.2.2.2.2 | exact fun z => z.2.2.2.2.2 | exact fun z => z.2.2.2.2.2.2 | exact fun z => z.2.2.2.2.2.2.2 | exact fun z => z.2.2.2.2.2.2.2.2 | exact fun z => z.2.2.2.2.2.2.2.2.2 | exact fun z => z.2.2.2.2.2.2.2.2.2.2 | exact fun z => z.2.2.2.2.2.2.2.2.2.2.2 | exact fun z => z.2.2.2.2.2.2.2.2.2.2.2.2 | exact fun z => z.2.2.2.2.2.2.2.2.2.2.2.2.2)) | (apply nc2; assumption; (first | exact And.left | exact fun z => z.2.1 | exact fun z => z.2.2.1 | exact fun z => z.2.2.2.1 | exact fun z => z.2.2.2.2.1 | exact fun z => z.2.2.2.2.2.1 | exact fun z => z.2.2.2.2.2.2.1 | exact fun z => z.2.2.2.2.2.2.2.1 | exact fun z => z.2.2.2.2.2.2.2.2.1 | exact fun z => z.2.2.2.2.2.2.2.2.2.1 | exact fun z => z.2.2.2.2.2.2.2.2.2.2.1 | exact fun z => z.2.2.2.2.2.2.2.2.2.2.2.1 | exact fun z => z.2.2.2.2.2.2.2.2.2.2.2.2.1 | exact fun z => z.2.2.2.2.2.2.2.2.2.2.2.2.2.1 | exact And.right | exact fun z => z.2.2 | exact fun z => z.2.2.2 | exact fun z => z.2.2.2.2 | exact fun z => z.2.2.2.2.2 | exact fun z => z.2.2.2.2.2.2 | exact fun z => z.2.2.2.2.2.2.2 | exact fun z => z.2.2.2.2.2.2.2.2 | exact fun z => z.2.2.2.2.2.2.2.2.2 | exact fun z => z.2.2.2.2.2.2.2.2.2.2 | exact fun z => z.2.2.2.2.2.2.2.2.2.2.2 | exact fun z => z.2.2.2.2.2.2.2.2.2.2.2.2 | exact fun z => z.2.2.2.2.2.2.2.2.2.2.2.2.2)) | (apply nc3; assumption; (first | exact And.left | exact fun z => z.2.1 | exact fun z => z.2.2.1 | exact fun z => z.2.2.2.1 | exact fun z => z.2.2.2.2.1 | exact fun z => z.2.2.2.2.2.1 | exact fun z => z.2.2.2.2.2.2.1 | exact fun z => z.2.2.2.2.2.2.2.1 | exact fun z => z.2.2.2.2.2.2.2.2.1 | exact fun z => z.2.2.2.2.2.2.2.2.2.1 | exact fun z => z.2.2.2.2.2.2.2.2.2.2.1 | exact fun z => z.2.2.2.2.2.2.2.2.2.2.2.1 | exact fun z => z.2.2.2.2.2.2.2.2.2.2.2.2.1 | exact fun z => z.2.2.2.2.2.2.2.2.2.2.2.2.2.1 | exact And.right | exact fun z => z.2.2 | exact fun z => z.2.2.2 | exact fun z => z.2.2.2.2 | exact fun z => z.2.2.2.2.2 | exact fun z => z.2.2.2.2.2.2 | exact fun z => z.2.2.2.2.2.2.2 | exact fun z => z.2.2.2.2.2.2.2.2 | exact fun z => z.2.2.2.2.2.2.2.2.2 | exact fun z => z.2.2.2.2.2.2.2.2.2.2 | exact fun z => z.2.2.2.2.2.2.2.2.2.2.2 | exact fun z => z.2.2.2.2.2.2.2.2.2.2.2.2 | exact fun z => z.2.2.2.2.2.2.2.2.2.2.2.2.2)) | (apply nc4; assumption; (first | exact And.left | exact fun z => z.2.1 | exact fun z => z.2.2.1 | exact fun z => z.2.2.2.1 | exact fun z => z.2.2.2.2.1 | exact fun z => z.2.2.2.2.2.1 | exact fun z => z.2.2.2.2.2.2.1 | exact fun z => z.2.2.2.2.2.2.2.1 | exact fun z => z.2.2.2.2.2.2.2.2.1 | exact fun z => z.2.2.2.2.2.2.2.2.2.1 | exact fun z => z.2.2.2.2.2.2.2.2.2.2.1 | exact fun z => z.2.2.2.2.2.2.2.2.2.2.2.1 | exact fun z => z.2.2.2.2.2.2.2.2.2.2.2.2.1 | exact fun z => z.2.2.2.2.2.2.2.2.2.2.2.2.2.1 | exact And.right | exact fun z => z.2.2 | exact fun z => z.2.2.2 | exact fun z => z.2.2.2.2 | exact fun z => z.2.2.2.2.2 | exact fun z => z.2.2.2.2.2.2 | exact fun z => z.2.2.2.2.2.2.2 | exact fun z => z.2.2.2.2.2.2.2.2 | exact fun z => z.2.2.2.2.2.2.2.2.2 | exact fun z => z.2.2.2.2.2.2.2.2.2.2 | exact fun z => z.2.2.2.2.2.2.2.2.2.2.2 | exact fun z => z.2.2.2.2.2.2.2.2.2.2.2.2 | exact fun z => z.2.2.2.2.2.2.2.2.2.2.2.2.2)))))
  (k_with "k_upd" => first | (apply uh8; k_all) | (apply ut8; k_ne; k_upd))
  (k_with "k_updF" => first | (apply fh8; k_all) | (apply ft8; k_ne; k_updF))
  (k_with "k_all" => first | exact List.forall_mem_nil _ | (apply an8; k_ne; k_all))
  (k_with "kcf_all" => first | exact fun _ hp => hp | (apply sb8; (focus kcf_m); kcf_all))
  (k_with "ktr_units" => first | exact uu2 hu rfl | exact uu1 hu rfl | exact uu3 hu rfl | exact uu4 hu rfl)
  (k_with "ktr_room" => first | exact uu2 hdp rfl | exact uu1 hdp rfl | exact uu3 hdp rfl | exact uu4 hdp rfl)
  (k_with "subscriptTail Name UnaryOp ref int" => k_extra "subscriptTail")
  (k_with "execs cons" => ((with_reducible show wpAny _ _ (execs [_, _, _, _, _, _, _, _, _, _, _] _) _ _ _); refine halt_ ?_))
  (k_with "compareOp Eq ref ref" => (k_here; k_dflt (refine' eq_pickK ?Nq562w ?aq562w ?vq562w ?bq562w ?wq562w ?oq562w ?pq562w ?uq562w ?_; (case Nq562w => k_asm); (case aq562w => k_mem); (case vq562w => exact strs_pick (by assumption)); (case bq562w => k_mem); (case wq562w => exact .cons _ _ .nil); (case oq562w => exact pick_sub (by assumption)); (case pq562w => decide +kernel); (case uq562w => ktr_units); k_whole)))
  exact trivial
set_option maxRecDepth 100000 in
set_option maxHeartbeats 3000000 in
theorem C_isbreak {w : World} {mean : ExcName → Option Value} {mg mb : Str → Option Value} {dp un : Nat} {gd : Option (List Code)} {cn : Str} {cs : Scope} {a : Addr} {ccd : Value} {cl : List (Str × Addr)} {outer : List Env} {A₀ : Around} {base h₀ : Heap} {L : Addr} {m : Str → Option Value} {s : Shared} {Q E : Value → Shared → Prop} (B : Below A₀ base outer h₀) (F : Fr h₀ L s.heap m) (X : (hd.heap_1 w.params).In h₀) (T : (Top view9 (looseW view9 []) mean mg mb h₀)) (hk : cs.kind = .function) {l : Addr} {vs : List Value} {ks : List Str} {nn : Nat} {news : List (Addr × Obj)} {pl : Int} {pt : Tok}
    (N : News h₀ L s.heap news) (hl : s.heap.get? l = some (listOf vs.toArray nn)) (hv : StrsAre vs ks) (hlen : ks.length < 100) (hok : ∀ k ∈ ks, PyData.strOk k = true)
    (hp0 : 0 < pl) (hp1 : pl < ks.length)
    (hdp : dp + 8 < recursionLimit) (hu : un + 500 < cLine)
    (hret : ∀ h' tk', s.heap.StaysIn h' → Fr h₀ L h' m → News h₀ L h' news → Q (.bool (isBreakS ks pl)) { s with heap := h', toks := tk' }) :
    wpAny (model PySem.Challenge.rw_on0369_01.row.prog w) (ktrTop dp un gd cn cs L a ccd cl outer) (call (.ref 224) [.ref l, .int pl pt]) Q E s := by
  w_top off
  refine wpAny_call ?_
  k_dflt (refine' code_def0C ?k1 ?k2 ?k3 ?k5 ?kA ?kF ?kK ?k6 ?k7 ?k8 ?k9 ?kB ?kD ?_ ?c2 ?c3 ?c4; (case kA => exact rfl); (case kF => exact rfl); (case kK => assumption); (case k1 => k_asm); (case k2 => k_asm); (case k3 => k_asm); (case k5 => k_asm); (case k6 => k_is); (case k7 => k_is); (case k8 => ktr_room); (case k9 => exact BindsTo.of_eq rfl); (case kB => exact rfl); (case kD => decide +kernel); (case c2 => exact rfl); (case c3 => exact rfl); (case c4 => exact rfl); k_whole; intro L' h' tk' cells' F' N' Y' B' X' T'; k_cells Y'; (try dsimp only); (try k_fold); refine toks_any fun tk9 => ?_; refine let_fr F' ?_; clear F'; intro m9 F'; refine let_A ?_; intro A9)
  (k_steps; repeat (any_goals ((first | ((with_reducible show Halt (wpAny _ _ (call (Value.ref 219) _) _ _ _)); refine Halt.go ?_; k_dflt (refine' C_units ?B9z ?F9z ?X9z ?T9z ?hk9z ?N9z ?hl9z ?hv9z ?hlen9z ?hok9z ?hdp9z ?hu9z ?_; (case B9z => k_asm); (case F9z => k_asm); (case X9z => k_asm); (case T9z => k_asm); (case hk9z => first | exact rfl | assumption); (case N9z => k_asm); (case hl9z => first | exact Fr.keep (by k_asm) _ _ (by assumption) | exact News.get (by k_asm) (by k_mem)); (case hv9z => assumption); (case hlen9z => omega); (case hok9z => assumption); (case hdp9z => ktr_room); (case hu9z => ktr_units); k_whole); intro f'q us'q tl'q k'q h'q tk'q st'q F'q N'q hU'q hT'q hfr'q hul'q; (try dsimp only [List.cons_append, List.nil_append] at N'q); (try k_sweep))); k_steps)))
  (with_reducible rename UnitsIn _ _ _ => hU)
  (with_reducible rename TupTail _ _ => hT)
  have hUL := hU.length
  refine Halt.go ?_
  refine restT_units hU (fun u => decide (u.2.2 ≤ pl)) ?_ ?_
  · intro t k t1 a t2 b t3 n I oI C oC D m₂ ys h tk E' hm hyl hC hx F N off ne
    (try k_fold)
    k_steps
  · intro ys1 hys1
    k_steps
    refine Halt.go ?_
    refine restT_units hU (fun u => decide (pl ≤ u.2.1)) ?_ ?_
    · intro t k t1 a t2 b t3 n I oI C oC D m₂ ys h tk E' hm hyl hC hx F N off ne
      (try k_fold)
      k_steps
    · intro ys2 hys2
      have hys1' : StrsAre ys1 (aheadS ks pl) := hys1
      have hys2' : StrsAre ys2 (behindS ks pl) := hys2
      have hyl1 := strs_length hys1'
      have hyl2 := strs_length hys2'
      have hb1 : ys1.length ≤ 100 := by rw [hyl1]; simp only [aheadS, List.length_map]; have := List.length_filter_le (fun u => decide (u.2.2 ≤ pl)) (unitsS ks); have := unitsS_length ks; omega
      have hb2 : ys2.length ≤ 100 := by rw [hyl2]; simp only [behindS, List.length_map]; have := List.length_filter_le (fun u => decide (pl ≤ u.2.1)) (unitsS ks); have := unitsS_length ks; omega
      clear hys1 hys2
      (refine let_P ?_; intro P9)
      rcases Nat.lt_or_ge ((aheadS ks pl).length + (behindS ks pl).length) (unitsS ks).length with hlt | hge
      · have hB : isBreakS ks pl = false := by unfold isBreakS; rw [if_pos hlt]
        (first | k_unfold | (show P9; k_unfold))
        k_steps
        all_goals exact end_b (by assumption) F N hret hB.symm
      · obtain ⟨⟨A, near, eA⟩, far, Bh, eB⟩ := ends_there hp0 hp1 hge
        rw [eA] at hys1'
        rw [eB] at hys2'
        have hokA : ∀ k ∈ A ++ [near], PyData.strOk k = true := by
          rw [← eA]; intro k hk
          obtain ⟨u, hu9, rfl⟩ := List.mem_map.mp hk
          exact unitsS_ok (P := fun k => PyData.strOk k = true) hok u (List.mem_filter.mp hu9).1
        have hokB : ∀ k ∈ far :: Bh, PyData.strOk k = true := by
          rw [← eB]; intro k hk
          obtain ⟨u, hu9, rfl⟩ := List.mem_map.mp hk
          exact unitsS_ok (P := fun k => PyData.strOk k = true) hok u (List.mem_filter.mp hu9).1
        obtain ⟨ys1', nt, rfl, hysA⟩ := strs_unsnoc hys1'
        obtain ⟨ft, ys2', rfl, hysB⟩ := strs_uncons hys2'
        have hB := isBreakS_eq hge eA eB
        (first | k_unfold | (show P9; k_unfold))
        k_steps
        (with_reducible rename Fr _ _ _ _ => F3)
        (with_reducible rename News _ _ _ _ => N3)
        refine Halt.go ?_
        refine cut1S F3 N3 (¬ (near = Str.ofString "CR" ∧ far = Str.ofString "LF")) ?_ ?_
        · intro h4 tk4 hval1 F4 N4
          refine cut2S F4 N4 (isBreakS ks pl = tailS (A ++ [near]) (far :: Bh)) ?_ ?_
          · intro h5 tk5 hval F5 N5
            (try k_fold)
            k_steps
            (with_reducible rename Fr _ _ _ _ => F6)
            (with_reducible rename News _ _ _ _ => N6)
            refine Halt.go ?_
            have hA100 : (A ++ [near]).length ≤ 100 := by rw [← eA, ← hyl1]; exact hb1
            refine while_pop (Str.ofString "Sp") F6 N6 (strs_snoc hysA near nt) hA100 hokA ?_ ?_ ?_ ?_
            · intro h6 tk6 c6 F7 N7
              (try k_fold)
              k_steps
              all_goals first | exact SameAt.intro (by assumption) (by assumption) (by kcf_all) | rfl
            · intro h6 tk6 c6 rv' rs' y t hrv hrl hrok F7 N7
              (try k_fold)
              k_steps
              all_goals first | exact SameAt.intro (by assumption) (by assumption) (by kcf_all) | exact Eq.symm (by assumption)
            · intro h6 tk6 c6 rv' y t hrl F7 N7
              (try k_fold)
              k_steps
              all_goals exact PopEnd.intro (by assumption) (by assumption) (by k_mem) (by kcf_all)
            · intro h6 tk6 c6 rv' hrv F7 N7
              have hs1 := stripS_length (Str.ofString "Sp") (A ++ [near])
              have hrl := strs_length hrv
              have hrv100 : rv'.length ≤ 100 := by omega
              k_steps
              (with_reducible rename Fr _ _ _ _ => F8)
              (with_reducible rename News _ _ _ _ => N8)
              refine Halt.go ?_
              refine while_pop (Str.ofString "Close") F8 N8 hrv (by omega) (stripS_all hokA) ?_ ?_ ?_ ?_
              · intro h9 tk9 c9 F9 N9
                (try k_fold)
                k_steps
                all_goals first | exact SameAt.intro (by assumption) (by assumption) (by kcf_all) | rfl
              · intro h9 tk9 c9 rv9 rs' y t hrv hrl hrok F9 N9
                (try k_fold)
                k_steps
                all_goals first | exact SameAt.intro (by assumption) (by assumption) (by kcf_all) | exact Eq.symm (by assumption)
              · intro h9 tk9 c9 rv9 y t hrl F9 N9
                (try k_fold)
                k_steps
                all_goals exact PopEnd.intro (by assumption) (by assumption) (by k_mem) (by kcf_all)
              · intro h9 tk9 c9 rv9 hrv9 F9 N9
                (refine let_P ?_; intro P9)
                rcases List.eq_nil_or_concat (stripS (Str.ofString "Close") (stripS (Str.ofString "Sp") (A ++ [near]))) with er | ⟨R9, z9, er⟩
                · rw [er] at hrv9
                  cases hrv9
                  (first | k_unfold | (show P9; k_unfold))
                  k_steps
                  all_goals exact end_b (by assumption) F N hret (by rw [hval, tailS_nil er])
                · rw [List.concat_eq_append] at er
                  rw [er] at hrv9
                  have hokR : ∀ k ∈ R9 ++ [z9], PyData.strOk k = true := by rw [← er]; exact stripS_all (stripS_all hokA)
                  obtain ⟨rv2, t9, rfl, hrv2⟩ := strs_unsnoc hrv9
                  (first | k_unfold | (show P9; k_unfold))
                  k_steps
                  rotate_left
                  · refine end_b (by assumption) F N hret ?_
                    rw [hval, tailS_snoc er]
                    (clear hret B F X T N B' X' T'); (try clear N'); (try clear hB); (try clear hrest); (try clear qk ek); all_goals ((repeat (with_reducible rename News _ _ _ _ => z9; clear z9)); (repeat (with_reducible rename Fr _ _ _ _ => z9; clear z9)); (repeat (with_reducible rename Top _ _ _ _ _ _ => z9; clear z9)); (repeat (with_reducible rename Frag.In _ _ => z9; clear z9))); (simp_all)
                  · refine Halt.go ?_
                    refine restT_strs hys2' isLetterS ?_ ?_
                    · intro k t I oI C oC D m₂ ys h tk E' hyl hC hx F N off ne
                      (try k_fold)
                      k_steps
                      · exact LCg.CompEnd.intro (by assumption) (by assumption) _ (by kcf_all) off (by lcg_src) ⟨⟨_, rfl⟩, rfl, by assumption⟩
                      · exact LCg.CompEnd.intro (by assumption) (by assumption) _ (by kcf_all) off (by lcg_src) ⟨rfl, by assumption⟩
                    · intro ys3 hys3
                      have hyl3 := strs_length hys3
                      have hyf := List.length_filter_le isLetterS (far :: Bh)
                      have hyl4 := strs_length hys2'
                      have hb3 : ys3.length ≤ 100 := by omega
                      have hok3 : ∀ k ∈ List.filter isLetterS (far :: Bh), PyData.strOk k = true := fun k hk => hokB k (List.mem_filter.mp hk).1
                      have hl9 := strs_length (strs_snoc hysA near nt)
                      k_steps
                      all_goals (refine end_b (by assumption) F N hret ?_; rw [hval, tailS_snoc er])
                      all_goals (clear hB eA eB hys1' hys2' hysA hysB hrv2 hv hokR hokA hokB hok3 hys3 hrv)
                      all_goals (clear hret B F X T N B' X' T')
                      all_goals ((repeat (with_reducible rename News _ _ _ _ => z9; clear z9)); (repeat (with_reducible rename Fr _ _ _ _ => z9; clear z9)); (repeat (with_reducible rename Top _ _ _ _ _ _ => z9; clear z9)); (repeat (with_reducible rename Frag.In _ _ => z9; clear z9)))
                      all_goals (try clear qk ek)
                      all_goals simp_all
          · intro rest' hrest
            k_steps
            all_goals first
              | (refine end_b (by assumption) F N hret ?_; rw [hB, if_neg (by simpa using hval1)]; clear hval1; (clear hret B F X T N B' X' T'); (try clear N'); (try clear hB); (try clear hrest); (try clear qk ek); all_goals ((repeat (with_reducible rename News _ _ _ _ => z9; clear z9)); (repeat (with_reducible rename Fr _ _ _ _ => z9; clear z9)); (repeat (with_reducible rename Top _ _ _ _ _ _ => z9; clear z9)); (repeat (with_reducible rename Frag.In _ _ => z9; clear z9))); (simp_all); done)
              | (refine CutTo.go hrest (by assumption) (by assumption) (by kcf_all) ?_; rw [hB, if_neg (by simpa using hval1)]; clear hval1; (clear hret B F X T N B' X' T'); (try clear N'); (try clear hB); (try clear hrest); (try clear qk ek); all_goals ((repeat (with_reducible rename News _ _ _ _ => z9; clear z9)); (repeat (with_reducible rename Fr _ _ _ _ => z9; clear z9)); (repeat (with_reducible rename Top _ _ _ _ _ _ => z9; clear z9)); (repeat (with_reducible rename Frag.In _ _ => z9; clear z9))); (simp_all); done)
        · intro rest' hrest
          k_steps
          all_goals first
            | (refine end_b (by assumption) F N hret ?_; rw [hB]; (clear hret B F X T N B' X' T'); (try clear N'); (try clear hB); (try clear hrest); (try clear qk ek); all_goals ((repeat (with_reducible rename News _ _ _ _ => z9; clear z9)); (repeat (with_reducible rename Fr _ _ _ _ => z9; clear z9)); (repeat (with_reducible rename Top _ _ _ _ _ _ => z9; clear z9)); (repeat (with_reducible rename Frag.In _ _ => z9; clear z9))); (simp_all); done)
            | (refine CutTo.go hrest (by assumption) (by assumption) (by kcf_all) ?_; (clear hret B F X T N B' X' T'); (try clear N'); (try clear hB); (try clear hrest); (try clear qk ek); all_goals ((repeat (with_reducible rename News _ _ _ _ => z9; clear z9)); (repeat (with_reducible rename Fr _ _ _ _ => z9; clear z9)); (repeat (with_reducible rename Top _ _ _ _ _ _ => z9; clear z9)); (repeat (with_reducible rename Frag.In _ _ => z9; clear z9))); (simp_all); done)
end V5part
section V9part
theorem lines26 : True := by
  k_with_none
  (k_with "k_inst" => exact IsInst.at (by assumption) (by k_asm))
  (k_with "compareOp In str ref" => (k_here; (first | (with_reducible refine' in_22 ?Fq564w ?Xq564w ?_) | (with_reducible refine' in_23 ?Fq564w ?Xq564w ?_) | (with_reducible refine' in_24 ?Fq564w ?Xq564w ?_) | (with_reducible refine' in_25 ?Fq564w ?Xq564w ?_) | (with_reducible refine' in_26 ?Fq564w ?Xq564w ?_)); (case Fq564w => k_asm); (case Xq564w => k_asm); k_whole))
  (k_with "compareOp NotIn str ref" => (k_here; (with_reducible refine' notin_22 ?Fq565w ?Xq565w ?_); (case Fq565w => k_asm); (case Xq565w => k_asm); k_whole))
  (k_with "exec For Tuple Call cons nil" => (k_here; (rename Fr _ _ _ _ => lFzz); (with_unfolding_all refine' For_turns lFzz ?_; k_whole)))
  (k_with "call type:enumerate" => (k_here; (with_reducible show wpAny _ _ (call (Value.type _) [Value.ref _]) (fun xv s₁ => wpAny _ _ (pyIter xv) (fun it s₂ => TurnsAt _ _ _ _ _ _ _ _ _ it s₂) _ s₁) _ _); refine halt_ ?_))
  (k_with "TurnPost" => (dsimp only [TurnPost]))
  (k_with "compareOp In str ref" => (k_here; k_dflt (first | (refine' in_made isHang ?Nq569w ?mq569w ?iq569w ?pq569w ?_; (case Nq569w => k_asm); (case mq569w => k_mem); (case iq569w => repeat constructor); (case pq569w => rfl); k_whole) | (refine' in_made isPara ?Nq569w ?mq569w ?iq569w ?pq569w ?_; (case Nq569w => k_asm); (case mq569w => k_mem); (case iq569w => repeat constructor); (case pq569w => rfl); k_whole) | (refine' in_made isLetterS ?Nq569w ?mq569w ?iq569w ?pq569w ?_; (case Nq569w => k_asm); (case mq569w => k_mem); (case iq569w => repeat constructor); (case pq569w => rfl); k_whole) | (refine' in_made isStayS ?Nq569w ?mq569w ?iq569w ?pq569w ?_; (case Nq569w => k_asm); (case mq569w => k_mem); (case iq569w => repeat constructor); (case pq569w => rfl); k_whole))))
  (k_with "compareOp NotIn str ref" => (k_here; k_dflt (first | (refine' notin_made isTerm ?Nq570w ?mq570w ?iq570w ?pq570w ?_; (case Nq570w => k_asm); (case mq570w => k_mem); (case iq570w => repeat constructor); (case pq570w => rfl); k_whole) | (refine' notin_made isPara ?Nq570w ?mq570w ?iq570w ?pq570w ?_; (case Nq570w => k_asm); (case mq570w => k_mem); (case iq570w => repeat constructor); (case pq570w => rfl); k_whole))))
  (k_with "compareOp NotEq ref ref" => (k_here; k_dflt (refine' ne_unitsK ?Nq571w ?aq571w ?uq571w ?sq571w ?bq571w ?oq571w ?rq571w ?_; (case Nq571w => k_asm); (case aq571w => k_mem); (case uq571w => assumption); (case sq571w => kcf_all); (case bq571w => k_mem); (case oq571w => assumption); (case rq571w => ktr_units); k_whole)))
  (k_with "subscriptTail" => (k_here; (with_reducible show wpAny _ _ (subscriptTail _ _ (Value.ref _) (Value.int (-1) _)) _ _ _); k_dflt (refine' item_lastN ?Nq572w ?aq572w ?_ ?hq572w; (case Nq572w => k_asm); (case aq572w => k_mem); (case hq572w => with_unfolding_all rfl); k_whole)))
  (k_with "subscriptTail" => (k_here; (first | ((with_reducible show wpAny _ _ (subscriptTail _ _ (Value.ref _) (Value.int 0 _)) _ _ _); k_dflt (refine' item3_0 ?Nq573w ?aq573w ?sq573w ?_ ?hq573w; (case Nq573w => k_asm); (case aq573w => with_reducible assumption); (case sq573w => kcf_all); (case hq573w => with_unfolding_all rfl); k_whole)) | ((with_reducible show wpAny _ _ (subscriptTail _ _ (Value.ref _) (Value.int 1 _)) _ _ _); k_dflt (refine' item3_1 ?Nq573w ?aq573w ?sq573w ?_ ?hq573w; (case Nq573w => k_asm); (case aq573w => with_reducible assumption); (case sq573w => kcf_all); (case hq573w => with_unfolding_all rfl); k_whole)) | ((with_reducible show wpAny _ _ (subscriptTail _ _ (Value.ref _) (Value.int 2 _)) _ _ _); k_dflt (refine' item3_2 ?Nq573w ?aq573w ?sq573w ?_ ?hq573w; (case Nq573w => k_asm); (case aq573w => with_reducible assumption); (case sq573w => kcf_all); (case hq573w => with_unfolding_all rfl); k_whole)))))
  (k_with "setItem ref int ref" => (k_here; k_dflt (refine' setLast_K ?Fq574w ?Nq574w ?Uq574w ?_; (case Fq574w => k_asm); (case Nq574w => k_asm); (case Uq574w => k_upd); k_whole); intro _ _ _; (try k_sweep)))
  (k_with "k_all" => assumption)
  (k_with "size_fits" => ((rw [PySem.sizeLine_eq]); (simp only [List.size_toArray, List.length_append, List.length_cons, List.length_nil]); omega))
  (k_with "CompSrcT" => (k_here; k_dflt (refine' LCt.CompSrcT.ledger ?hhq577w ?Fq577w ?Nq577w ?mq577w ?zq577w ?_; (case hhq577w => exact rfl); (case Fq577w => k_asm); (case Nq577w => k_asm); (case mq577w => k_mem); (case zq577w => size_fits)); intro _; refine halt_ ?_))
  (k_with "exec Assign cons ListComp" => (k_here; lct_look; k_dflt (refine LCt.Assign_ListComp_T (F₀ := by k_asm) (by rfl) (by with_unfolding_all rfl) (by with_unfolding_all rfl) (by decide) (by rfl) (by decide) (by rfl) (by rfl) (by rfl) ?_)))
  (k_with "CompEnd" => (refine LCg.CompEnd.intro (by assumption) (by assumption) _ (fun _ h9 => h9) (by first | assumption | (simp only [LCg.Off3, and_true]; assumption)) (by lcg_src) ?_; first | exact ⟨⟨_, rfl⟩, rfl, by first | assumption | exact decide_eq_true (by assumption)⟩ | exact ⟨rfl, by first | assumption | exact decide_eq_false (by assumption)⟩))
  (k_with "call builtin:len" => (k_here; (with_reducible show wpAny _ _ (call (Value.builtin "len") [Value.ref _]) _ _ _); k_dflt (refine' kst_len ?k1q580w ?k2q580w ?k3q580w ?k4q580w ?_; (case k1q580w => k_asm); (case k2q580w => k_mem); (case k3q580w => exact rfl); (case k4q580w => omega); k_whole)))
  (k_with "subscriptTail Name Slice ref ref" => (k_here; (with_reducible show wpAny _ _ (subscriptTail _ (PySem.Expr.Slice _ _ none _) (Value.ref _) (Value.ref _)) _ _ _); k_dflt (refine' slice_K ?Fq581w ?Nq581w ?lq581w ?pq581w ?qq581w ?_ ?sq581w ?tq581w ?zq581w; (case Fq581w => k_asm); (case Nq581w => k_asm); (case lq581w => first | exact News.isList (by k_asm) (by k_mem) | exact listBase (by k_asm) (by assumption)); (case pq581w => kmk_part); (case qq581w => kmk_part); (case sq581w => with_unfolding_all rfl); (case tq581w => kmk_pure); (case zq581w => size_fits)); intro _ _ _ Nzz l1zz; (try k_lt l1zz); (try dsimp only at Nzz); (try k_sweep)))
  (k_with "compareOp In ref ref" => (k_here; k_dflt (refine' in_two ?Nq582w ?xq582w ?vq582w ?tq582w ?aq582w ?vaq582w ?bq582w ?vbq582w ?okq582w ?okaq582w ?okbq582w ?uq582w ?_; (case Nq582w => k_asm); (case xq582w => k_mem); (case vq582w => exact strs_pick (by assumption)); (case tq582w => k_mem); (case aq582w => k_mem); (case vaq582w => exact .cons _ _ .nil); (case bq582w => k_mem); (case vbq582w => exact .cons _ _ .nil); (case okq582w => exact pick_sub (by assumption)); (case okaq582w => decide +kernel); (case okbq582w => decide +kernel); (case uq582w => ktr_units); k_whole)))
  (k_with "exec While" => (k_here; refine halt_ ?_))
  (k_with "compareOp NotEq ref ref" => (k_here; k_dflt (first | (refine' ne_bothK ?Nq584w ?aq584w ?bq584w ?uq584w ?_; (case Nq584w => k_asm); (case aq584w => k_mem); (case bq584w => k_mem); (case uq584w => ktr_units); k_whole) | (refine' ne_snocK ?Nq584w ?aq584w ?vq584w ?bq584w ?oq584w ?uq584w ?_; (case Nq584w => k_asm); (case aq584w => k_mem); (case vq584w => assumption); (case bq584w => k_mem); (case oq584w => assumption); (case uq584w => ktr_units); k_whole))))
  (k_with "compareOp Eq ref ref" => (k_here; k_dflt (first | (refine' eq_bothK ?Nq585w ?aq585w ?bq585w ?uq585w ?_; (case Nq585w => k_asm); (case aq585w => k_mem); (case bq585w => k_mem); (case uq585w => ktr_units); k_whole) | (refine' eq_snocK ?Nq585w ?aq585w ?vq585w ?bq585w ?oq585w ?uq585w ?_; (case Nq585w => k_asm); (case aq585w => k_mem); (case vq585w => assumption); (case bq585w => k_mem); (case oq585w => assumption); (case uq585w => ktr_units); k_whole))))
  (k_with "call builtin:list.pop" => (k_here; (with_reducible show wpAny _ _ (call (Value.builtin _) [Value.ref _]) _ _ _); k_dflt (refine' pop_snoc ?Fq586w ?Nq586w ?Uq586w ?zq586w ?_; (case Fq586w => k_asm); (case Nq586w => k_asm); (case Uq586w => k_upd); (case zq586w => size_fits); k_whole); intro _ _ _; (try k_sweep)))
  (k_with "call ref" => (k_here; refine halt_ ?_))
  (k_with "k_ne" => (apply nn8; (try dsimp only); with_reducible ((fail_if_success show @Ne Nat 987654321 _); (fail_if_success show @Ne Nat _ 987654321); first | assumption | (apply nq1; assumption) | (apply nq2; assumption) | (apply nq3; assumption) | (apply nc1; assumption; (first | exact And.left | exact fun z => z.2.1 | exact fun z => z.2.2.1 | exact fun z => z.2.2.2.1 | exact fun z => z.2.2.2.2.1 | exact fun z => z.2.2.2.2.2.1 | exact fun z => z.2.2.2.2.2.2.1 | exact fun z => z.2.2.2.2.2.2.2.1 | exact fun z => z.2.2.2.2.2.2.2.2.1 | exact fun z => z.2.2.2.2.2.2.2.2.2.1 | exact fun z => z.2.2.2.2.2.2.2.2.2.2.1 | exact fun z => z.2.2.2.2.2.2.2.2.2.2.2.1 | exact fun z => z.2.2.2.2.2.2.2.2.2.2.2.2.1 | exact fun z => z.2.2.2.2.2.2.2.2.2.2.2.2.2.1 | exact And.right | exact fun z => z.2.2 | exact fun z => z.2.2.2 | exact fun z => z.2.2.2.2 | exact fun z => z.2.2.2.2.2 | exact fun z => z.2.2.2.2.2.2 | exact fun z => z.2.2.2.2.2.2.2 | exact fun z => z.2.2.2.2.2.2.2.2 | exact fun z => z.2.2.2.2.2.2.2.2.2 | exact fun z => z.2.2.2.2.2.2.2.2.2.2 | exact fun z => z.2.2.2.2.2.2.2.2.2.2.2 | exact fun z => z.2.2.2.2.2.2.2.2.2.2.2.2 | exact fun z => z.2.2.2.2.2.2.2.2.2.2.2.2.2)) | (apply nc2; assumption; (first | exact And.left | exact fun z => z.2.1 | exact fun z => z.2.2.1 | exact fun z => z.2.2.2.1 | exact fun z => z.2.2.2.2.1 | exact fun z => z.2.2.2.2.2.1 | exact fun z => z.2.2.2.2.2.2.1 | exact fun z => z.2.2.2.2.2.2.2.1 | exact fun z => z.2.2.2.2.2.2.2.2.1 | exact fun z => z.2.2.2.2.2.2.2.2.2.1 | exact fun z => z.2.2.2.2.2.2.2.2.2.2.1 | exact fun z => z.2.2.2.2.2.2.2.2.2.2.2.1 | exact fun z => z.2.2.2.2.2.2.2.2.2.2.2.2.1 | exact fun z => z.2.2.2.2.2.2.2.2.2.2.2.2.2.1 | exact And.right | exact fun z => z.2.2 | exact fun z => z.2.2.2 | exact fun z => z.2.2.2.2 | exact fun z => z.2.2.2.2.2 | exact fun z => z.2.2.2.2.2.2 | exact fun z => z.2.2.2.2.2.2.2 | exact fun z => z.2.2.2.2.2.2.2.2 | exact fun z => z.2.2.2.2.2.2.2.2.2 | exact fun z => z.2.2.2.2.2.2.2.2.2.2 | exact fun z => z.2.2.2.2.2.2.2.2.2.2.2 | exact fun z => z.2.2.2.2.2.2.2.2.2.2.2.2 | exact fun z => z.2.2.2.2.2.2.2.2.2.2.2.2.2)) | (apply nc3; assumption; (first | exact And.left | exact fun z => z.2.1 | exact fun z => z.2.2.1 | exact fun z => z.2.2.2.1 | exact fun z => z.2.2.2.2.1 | exact fun z => z.2.2.2.2.2.1 | exact fun z => z.2.2.2.2.2.2.1 | exact fun z => z.2.2.2.2.2.2.2.1 | exact fun z => z.2.2.2.2.2.2.2.2.1 | exact fun z => z.2.2.2.2.2.2.2.2.2.1 | exact fun z => z.2.2.2.2.2.2.2.2.2.2.1 | exact fun z => z.2.2.2.2.2.2.2.2.2.2.2.1 | exact fun z => z.2.2.2.2.2.2.2.2.2.2.2.2.1 | exact fun z => z.2.2.2.2.2.2.2.2.2.2.2.2.2.1 | exact And.right | exact fun z => z.2.2 | exact fun z => z.2.2.2 | exact fun z => z.2.2.2.2 | exact fun z => z.2.2.2.2.2 | exact fun z => z.2.2.2.2.2.2 | exact fun z => z.2.2.2.2.2.2.2 | exact fun z => z.2.2.2.2.2.2.2.2 | exact fun z => z.2.2.2.2.2.2.2.2.2 | exact fun z => z.2.2.2.2.2.2.2.2.2.2 | exact fun z => z.2.2.2.2.2.2.2.2.2.2.2 | exact fun z => z.2.2.2.2.2.2.2.2.2.2.2.2 | exact fun z => z.2.2.2.2.2.2.2.2.2.2.2.2.2)) | (apply nc4; assumption; (first | exact And.left | exact fun z => z.2.1 | exact fun z => z.2.2.1 | exact fun z => z.2.2.2.1 | exact fun z => z.2.2.2.2.1 | exact fun z => z.2.2.2.2.2.1 | exact fun z => z.2.2.2.2.2.2.1 | exact fun z => z.2.2.2.2.2.2.2.1 | exact fun z => z.2.2.2.2.2.2.2.2.1 | exact fun z => z.2.2.2.2.2.2.2.2.2.1 | exact fun z => z.2.2.2.2.2.2.2.2.2.2.1 | exact fun z => z.2.2.2.2.2.2.2.2.2.2.2.1 | exact fun z => z.2.2.2.2.2.2.2.2.2.2.2.2.1 | exact fun z => z.2.2.2.2.2.2.2.2.2.2.2.2.2.1 | exact And.right | exact fun z => z.2.2 | exact fun z => z.2.2.2 | exact fun z => z.2.2.2.2 | exact fun z => z.2.2.2.2.2 | exact fun z => z.2.2.2.2.2.2 | exact fun z => z.2.2.2.2.2.2.2 | exact fun z => z.2.2.2.2.2.2.2.2 | exact fun z => z.2.2.2.2.2.2.2.2.2 | exact fun z => z.2.2.2.2.2.2.2.2.2.2 | exact fun z => z.2.2.2.2.2.2.2.2.2.2.2 | exact fun z => z.2.2.2.2.2.2.2.2.2.2.2.2 | exact fun z => z.2.2.2.2.2.2.2.2.2.2.2.2.2)))))
  (k_with "k_upd" => first | (apply uh8; k_all) | (apply ut8; k_ne; k_upd))
  (k_with "k_updF" => first | (apply fh8; k_all) | (apply ft8; k_ne; k_updF))
  (k_with "k_all" => first | exact List.forall_mem_nil _ | (apply an8; k_ne; k_all))
  (k_with "kcf_all" => first | exact fun _ hp => hp | (apply sb8; (focus kcf_m); kcf_all))
  (k_with "ktr_units" => first | exact uu2 hu rfl | exact uu1 hu rfl | exact uu3 hu rfl | exact uu4 hu rfl)
  (k_with "ktr_room" => first | exact uu2 hdp rfl | exact uu1 hdp rfl | exact uu3 hdp rfl | exact uu4 hdp rfl)
  (k_with "subscriptTail Name UnaryOp ref int" => k_extra "subscriptTail")
  exact trivial
theorem news_at {ka : List Bool} {a : Addr} {n : Nat} {news : List (Addr × Obj)} (h : (a, listOf (ka.map Value.bool).toArray n) ∈ news) : (a, listOf (ka.map Value.bool).toArray n) ∈ news := h
theorem strs_append {vs ws : List Value} {ks ms : List Str} (h : StrsAre vs ks) (h' : StrsAre ws ms) : StrsAre (vs ++ ws) (ks ++ ms) := by
  induction h with
  | nil => exact h'
  | cons x t _ ih => exact .cons x t ih
def moresS : List (List Str) := [[Str.ofString "Lower"], [Str.ofString "Upper"], [Str.ofString "Other", Str.ofString "Lower"], [Str.ofString "Sep"]]
theorem mores_ok : ∀ ms ∈ moresS, ms.length ≤ 2 ∧ ∀ k ∈ ms, PyData.strOk k = true := by decide +kernel
def toldS (ks : List Str) (pl : Int) : List Bool := moresS.map fun more => isBreakS (ks ++ more) pl
def sureS (ks : List Str) (pl : Int) : Bool := decide (toldS ks pl = [true, true, true, true]) || decide (toldS ks pl = [false, false, false, false])
theorem lines27 : True := by
  (k_with "exec Assign cons ListComp" => (k_here; k_dflt (refine assign_comp_tup (F₀ := by k_asm) (by rfl) (by with_unfolding_all rfl) (by with_unfolding_all rfl) (by decide) (by rfl) (by decide) (by rfl) (by rfl) (by rfl) ?_)))
  (k_with "binaryOp Add ref ref" => (k_here; (with_reducible show wpAny _ _ (binaryOp _ (Value.ref _) (Value.ref _)) _ _ _); k_dflt (refine' add_two ?Fq597w ?Nq597w ?aq597w ?bq597w ?zq597w ?_; (case Fq597w => k_asm); (case Nq597w => k_asm); (case aq597w => first | exact News.isList (by k_asm) (by k_mem) | exact listBase (by k_asm) (by assumption)); (case bq597w => first | assumption | exact News.isList (by k_asm) (by k_mem) | exact listBase (by k_asm) (by assumption)); (case zq597w => omega)); intro _ _ _ _ l1zz; (try k_lt l1zz); (try k_sweep)))
  (k_with "compareOp In ref ref" => (k_here; k_dflt (refine' in_twoB ?Nq598w ?xq598w ?tq598w ?aq598w ?bq598w ?uq598w ?_; (case Nq598w => k_asm); (case xq598w => k_mem); (case tq598w => k_mem); (case aq598w => exact news_at (ka := [true, true, true, true]) (by k_mem)); (case bq598w => exact news_at (ka := [false, false, false, false]) (by k_mem)); (case uq598w => ktr_units); k_whole)))
  (k_with "SrcTup" => (k_here; refine halt_ ?_))
  exact trivial
set_option maxRecDepth 100000 in
set_option maxHeartbeats 3000000 in
theorem C_issure {w : World} {mean : ExcName → Option Value} {mg mb : Str → Option Value} {dp un : Nat} {gd : Option (List Code)} {cn : Str} {cs : Scope} {a : Addr} {ccd : Value} {cl : List (Str × Addr)} {outer : List Env} {A₀ : Around} {base h₀ : Heap} {L : Addr} {m : Str → Option Value} {s : Shared} {Q E : Value → Shared → Prop} (B : Below A₀ base outer h₀) (F : Fr h₀ L s.heap m) (X : (hd.heap_1 w.params).In h₀) (T : (Top view9 (looseW view9 []) mean mg mb h₀)) (hk : cs.kind = .function) {l : Addr} {vs : List Value} {ks : List Str} {nn : Nat} {news : List (Addr × Obj)} {pl : Int} {pt : Tok}
    (N : News h₀ L s.heap news) (hl : s.heap.get? l = some (listOf vs.toArray nn)) (hv : StrsAre vs ks) (hlen : ks.length < 90) (hok : ∀ k ∈ ks, PyData.strOk k = true)
    (hp0 : 0 < pl) (hp1 : pl < ks.length)
    (hdp : dp + 12 < recursionLimit) (hu : un + 700 < cLine)
    (hret : ∀ h' tk', s.heap.StaysIn h' → Fr h₀ L h' m → News h₀ L h' news → Q (.bool (sureS ks pl)) { s with heap := h', toks := tk' }) :
    wpAny (model PySem.Challenge.rw_on0369_01.row.prog w) (ktrTop dp un gd cn cs L a ccd cl outer) (call (.ref 229) [.ref l, .int pl pt]) Q E s := by
  w_top off
  have hvl := strs_length hv
  have hL : s.heap.IsList l vs.toArray := ⟨_, hl, rfl, _, rfl⟩
  refine wpAny_call ?_
  k_dflt (refine' code_def0C ?k1 ?k2 ?k3 ?k5 ?kA ?kF ?kK ?k6 ?k7 ?k8 ?k9 ?kB ?kD ?_ ?c2 ?c3 ?c4; (case kA => exact rfl); (case kF => exact rfl); (case kK => assumption); (case k1 => k_asm); (case k2 => k_asm); (case k3 => k_asm); (case k5 => k_asm); (case k6 => k_is); (case k7 => k_is); (case k8 => ktr_room); (case k9 => exact BindsTo.of_eq rfl); (case kB => exact rfl); (case kD => decide +kernel); (case c2 => exact rfl); (case c3 => exact rfl); (case c4 => exact rfl); k_whole; intro L' h' tk' cells' F' N' Y' B' X' T'; k_cells Y'; (try dsimp only); (try k_fold))
  k_steps
  (with_reducible rename Fr _ _ _ _ => F1)
  (with_reducible rename News _ _ _ _ => N1)
  refine Halt.go (SrcTup.intro rfl F1 N1 (.head _) (Nat.le_of_ble_eq_true rfl) fun g => ?_)
  refine rest_lists (mss := moresS) (.cons (by k_mem) (.cons _ _ .nil) (.cons (by k_mem) (.cons _ _ .nil) (.cons (by k_mem) (.cons _ _ (.cons _ _ .nil)) (.cons (by k_mem) (.cons _ _ .nil) .nil)))) (fun more => isBreakS (ks ++ more) pl) ?_ ?_
  · intro a2 vs2 ms n2 I oI C oC D m₂ ys h tk E' hms ham hvs hC hx F2 N2 off ne
    have hvl2 := strs_length hvs
    have hms2 := mores_ok ms hms
    have hL2 : h.IsList a2 vs2.toArray := ⟨_, (N2 _ (.tail _ (.tail _ (.tail _ ham)))).1, rfl, _, rfl⟩
    obtain ⟨hms3, hms4⟩ := hms2
    have hv12 : StrsAre (vs ++ vs2) (ks ++ ms) := strs_append hv hvs
    have hl12 : (ks ++ ms).length < 100 := by rw [List.length_append]; omega
    have hl13 : pl < (ks ++ ms).length := by rw [List.length_append]; omega
    have hok12 : ∀ k ∈ ks ++ ms, PyData.strOk k = true := fun k hk => (List.mem_append.mp hk).elim (hok k) (hms4 k)
    (try k_fold)
    (k_steps; repeat (any_goals ((first | ((with_reducible show Halt (wpAny _ _ (call (Value.ref 224) _) _ _ _)); refine Halt.go ?_; k_dflt (refine' C_isbreak ?B9z ?F9z ?X9z ?T9z ?hk9z ?N9z ?hl9z ?hv9z ?hlen9z ?hok9z ?p09z ?p19z ?hdp9z ?hu9z ?_; (case B9z => k_asm); (case F9z => k_asm); (case X9z => k_asm); (case T9z => k_asm); (case hk9z => first | exact rfl | assumption); (case N9z => k_asm); (case hl9z => first | exact News.get (by k_asm) (by k_mem) | exact Fr.keep (by k_asm) _ _ (by assumption)); (case hv9z => assumption); (case hlen9z => omega); (case hok9z => assumption); (case p09z => assumption); (case p19z => omega); (case hdp9z => ktr_room); (case hu9z => ktr_units); k_whole); intro h'q tk'q st'q F'q N'q; (try k_sweep))); k_steps)))
    all_goals exact LCg.CompEnd.intro (by assumption) (by assumption) _ (by kcf_all) off (by k_mem) ⟨rfl, rfl⟩
  · k_steps
    all_goals exact end_b (by assumption) F N hret rfl
end V9part
section Plain2part
set_option linter.unusedVariables false
/-! # the plain law of the loop: what is due, the stream tells -/
def sure1 (ks : List Str) (p : Nat) : Bool := decide (p = 0) || sureS ks p
def dueRow (ks : List Str) (p : Nat) : Int × Bool := ((p : Int), decide (p = 0) || isBreakS ks p)
def dueS (ks : List Str) (t : Nat) (n : Nat) : List (Int × Bool) := (List.range n).map fun i => dueRow ks (t + i)
theorem dueS_succ (ks : List Str) (t n : Nat) : dueS ks t (n + 1) = dueS ks t n ++ [dueRow ks (t + n)] := by simp [dueS, List.range_succ]
/-- a place that waits for a letter -/
structure HeldAt (ks : List Str) (c : St) (t : Nat) : Prop where
  held : c.held = t
  pos : 0 < t
  lt : t < ks.length
  at_ : ∀ r, isBreakS (ks ++ r) t = !decide (((ks.drop t ++ r).filter isLetterS).take 1 = [Str.ofString "Lower"])
  none_ : (ks.drop t).filter isLetterS = []
  off : ∀ q : Nat, t < q → q < ks.length → ∀ r, isBreakS (ks ++ r) q = false
  term : c.term = Str.ofString ""
  last : isPara c.last = false
structure Inv (ks : List Str) (c : St) (t : Nat) : Prop where
  sound : Sound ks c
  st : c.held = -1 ∧ t = ks.length ∨ HeldAt ks c t
theorem inv_nil : Inv [] initS 0 := ⟨sound_nil, .inl ⟨rfl, rfl⟩⟩
theorem isStop_eq (k : Str) : isStop k = isLetterS k := by
  simp only [isStop, isLetterS, List.any_cons, List.any_nil, Bool.or_false]
  generalize (Str.ofString "OLetter" == k) = a
  generalize (Str.ofString "Upper" == k) = b
  generalize (Str.ofString "Lower" == k) = c
  generalize (Str.ofString "Sep" == k) = d
  generalize (Str.ofString "CR" == k) = e
  generalize (Str.ofString "LF" == k) = f
  generalize (Str.ofString "ATerm" == k) = g
  generalize (Str.ofString "STerm" == k) = h
  cases a <;> cases b <;> cases c <;> cases d <;> cases e <;> cases f <;> cases g <;> cases h <;> rfl
theorem letters_more : ((Str.ofString "Lower" :: []).filter isLetterS).take 1 = [Str.ofString "Lower"] ∧ ((Str.ofString "Upper" :: []).filter isLetterS).take 1 = [Str.ofString "Upper"] ∧ Str.ofString "Upper" ≠ Str.ofString "Lower" := by decide +kernel
theorem sure_const {ks : List Str} {p : Int} (b : Bool) (h : ∀ r, isBreakS (ks ++ r) p = b) : sureS ks p = true := by
  simp only [sureS, toldS, moresS, List.map_cons, List.map_nil, h]
  cases b <;> decide
theorem sure_not {ks : List Str} {p : Int} {l : List Str} (hn : l.filter isLetterS = []) (h : ∀ r, isBreakS (ks ++ r) p = !decide (((l ++ r).filter isLetterS).take 1 = [Str.ofString "Lower"])) : sureS ks p = false := by
  have h1 : isBreakS (ks ++ [Str.ofString "Lower"]) p = false := by
    rw [h, List.filter_append, hn, List.nil_append, letters_more.1]; simp
  have h2 : isBreakS (ks ++ [Str.ofString "Upper"]) p = true := by
    rw [h, List.filter_append, hn, List.nil_append, letters_more.2.1]; simp [letters_more.2.2]
  simp only [sureS, toldS, moresS, List.map_cons, List.map_nil, h1, h2]
  simp
theorem verdict_none {c : St} (hp : c.pos ≠ 0) (ht : c.term = Str.ofString "") (hl : isPara c.last = false) (k : Str) : verdictS c k = Str.ofString "none" := by
  unfold verdictS
  rw [if_neg hp, if_neg (by simp [hl])]
  split
  · rfl
  · split
    · rfl
    · rw [if_pos (by simp [ht])]
theorem verdict_first {c : St} (hp : c.pos = 0) (k : Str) : verdictS c k = Str.ofString "break" := by
  unfold verdictS; rw [if_pos hp]
theorem take_held {c : St} {k : Str} : (takeS c k).held = c.held := by
  unfold takeS; split <;> rfl
theorem letter_not {k : Str} (h : isLetterS k = false) : isTerm k = false ∧ isPara k = false := by
  rw [isLetter_eq] at h
  simp only [Bool.or_eq_false_iff] at h
  exact ⟨h.1.1.1.2, h.1.1.1.1⟩
theorem take_term {c : St} {k : Str} (ht : c.term = Str.ofString "") (hk : isLetterS k = false) (hl : isPara c.last = false) : (takeS c k).term = Str.ofString "" ∧ isPara (takeS c k).last = false := by
  obtain ⟨h1, h2⟩ := letter_not hk
  unfold takeS
  split
  · exact ⟨ht, h2⟩
  · simp only [h1, ht, Bool.false_eq_true, if_false]
    refine ⟨?_, h2⟩
    split
    · rfl
    · split <;> rfl
/-- after a kind that waits nothing ends a sentence any more -/
theorem wait_term {c : St} {k : Str} (hw : verdictS c k = Str.ofString "wait") : (takeS c k).term = Str.ofString "" ∧ isPara (takeS c k).last = false := by
  have nb : Str.ofString "break" ≠ Str.ofString "wait" := by decide +kernel
  have nn : Str.ofString "none" ≠ Str.ofString "wait" := by decide +kernel
  unfold verdictS at hw
  split at hw
  · exact absurd hw nb
  split at hw
  · split at hw
    · exact absurd hw nn
    · exact absurd hw nb
  split at hw
  · exact absurd hw nn
  rename_i hh
  split at hw
  · exact absurd hw nn
  split at hw
  · exact absurd hw nn
  rename_i h5
  split at hw
  · exact absurd hw nn
  rename_i h6
  simp only [Bool.or_eq_true, not_or, Bool.not_eq_true] at h5
  obtain ⟨⟨⟨⟨h51, h52⟩, h53⟩, h54⟩, h55⟩ := h5
  unfold takeS
  rw [if_neg (by simp [hh])]
  simp only [h53, h54, Bool.false_and, Bool.false_eq_true, if_false]
  refine ⟨?_, h55⟩
  split
  · rfl
  · rename_i h7
    simp only [Bool.or_eq_true, Bool.not_eq_true', not_or, Bool.not_eq_true, Bool.not_eq_false] at h7
    exact absurd (by simp [h7.1, h7.2]) h6
theorem getLast_none {r : List Str} (v : Str) (h : v = Str.ofString "none" ∨ v = Str.ofString "break" ∨ v = Str.ofString "wait") : (v == Str.ofString "wait") = false → ∀ r', outS v r' = outS v r := by
  rintro hv r'
  rcases h with rfl | rfl | rfl
  · rw [out_none, out_none]
  · rw [out_break, out_break]
  · exact absurd hv (by simp)
theorem verdict_kind (c : St) (k : Str) : verdictS c k = Str.ofString "none" ∨ verdictS c k = Str.ofString "break" ∨ verdictS c k = Str.ofString "wait" := by
  unfold verdictS
  repeat' split
  all_goals simp
theorem dueS_cons (ks : List Str) (t n : Nat) : dueS ks t (n + 1) = dueRow ks t :: dueS ks (t + 1) n := by
  simp only [dueS, List.range_succ_eq_map, List.map_cons, List.map_map, Nat.add_zero]
  congr 1
  apply List.map_congr_left
  intro i _
  simp only [Function.comp_apply, Nat.succ_eq_add_one, Nat.add_assoc, Nat.add_comm 1 i]
theorem here_row {ks : List Str} {c : St} {k : Str} (h : Sound ks c) (hw : (verdictS c k == Str.ofString "wait") = false) : dueRow (ks ++ [k]) ks.length = (c.pos, verdictS c k == Str.ofString "break") ∧ sure1 (ks ++ [k]) ks.length = true := by
  by_cases hne : ks = []
  · subst hne
    have hp : c.pos = 0 := h.pos
    rw [verdict_first hp]
    exact ⟨by simp [dueRow, hp], by simp [sure1]⟩
  · have hb := break_at h hne k
    have hl : ks.length ≠ 0 := by simpa using hne
    have key : ∀ r, isBreakS (ks ++ [k] ++ r) ks.length = (verdictS c k == Str.ofString "break") := by
      intro r
      rw [List.append_assoc, List.singleton_append, (hb r).1]
      rcases verdict_kind c k with e | e | e
      · rw [e, out_none, vBN]
      · rw [e, out_break, beq_self_eq_true]
      · rw [e] at hw; simp at hw
    have k0 := key []
    rw [List.append_nil] at k0
    refine ⟨?_, ?_⟩
    · simp only [dueRow, k0, h.pos, decide_eq_false hl, Bool.false_or]
    · simp only [sure1, decide_eq_false hl, Bool.false_or]
      exact sure_const _ key
theorem take_other {c : St} {k : Str} (x : Int) : (takeS { c with held := x } k).term = (takeS c k).term ∧ (takeS { c with held := x } k).last = (takeS c k).last := by
  unfold takeS
  split
  · exact ⟨rfl, rfl⟩
  · exact ⟨rfl, rfl⟩
structure Turn (ks : List Str) (k : Str) (c : St) (t n : Nat) : Prop where
  out : (putS c k).1 = dueS (ks ++ [k]) t n
  inv : Inv (ks ++ [k]) (putS c k).2 (t + n)
  sure : ∀ p, t ≤ p → p < t + n → sure1 (ks ++ [k]) p = true
  le : t + n ≤ ks.length + 1
  stop : t + n = ks.length + 1 ∨ sure1 (ks ++ [k]) (t + n) = false
theorem rows_off {ks : List Str} : ∀ (m t : Nat), 0 < t → (∀ q : Nat, t ≤ q → q < t + m → isBreakS ks q = false) → dueS ks t m = rowsR t m := by
  intro m
  induction m with
  | zero => intro t _ _; rfl
  | succ m ih =>
    intro t h0 h
    rw [dueS_succ, rowsR_succ, ih t h0 fun q h1 h2 => h q h1 (by omega)]
    have h3 := h (t + m) (by omega) (by omega)
    have h4 : t + m ≠ 0 := by omega
    have e : dueRow ks (t + m) = ((t : Int) + (m : Int), false) := by unfold dueRow; rw [h3, decide_eq_false h4, Int.natCast_add]; rfl
    rw [e]
theorem turn_law {ks : List Str} {c : St} {t : Nat} (I : Inv ks c t) (k : Str) : ∃ n, Turn ks k c t n := by
  have hlen : (ks ++ [k]).length = ks.length + 1 := by simp
  have hpos := I.sound.pos
  rcases I.st with ⟨hh, ht⟩ | H
  · subst ht
    have h0 : ¬ 0 ≤ c.held := by omega
    cases hw : verdictS c k == Str.ofString "wait" with
    | true =>
      have hw' : verdictS c k = Str.ofString "wait" := by simpa using hw
      have hp0 : c.pos ≠ 0 := fun e => by
        rw [verdict_first e] at hw'
        exact absurd hw' (by decide +kernel)
      have hne : ks ≠ [] := fun e => by subst e; exact hp0 hpos
      have hl0 : ks.length ≠ 0 := by simpa using hne
      have hb := break_at I.sound hne k
      have hkl : isLetterS k = false := (hb []).2 hw'
      have hf : [k].filter isLetterS = [] := by simp [hkl]
      have key : ∀ r, isBreakS (ks ++ [k] ++ r) ks.length = !decide ((([k] ++ r).filter isLetterS).take 1 = [Str.ofString "Lower"]) := by
        intro r
        rw [List.append_assoc, List.singleton_append, (hb r).1, hw', out_wait, List.filter_cons, hkl]
        rfl
      have hd : (ks ++ [k]).drop ks.length = [k] := by simp
      obtain ⟨ht1, ht2⟩ := wait_term hw'
      refine ⟨0, ?_, ?_, fun p h1 h2 => by omega, by omega, .inr ?_⟩
      · rw [putS_4 h0 hw]; rfl
      · rw [putS_4 h0 hw]
        refine ⟨sound_take (sound_held I.sound _) k, .inr ⟨?_, by omega, by omega, ?_, ?_, fun q h1 h2 => by omega, (take_other c.pos).1.trans ht1, by rw [show (([], takeS { c with held := c.pos } k) : List (Int × Bool) × St).2.last = (takeS c k).last from (take_other c.pos).2]; exact ht2⟩⟩
        · rw [take_held]; simp [hpos]
        · rw [Nat.add_zero, hd]; exact key
        · rw [Nat.add_zero, hd]; exact hf
      · rw [Nat.add_zero]
        simp only [sure1, decide_eq_false hl0, Bool.false_or]
        exact sure_not hf key
    | false =>
      obtain ⟨h1, h2⟩ := here_row I.sound hw
      refine ⟨1, ?_, ?_, fun p h3 h4 => ?_, by omega, .inl rfl⟩
      · rw [putS_5 h0 hw, dueS_succ, Nat.add_zero, h1]; rfl
      · rw [putS_5 h0 hw]
        exact ⟨sound_take I.sound k, .inl ⟨by rw [take_held]; exact hh, by omega⟩⟩
      · obtain rfl : p = ks.length := by omega
        exact h2
  · have hheld := H.held
    have hlt := H.lt
    have hps := H.pos
    have h : 0 ≤ c.held := by omega
    have hp0 : c.pos ≠ 0 := by omega
    have hne : ks ≠ [] := fun e => by subst e; exact hp0 hpos
    have hvn := verdict_none hp0 H.term H.last k
    have hb := break_at I.sound hne k
    have hdrop : (ks ++ [k]).drop t = ks.drop t ++ [k] := List.drop_append_of_le_length (by omega)
    cases hs : isStop k with
    | false =>
      have hk : isLetterS k = false := by rw [← isStop_eq]; exact hs
      have hf : (ks.drop t ++ [k]).filter isLetterS = [] := by rw [List.filter_append, H.none_]; simp [hk]
      have key : ∀ r, isBreakS (ks ++ [k] ++ r) t = !decide (((ks.drop t ++ [k] ++ r).filter isLetterS).take 1 = [Str.ofString "Lower"]) := by
        intro r
        have := H.at_ ([k] ++ r)
        rw [← List.append_assoc, ← List.append_assoc] at this
        exact this
      obtain ⟨ht1, ht2⟩ := take_term H.term hk H.last
      refine ⟨0, ?_, ?_, fun p h1 h2 => by omega, by omega, .inr ?_⟩
      · rw [putS_3 h hs]; rfl
      · rw [putS_3 h hs]
        refine ⟨sound_take I.sound k, .inr ⟨?_, by omega, by omega, ?_, ?_, fun q h1 h2 r => ?_, ht1, ht2⟩⟩
        · rw [take_held]; exact hheld
        · rw [Nat.add_zero, hdrop]; exact key
        · rw [Nat.add_zero, hdrop]; exact hf
        · rw [List.append_assoc]
          rcases Nat.lt_or_ge q ks.length with h3 | h3
          · exact H.off q h1 h3 _
          · obtain rfl : q = ks.length := by omega
            rw [List.singleton_append, (hb r).1, hvn, out_none]
      · rw [Nat.add_zero]
        simp only [sure1, decide_eq_false (show ¬ t = 0 by omega), Bool.false_or]
        exact sure_not hf key
    | true =>
      have hk : isLetterS k = true := by rw [← isStop_eq]; exact hs
      have hw : (verdictS c k == Str.ofString "wait") = false := by rw [hvn]; exact vNW
      have keyt : ∀ r, isBreakS (ks ++ [k] ++ r) t = !(k == Str.ofString "Lower") := by
        intro r
        have e9 : ((ks.drop t ++ ([k] ++ r)).filter isLetterS).take 1 = [k] := by
          rw [List.filter_append, H.none_, List.nil_append, List.singleton_append, List.filter_cons, hk]; rfl
        rw [List.append_assoc, H.at_ ([k] ++ r), e9]
        by_cases e : k = Str.ofString "Lower"
        · simp [e]
        · simp [e]
      have keyq : ∀ q : Nat, t + 1 ≤ q → q ≤ ks.length → ∀ r, isBreakS (ks ++ [k] ++ r) q = false := by
        intro q h1 h2 r
        rw [List.append_assoc]
        rcases Nat.lt_or_ge q ks.length with h3 | h3
        · exact H.off q h1 h3 _
        · obtain rfl : q = ks.length := by omega
          rw [List.singleton_append, (hb r).1, hvn, out_none]
      have k0 := keyt []
      have q0 := fun q h1 h2 => keyq q h1 h2 []
      rw [List.append_nil] at k0 q0
      obtain ⟨n, hn⟩ : ∃ n, ks.length = t + 1 + n := ⟨ks.length - (t + 1), by omega⟩
      have e : (putS c k) = ((c.held, !(k == Str.ofString "Lower")) :: rowsR (c.held + 1) n ++ [(c.pos, false)], takeS { c with held := -1 } k) := by
        rw [putS_2 h hs hw, hvn, vBN]
        unfold settledS
        rw [if_pos h]
        congr 4
        omega
      refine ⟨n + 1 + 1, ?_, ?_, ?_, by omega, .inl (by omega)⟩
      · rw [e, dueS_cons, dueS_succ, rows_off n (t + 1) (by omega) fun q h1 h2 => q0 q h1 (by omega)]
        have h3 := q0 (t + 1 + n) (by omega) (by omega)
        have e1 : dueRow (ks ++ [k]) t = (c.held, !(k == Str.ofString "Lower")) := by unfold dueRow; rw [k0, decide_eq_false (show ¬ t = 0 by omega), Bool.false_or, hheld]
        have e2 : dueRow (ks ++ [k]) (t + 1 + n) = (c.pos, false) := by unfold dueRow; rw [h3, decide_eq_false (show ¬ t + 1 + n = 0 by omega), hpos, hn]; rfl
        have e3 : c.held + 1 = ((t + 1 : Nat) : Int) := by omega
        rw [e1, e2, e3]; rfl
      · rw [e]
        exact ⟨sound_take (sound_held I.sound _) k, .inl ⟨by rw [take_held], by omega⟩⟩
      · intro p h1 h2
        simp only [sure1, decide_eq_false (show ¬ p = 0 by omega), Bool.false_or]
        rcases Nat.eq_or_lt_of_le h1 with rfl | h3
        · exact sure_const _ keyt
        · exact sure_const _ (keyq p h3 (by omega))
/-! # what finish tells -/
def endRow (ks : List Str) (p : Nat) : Int × Bool := ((p : Int), decide (p = ks.length) || isBreakS ks p)
def endS (ks : List Str) (t n : Nat) : List (Int × Bool) := (List.range n).map fun i => endRow ks (t + i)
theorem endS_succ (ks : List Str) (t n : Nat) : endS ks t (n + 1) = endS ks t n ++ [endRow ks (t + n)] := by simp [endS, List.range_succ]
theorem endS_cons (ks : List Str) (t n : Nat) : endS ks t (n + 1) = endRow ks t :: endS ks (t + 1) n := by
  simp only [endS, List.range_succ_eq_map, List.map_cons, List.map_map, Nat.add_zero]
  congr 1
  apply List.map_congr_left
  intro i _
  simp only [Function.comp_apply, Nat.succ_eq_add_one, Nat.add_assoc, Nat.add_comm 1 i]
theorem ends_off {ks : List Str} : ∀ (m t : Nat), t + m ≤ ks.length → (∀ q : Nat, t ≤ q → q < t + m → isBreakS ks q = false) → endS ks t m = rowsR t m := by
  intro m
  induction m with
  | zero => intro t _ _; rfl
  | succ m ih =>
    intro t h0 h
    rw [endS_succ, rowsR_succ, ih t (by omega) fun q h1 h2 => h q h1 (by omega)]
    have h3 := h (t + m) (by omega) (by omega)
    have e : endRow ks (t + m) = ((t : Int) + (m : Int), false) := by unfold endRow; rw [h3, decide_eq_false (show ¬ t + m = ks.length by omega), Int.natCast_add]; rfl
    rw [e]
theorem inv_le {ks : List Str} {c : St} {t : Nat} (I : Inv ks c t) : t ≤ ks.length := by
  rcases I.st with ⟨_, h⟩ | H
  · omega
  · have := H.lt; omega
theorem inv_pos {ks : List Str} {c : St} {t : Nat} (I : Inv ks c t) (h : ks ≠ []) : 0 < t := by
  rcases I.st with ⟨_, h1⟩ | H
  · rw [h1]; exact List.length_pos_iff.mpr h
  · exact H.pos
theorem finish_nil {c : St} {t : Nat} (I : Inv [] c t) : finishS c = [] := by
  have hp : c.pos = 0 := I.sound.pos
  rcases I.st with ⟨h, _⟩ | H
  · unfold finishS settledS
    rw [h, hp]; rfl
  · have := H.lt; simp at this
theorem finish_law {ks : List Str} {c : St} {t : Nat} (I : Inv ks c t) (hne : ks ≠ []) : finishS c = endS ks t (ks.length + 1 - t) := by
  have hp := I.sound.pos
  have hl := List.length_pos_iff.mpr hne
  rcases I.st with ⟨h, ht⟩ | H
  · subst ht
    unfold finishS settledS
    rw [h, if_neg (by decide), if_pos (by omega), show ks.length + 1 - ks.length = 0 + 1 by omega, endS_succ, hp]
    simp [endS, endRow]
  · have hheld := H.held
    have hlt := H.lt
    have hps := H.pos
    obtain ⟨n, hn⟩ : ∃ n, ks.length = t + 1 + n := ⟨ks.length - (t + 1), by omega⟩
    have h1 := H.at_ []
    have h2 := H.none_
    rw [List.append_nil, List.append_nil, h2] at h1
    have h3 : isBreakS ks t = true := by rw [h1]; rfl
    unfold finishS settledS
    rw [if_pos (by omega), if_pos (by omega), show ks.length + 1 - t = n + 1 + 1 by omega, endS_cons, endS_succ, ends_off n (t + 1) (by omega) fun q h4 h5 => by simpa using H.off q h4 (by omega) []]
    have e1 : (c.pos - (c.held + 1)).toNat = n := by omega
    rw [e1]
    have e1' : endRow ks t = (c.held, true) := by unfold endRow; rw [h3, Bool.or_true, hheld]
    have e2 : endRow ks (t + 1 + n) = (c.pos, true) := by unfold endRow; rw [decide_eq_true (show t + 1 + n = ks.length by omega), hp, hn]; rfl
    have e3 : c.held + 1 = ((t + 1 : Nat) : Int) := by omega
    rw [e1', e2, e3]; rfl
/-! # the law's while and the turn agree -/
theorem turn_while {ks : List Str} {c : St} {t n : Nat} {k : Str} (T : Turn ks k c t n) {t' : Nat} (h1 : t ≤ t') (h2 : t' ≤ ks.length + 1) (hs : ∀ p, t ≤ p → p < t' → sure1 (ks ++ [k]) p = true) (he : t' = ks.length + 1 ∨ sure1 (ks ++ [k]) t' = false) : t' = t + n := by
  have a1 := T.le
  rcases Nat.lt_trichotomy t' (t + n) with h | h | h
  · rcases he with e | e
    · omega
    · rw [T.sure t' h1 h] at e; cases e
  · exact h
  · rcases T.stop with e | e
    · omega
    · rw [hs (t + n) (by omega) h] at e; cases e
theorem pick_cut (ks : List Str) (i : Nat) : pickS ks none (some (((i : Nat) : Int) + 1)) = ks.take (i + 1) := by
  unfold pickS
  have e1 : kms_lo none ks.length = 0 := rfl
  rw [e1]
  simp only [List.drop_zero, Nat.sub_zero]
  have e2 : kms_hi (some (((i : Nat) : Int) + 1)) ks.length = min (i + 1) ks.length := by
    unfold kms_hi
    simp only []
    split <;> omega
  rw [e2, ← List.take_eq_take_min]
theorem sure1_pos {ks : List Str} {p : Nat} (h : p ≠ 0) : sure1 ks p = sureS ks p := by simp [sure1, h]
theorem sure1_zero {ks : List Str} : sure1 ks 0 = true := by simp [sure1]
theorem dueS_rows (ks : List Str) (t n : Nat) : dueS ks t n = (List.range n).map fun i => dueRow ks (t + i) := rfl
end Plain2part
section Gen11part
/-! ## the map that the law's fifteen puts build -/
def other : Str := Str.ofString "Other"
@[irreducible] def kindAt (i : Nat) : Str := kindsL.getD i other
@[irreducible] def mapS : Nat → List Int × List Str
  | 0 => ([0], [other])
  | i + 1 => (rputN (mapS i).1 (200 + i) (200 + i) ((mapS i).2.getD (placeS (mapS i).1 (200 + i + 1)).toNat other == kindAt i),
      rputK (mapS i).1 (mapS i).2 (200 + i) (200 + i) (kindAt i) ((mapS i).2.getD (placeS (mapS i).1 (200 + i + 1)).toNat other) ((mapS i).2.getD (placeS (mapS i).1 (200 + i + 1)).toNat other == kindAt i))
theorem mapS_1 (i : Nat) : (mapS (i + 1)).1 = rputN (mapS i).1 (200 + i) (200 + i) ((mapS i).2.getD (placeS (mapS i).1 (200 + i + 1)).toNat other == kindAt i) := by with_unfolding_all rfl
theorem mapS_2 (i : Nat) : (mapS (i + 1)).2 = rputK (mapS i).1 (mapS i).2 (200 + i) (200 + i) (kindAt i) ((mapS i).2.getD (placeS (mapS i).1 (200 + i + 1)).toNat other) ((mapS i).2.getD (placeS (mapS i).1 (200 + i + 1)).toNat other == kindAt i) := by with_unfolding_all rfl
structure MapOk (i : Nat) : Prop where
  len : (mapS i).1.length < 500
  kl : (mapS i).2.length = (mapS i).1.length
  sort : (mapS i).1.Pairwise (· < ·)
  p0 : 0 ≤ placeS (mapS i).1 (200 + i - 1)
  p1 : placeS (mapS i).1 (200 + i - 1) < 1000
  p2 : 0 ≤ placeS (mapS i).1 (200 + i + 1)
  p3 : placeS (mapS i).1 (200 + i + 1) < 1000
  b : (mapS i).2[(placeS (mapS i).1 (200 + i + 1)).toNat]? = some ((mapS i).2.getD (placeS (mapS i).1 (200 + i + 1)).toNat other)
  pv : (mapS i).2[(placeS (mapS i).1 (200 + i - 1)).toNat]? = some ((mapS i).2.getD (placeS (mapS i).1 (200 + i - 1)).toNat other)
  ne : ((mapS i).2.getD (placeS (mapS i).1 (200 + i - 1)).toNat other == kindAt i) = false
def okB (i : Nat) : Bool := decide ((mapS i).1.length < 500) && decide ((mapS i).2.length = (mapS i).1.length) && decide ((mapS i).1.Pairwise (· < ·)) && decide (0 ≤ placeS (mapS i).1 (200 + i - 1)) && decide (placeS (mapS i).1 (200 + i - 1) < 1000)
  && decide (0 ≤ placeS (mapS i).1 (200 + i + 1)) && decide (placeS (mapS i).1 (200 + i + 1) < 1000) && decide ((mapS i).2[(placeS (mapS i).1 (200 + i + 1)).toNat]? = some ((mapS i).2.getD (placeS (mapS i).1 (200 + i + 1)).toNat other))
  && decide ((mapS i).2[(placeS (mapS i).1 (200 + i - 1)).toNat]? = some ((mapS i).2.getD (placeS (mapS i).1 (200 + i - 1)).toNat other)) && !((mapS i).2.getD (placeS (mapS i).1 (200 + i - 1)).toNat other == kindAt i)
theorem okB_all : ∀ i : Fin 14, okB (i.1 + 1) = true := by decide +kernel
theorem mapOk (i : Nat) (h0 : 0 < i) (h1 : i < 15) : MapOk i := by
  have h := okB_all ⟨i - 1, by omega⟩
  have e : (⟨i - 1, by omega⟩ : Fin 14).1 + 1 = i := by show i - 1 + 1 = i; omega
  rw [e] at h
  simp only [okB, Bool.and_eq_true, decide_eq_true_eq, Bool.not_eq_true'] at h
  obtain ⟨⟨⟨⟨⟨⟨⟨⟨⟨a, b⟩, c⟩, d⟩, e⟩, f⟩, g⟩, h⟩, i⟩, j⟩ := h
  exact ⟨a, b, c, d, e, f, g, h, i, j⟩
theorem map_one : (mapS 1).1 = [0, 200, 201] ∧ (mapS 1).2 = [other, kindAt 0, other] := by decide +kernel
theorem kind_at (i : Nat) (h : i < 15) : kindsL[i]? = some (kindAt i) := by
  unfold kindAt
  rw [List.getD_eq_getElem?_getD, List.getElem?_eq_getElem (by simpa [kindsL] using h)]; rfl
theorem map_end_all : ∀ i : Fin 15, 0 ≤ placeS (mapS 15).1 (200 + i.1) ∧ placeS (mapS 15).1 (200 + i.1) < 1000 ∧ (mapS 15).2[(placeS (mapS 15).1 (200 + i.1)).toNat]? = some (kindAt i.1) := by decide +kernel
theorem map_end_len : (mapS 15).1.length < 1000 ∧ (mapS 15).1.Pairwise (· < ·) := by decide +kernel
theorem idx_all : ∀ k ∈ kindsL, kindsL.idxOf k < 15 ∧ kindAt (kindsL.idxOf k) = k := by decide +kernel
theorem map_end (k : Str) (h : k ∈ kindsL) : 0 ≤ placeS (mapS 15).1 (200 + kindsL.idxOf k) ∧ placeS (mapS 15).1 (200 + kindsL.idxOf k) < 1000 ∧ (mapS 15).2[(placeS (mapS 15).1 (200 + kindsL.idxOf k)).toNat]? = some k := by
  obtain ⟨h1, h2⟩ := idx_all k h
  have h3 := map_end_all ⟨_, h1⟩
  rw [h2] at h3
  exact h3
/-! ## the objects of the data, while the law puts -/
def RestOk (w : World) (q : DA) (svs vvs : List Value) (rest : List (Addr × Obj)) : Prop := ∀ p ∈ rest, ∀ r ∈ dataL w q svs vvs, @Ne Nat p.1 r.1
structure DataAt (prog : Program) (w : World) (x dd df mp pr wd : Addr) (t0 t1 t2 t3 : Tok) (n0 : Nat) (i : Nat) (q : DA) (svs vvs : List Value) : Prop where
  d : q.d = x
  dd : q.dd = dd
  df : q.df = df
  mp : q.mp = mp
  pr : q.pr = pr
  wd : q.wd = wd
  t0 : q.t0 = t0
  t1 : q.t1 = t1
  t2 : q.t2 = t2
  t3 : q.t3 = t3
  n0 : q.n0 = n0
  ok : DOk prog w q
  hn : @Ne Nat q.rd q.dd ∧ @Ne Nat q.rd q.mp
  hv : IntsAre svs (mapS i).1
  hv' : StrsAre vvs (mapS i).2
end Gen11part
section V19part
/-! ## the objects of the data, while the law puts: a put leads from state i to state i + 1 -/
structure DFix where
  (x dd mp df pr wd dk ll cc : Addr)
  (od odf oll oc : Obj)
  (t0 t1 t2 t3 : Tok)
  (n0 nf : Nat)
abbrev rest3 (c : DFix) : List (Addr × Obj) := [(c.df, c.odf), (c.dk, c.od), (c.ll, c.oll), (c.cc, c.oc)]
abbrev apart4 (c : DFix) (a : Addr) : Prop := @Ne Nat c.df a ∧ @Ne Nat c.dk a ∧ @Ne Nat c.ll a ∧ @Ne Nat c.cc a
abbrev ddObj (w : World) (c : DFix) : Obj := dictOf [⟨PyData.keyHash w.params (Str.ofString "defaults"), .str (Str.ofString "defaults") c.t0, .ref c.df⟩, ⟨PyData.keyHash w.params (Str.ofString "maps"), .str (Str.ofString "maps") c.t1, .ref c.mp⟩, ⟨PyData.keyHash w.params (Str.ofString "properties"), .str (Str.ofString "properties") c.t2, .ref c.pr⟩, ⟨PyData.keyHash w.params (Str.ofString "words"), .str (Str.ofString "words") c.t3, .ref c.wd⟩] c.n0
abbrev qOf (c : DFix) (rm rd sa va : Addr) (om : Obj) (t5 t6 t7 t8 : Tok) (n3 n4 : Nat) : DA := { d := c.x, dd := c.dd, mp := c.mp, rm, rd, sa, va, df := c.df, pr := c.pr, wd := c.wd, om, t0 := c.t0, t1 := c.t1, t2 := c.t2, t3 := c.t3, t5, t6, t7, t8, n0 := c.n0, n3, n4 }
structure DFixOk (prog : Program) (w : World) (c : DFix) : Prop where
  mpm : (c.mp == sysModules) = false
  dfm : (c.df == sysModules) = false
  odf : DLen prog w c.odf c.nf (fun x => ∃ t, x = some (.str (Str.ofString "Other") t))
  xm : @Ne Nat c.x c.mp
  dm : @Ne Nat c.dd c.mp
  am : apart4 c c.mp
  ax : apart4 c c.x
  ad : apart4 c c.dd
  ak : @Ne Nat c.dk c.df ∧ @Ne Nat c.ll c.df ∧ @Ne Nat c.cc c.df
def DataSt (prog : Program) (w : World) (c : DFix) : Nat → List (Addr × Obj) → Prop
  | 0, nw => ∃ om, om.IsDictOf (PySem.strKind prog w) [] ∧ nw = (c.x, instObj 188 c.dd) :: (c.dd, ddObj w c) :: (c.mp, om) :: rest3 c
  | i + 1, nw => ∃ rm rd sa va om t5 t6 t7 t8 n3 n4 svs vvs, nw = dataL w (qOf c rm rd sa va om t5 t6 t7 t8 n3 n4) svs vvs ++ rest3 c ∧ om.IsDictOf (PySem.strKind prog w) [(Str.ofString "sb", .ref rm)] ∧ @Ne Nat rd c.dd ∧ @Ne Nat rd c.mp ∧ IntsAre svs (mapS (i + 1)).1 ∧ StrsAre vvs (mapS (i + 1)).2 ∧ apart4 c rm ∧ apart4 c rd ∧ apart4 c sa ∧ apart4 c va
theorem ne_iter {h₀ h : Heap} {L : Addr} {l : List (Addr × Obj)} (N : News h₀ L h l) {a b : Addr} {o o' : Obj} {x y : String} (ha : (a, o) ∈ l) (hb : (b, o') ∈ l) (hx : o.cls = .type x) (hy : o'.cls = .type y) (hn : x ≠ y) : @Ne Nat a b :=
  ne_of_cls (N _ ha).1 (N _ hb).1 (fun e => hn (Value.type.inj (hx.symm.trans (e.trans hy))))
set_option maxHeartbeats 1000000 in
theorem C_dputJ {w : World} {mean : ExcName → Option Value} {mg mb : Str → Option Value} {dp un : Nat} {gd : Option (List Code)} {cn : Str} {cs : Scope} {a : Addr} {ccd : Value} {cl : List (Str × Addr)} {outer : List Env} {A₀ : Around} {base h₀ : Heap} {L : Addr} {m : Str → Option Value} {s : Shared} {Q E : Value → Shared → Prop} (B : Below A₀ base outer h₀) (F : Fr h₀ L s.heap m) (X : (hd.heap_1 w.params).In h₀) (T : (Top view9 (looseW view9 []) mean mg mb h₀)) (hk : cs.kind = .function) {c : DFix} {i : Nat} {i1 i2 : Addr} {o1 o2 : Obj} {nw : List (Addr × Obj)} {a1 a2 a3 tn : Tok} {p q : Int} {v : Str}
    (Nb : News h₀ L s.heap ((i1, o1) :: (i2, o2) :: nw)) (c1 : o1.cls = .type "enumerate") (c2 : o2.cls = .type "tuple_iterator") (C : DFixOk PySem.Challenge.rw_on0369_01.row.prog w c) (J : DataSt PySem.Challenge.rw_on0369_01.row.prog w c i nw) (hi : i < 15)
    (hp : p = 200 + i) (hq : q = 200 + i) (hv : v = kindAt i)
    (hdp : dp + 12 < recursionLimit) (hu : un + 200 < cLine)
    (hret : ∀ nw' h' tk', Fr h₀ L h' m → News h₀ L h' ((i1, o1) :: (i2, o2) :: nw') → DataSt PySem.Challenge.rw_on0369_01.row.prog w c (i + 1) nw' → Q .none { s with heap := h', toks := tk' }) :
    wpAny (model PySem.Challenge.rw_on0369_01.row.prog w) (ktrTop dp un gd cn cs L a ccd cl outer) (call (.ref 171) [.ref c.x, .str (Str.ofString "sb") tn, .int p a1, .int q a2, .str v a3]) Q E s := by
  subst hp hq hv
  obtain ⟨m1, m2, m3, m4, m5, m6, m7, m8, m9⟩ := C
  obtain ⟨ak1, ak2, ak3⟩ := m9
  obtain ⟨am1, am2, am3, am4⟩ := m6
  obtain ⟨ax1, ax2, ax3, ax4⟩ := m7
  obtain ⟨ad1, ad2, ad3, ad4⟩ := m8
  cases i with
  | zero =>
    obtain ⟨om, hom, rfl⟩ := J
    have n1 : @Ne Nat i1 c.mp := ne_iter Nb (.head _) (.tail _ (.tail _ (.tail _ (.tail _ (.head _))))) c1 (dict_cls hom) (by decide)
    have n2 : @Ne Nat i2 c.mp := ne_iter Nb (.tail _ (.head _)) (.tail _ (.tail _ (.tail _ (.tail _ (.head _))))) c2 (dict_cls hom) (by decide)
    refine C_dput0 (tn := tn) (big' := fun o' => (i1, o1) :: (i2, o2) :: (c.x, instObj 188 c.dd) :: (c.dd, ddObj w c) :: (c.mp, o') :: rest3 c) B F X T hk Nb (by kcf_all) (fun o' => by k_upd) hom m1 m3 m2 m4 m5 am1 (by decide) (by omega) (by omega) (by decide +kernel) hdp hu ?_
    intro rm rd sa va om' u0 u1 u2 u3 svs vvs na nv h' tk' F' N' hom' hs hv hfr hap
    have hdfc := DLen.cls m3
    have f1 : @Ne Nat rd c.dd := fun e => by have h9 := (Nb _ (.tail _ (.tail _ (.tail _ (.head _))))).1; rw [show c.dd = rd from e.symm, hfr] at h9; cases h9
    have f2 : @Ne Nat rd c.mp := fun e => by have h9 := (Nb _ (.tail _ (.tail _ (.tail _ (.tail _ (.head _)))))).1; rw [show c.mp = rd from e.symm, hfr] at h9; cases h9
    have f3 : @Ne Nat c.df rd := fun e => by have h9 := (Nb _ (.tail _ (.tail _ (.tail _ (.tail _ (.tail _ (.head _))))))).1; rw [show c.df = rd from e, hfr] at h9; cases h9
    have hk1 := hap c.dk c.od (Nb (c.dk, c.od) (by k_mem)).1 am2 ax2 ad2 ak1
    have hk2 := hap c.ll c.oll (Nb (c.ll, c.oll) (by k_mem)).1 am3 ax3 ad3 ak2
    have hk3 := hap c.cc c.oc (Nb (c.cc, c.oc) (by k_mem)).1 am4 ax4 ad4 ak3
    have g1 : @Ne Nat c.df rm := ne_of_cls (N' _ (by k_mem : (c.df, c.odf) ∈ _)).1 (N' _ (.tail _ (.tail _ (.head _)))).1 (fun e => Value.noConfusion (show Value.type "dict" = Value.ref 139 from hdfc.symm.trans e))
    have g2 : @Ne Nat c.df sa := ne_iter N' (by k_mem : (c.df, c.odf) ∈ _) (.head _) hdfc rfl (by decide)
    have g3 : @Ne Nat c.df va := ne_iter N' (by k_mem : (c.df, c.odf) ∈ _) (.tail _ (.head _)) hdfc rfl (by decide)
    refine hret _ h' tk' F' ?_ ⟨rm, rd, sa, va, om', u0, u1, u2, u3, na, nv, svs, vvs, rfl, hom', f1, f2, ?_, ?_, ⟨g1, hk1.1, hk2.1, hk3.1⟩, ⟨f3, hk1.2.1, hk2.2.1, hk3.2.1⟩, ⟨g2, hk1.2.2.1, hk2.2.2.1, hk3.2.2.1⟩, ⟨g3, hk1.2.2.2, hk2.2.2.2, hk3.2.2.2⟩⟩
    · exact news_sub N' (by kcf_all)
    · rw [map_one.1]; simpa using hs
    · rw [map_one.2]; exact hv
  | succ i =>
    obtain ⟨rm, rd, sa, va, om, t5, t6, t7, t8, n3, n4, svs, vvs, rfl, hom, f1, f2, hs, hv, ⟨b1, b2, b3, b4⟩, ⟨d1, d2, d3, d4⟩, ⟨s1, s2, s3, s4⟩, ⟨v1, v2, v3, v4⟩⟩ := J
    have M := mapOk (i + 1) (Nat.succ_pos _) hi
    have hdfc := DLen.cls m3
    have Nb0 : News h₀ L s.heap ((i1, o1) :: (i2, o2) :: (c.x, instObj 188 c.dd) :: (c.dd, ddObj w c) :: (c.mp, om) :: (rm, instObj 139 rd) :: (rd, dictOf [⟨PyData.keyHash w.params (Str.ofString "default"), .str (Str.ofString "default") t5, .str (Str.ofString "Other") t6⟩, ⟨PyData.keyHash w.params (Str.ofString "starts"), .str (Str.ofString "starts") t7, .ref sa⟩, ⟨PyData.keyHash w.params (Str.ofString "values"), .str (Str.ofString "values") t8, .ref va⟩] 3) :: (sa, listOf svs.toArray n3) :: (va, listOf vvs.toArray n4) :: rest3 c) := Nb
    have n1 : @Ne Nat i1 rd := ne_iter Nb0 (.head _) (.tail _ (.tail _ (.tail _ (.tail _ (.tail _ (.tail _ (.head _))))))) c1 rfl (by decide)
    have n2 : @Ne Nat i2 rd := ne_iter Nb0 (.tail _ (.head _)) (.tail _ (.tail _ (.tail _ (.tail _ (.tail _ (.tail _ (.head _))))))) c2 rfl (by decide)
    have n3' : @Ne Nat c.x rd := ne_of_cls (Nb0 _ (.tail _ (.tail _ (.head _)))).1 (Nb0 _ (.tail _ (.tail _ (.tail _ (.tail _ (.tail _ (.tail _ (.head _)))))))).1 (fun e => Value.noConfusion (show Value.ref 188 = Value.type "dict" from e))
    have n4' : @Ne Nat rm rd := ne_of_cls (Nb0 _ (.tail _ (.tail _ (.tail _ (.tail _ (.tail _ (.head _))))))).1 (Nb0 _ (.tail _ (.tail _ (.tail _ (.tail _ (.tail _ (.tail _ (.head _)))))))).1 (fun e => Value.noConfusion (show Value.ref 139 = Value.type "dict" from e))
    have n5 : @Ne Nat sa rd := ne_iter Nb0 (.tail _ (.tail _ (.tail _ (.tail _ (.tail _ (.tail _ (.tail _ (.head _)))))))) (.tail _ (.tail _ (.tail _ (.tail _ (.tail _ (.tail _ (.head _))))))) rfl rfl (by decide)
    have n6 : @Ne Nat va rd := ne_iter Nb0 (.tail _ (.tail _ (.tail _ (.tail _ (.tail _ (.tail _ (.tail _ (.tail _ (.head _))))))))) (.tail _ (.tail _ (.tail _ (.tail _ (.tail _ (.tail _ (.head _))))))) rfl rfl (by decide)
    have hsub : ∀ p ∈ [(rm, instObj 139 rd), (sa, listOf svs.toArray n3), (va, listOf vvs.toArray n4), (c.x, instObj 188 c.dd), (c.dd, ddObj w c), (c.mp, om)], p ∈ ((i1, o1) :: (i2, o2) :: (c.x, instObj 188 c.dd) :: (c.dd, ddObj w c) :: (c.mp, om) :: (rm, instObj 139 rd) :: (rd, (dictOf [⟨PyData.keyHash w.params (Str.ofString "default"), .str (Str.ofString "default") t5, .str (Str.ofString "Other") t6⟩, ⟨PyData.keyHash w.params (Str.ofString "starts"), .str (Str.ofString "starts") t7, .ref sa⟩, ⟨PyData.keyHash w.params (Str.ofString "values"), .str (Str.ofString "values") t8, .ref va⟩] 3)) :: (sa, listOf svs.toArray n3) :: (va, listOf vvs.toArray n4) :: rest3 c) := by kcf_all
    have U : ∀ o', Upd rd (dictOf [⟨PyData.keyHash w.params (Str.ofString "default"), .str (Str.ofString "default") t5, .str (Str.ofString "Other") t6⟩, ⟨PyData.keyHash w.params (Str.ofString "starts"), .str (Str.ofString "starts") t7, .ref sa⟩, ⟨PyData.keyHash w.params (Str.ofString "values"), .str (Str.ofString "values") t8, .ref va⟩] 3) o' ((i1, o1) :: (i2, o2) :: (c.x, instObj 188 c.dd) :: (c.dd, ddObj w c) :: (c.mp, om) :: (rm, instObj 139 rd) :: (rd, (dictOf [⟨PyData.keyHash w.params (Str.ofString "default"), .str (Str.ofString "default") t5, .str (Str.ofString "Other") t6⟩, ⟨PyData.keyHash w.params (Str.ofString "starts"), .str (Str.ofString "starts") t7, .ref sa⟩, ⟨PyData.keyHash w.params (Str.ofString "values"), .str (Str.ofString "values") t8, .ref va⟩] 3)) :: (sa, listOf svs.toArray n3) :: (va, listOf vvs.toArray n4) :: rest3 c) ((i1, o1) :: (i2, o2) :: (c.x, instObj 188 c.dd) :: (c.dd, ddObj w c) :: (c.mp, om) :: (rm, instObj 139 rd) :: (rd, o') :: (sa, listOf svs.toArray n3) :: (va, listOf vvs.toArray n4) :: rest3 c) := fun o' => .tail n1 (.tail n2 (.tail n3' (.tail (fun e => f1 e.symm) (.tail (fun e => f2 e.symm) (.tail n4' (.head (List.forall_mem_cons.mpr ⟨n5, List.forall_mem_cons.mpr ⟨n6, List.forall_mem_cons.mpr ⟨d1, List.forall_mem_cons.mpr ⟨d2, List.forall_mem_cons.mpr ⟨d3, List.forall_mem_cons.mpr ⟨d4, fun _ h => nomatch h⟩⟩⟩⟩⟩⟩)))))))
    refine C_dput (q := qOf c rm rd sa va om t5 t6 t7 t8 n3 n4) (tn := tn) (b := (mapS (i + 1)).2.getD (placeS (mapS (i + 1)).1 (200 + (i + 1 : Nat) + 1)).toNat other) (pv := (mapS (i + 1)).2.getD (placeS (mapS (i + 1)).1 (200 + (i + 1 : Nat) - 1)).toNat other) B F X T hk Nb0 hsub U ⟨hom, m1⟩ ⟨f1, f2⟩ hs hv M.len M.kl M.sort (by omega) (by omega) (by omega) M.p0 M.p1 M.p2 M.p3 M.b M.pv M.ne hdp hu ?_
    intro sa' va' svs' vvs' na nv h' tk' F' N' hs' hv' hap
    have hk1 := hap c.dk c.od (Nb0 (c.dk, c.od) (by k_mem)).1 d2 b2 s2 v2 ax2 ad2 am2
    have hk2 := hap c.ll c.oll (Nb0 (c.ll, c.oll) (by k_mem)).1 d3 b3 s3 v3 ax3 ad3 am3
    have hk3 := hap c.cc c.oc (Nb0 (c.cc, c.oc) (by k_mem)).1 d4 b4 s4 v4 ax4 ad4 am4
    have hk0 := hap c.df c.odf (Nb0 (c.df, c.odf) (by k_mem)).1 d1 b1 s1 v1 ax1 ad1 am1
    refine hret _ h' tk' F' ?_ ⟨rm, rd, sa', va', om, t5, t6, t7, t8, na, nv, svs', vvs', rfl, hom, f1, f2, by rw [mapS_1]; exact hs', by rw [mapS_2]; exact hv', ⟨b1, b2, b3, b4⟩, ⟨d1, d2, d3, d4⟩, ⟨hk0.1, hk1.1, hk2.1, hk3.1⟩, ⟨hk0.2, hk1.2, hk2.2, hk3.2⟩⟩
    exact news_sub N' (by kcf_all)
theorem data_end {prog : Program} {w : World} {c : DFix} {nw : List (Addr × Obj)} (C : DFixOk prog w c) (J : DataSt prog w c 15 nw) : ∃ q svs vvs dl, nw = dl ++ rest3 c ∧ (∀ p ∈ dataL w q svs vvs, p ∈ dl) ∧ DOk prog w q ∧ q.d = c.x ∧ IntsAre svs (mapS 15).1 ∧ StrsAre vvs (mapS 15).2 ∧ (∀ p ∈ dl, @Ne Nat p.1 c.dk ∧ @Ne Nat p.1 c.ll) ∧ (∀ p ∈ dl, @Ne Nat p.1 c.cc) := by
  obtain ⟨rm, rd, sa, va, om, t5, t6, t7, t8, n3, n4, svs, vvs, rfl, hom, f1, f2, hs, hv, ⟨b1, b2, b3, b4⟩, ⟨d1, d2, d3, d4⟩, ⟨s1, s2, s3, s4⟩, ⟨v1, v2, v3, v4⟩⟩ := J
  obtain ⟨m1, m2, m3, m4, m5, m6, m7, m8, m9⟩ := C
  obtain ⟨am1, am2, am3, am4⟩ := m6
  obtain ⟨ax1, ax2, ax3, ax4⟩ := m7
  obtain ⟨ad1, ad2, ad3, ad4⟩ := m8
  refine ⟨qOf c rm rd sa va om t5 t6 t7 t8 n3 n4, svs, vvs, dataL w (qOf c rm rd sa va om t5 t6 t7 t8 n3 n4) svs vvs, rfl, fun _ h => h, ⟨hom, m1⟩, rfl, hs, hv, ?_, ?_⟩
  rotate_left
  · exact List.forall_mem_cons.mpr ⟨Ne.symm ax4, List.forall_mem_cons.mpr ⟨Ne.symm ad4, List.forall_mem_cons.mpr ⟨Ne.symm am4, List.forall_mem_cons.mpr ⟨Ne.symm b4, List.forall_mem_cons.mpr ⟨Ne.symm d4, List.forall_mem_cons.mpr ⟨Ne.symm s4, List.forall_mem_cons.mpr ⟨Ne.symm v4, fun _ h => nomatch h⟩⟩⟩⟩⟩⟩⟩
  exact List.forall_mem_cons.mpr ⟨⟨Ne.symm ax2, Ne.symm ax3⟩, List.forall_mem_cons.mpr ⟨⟨Ne.symm ad2, Ne.symm ad3⟩, List.forall_mem_cons.mpr ⟨⟨Ne.symm am2, Ne.symm am3⟩, List.forall_mem_cons.mpr ⟨⟨Ne.symm b2, Ne.symm b3⟩, List.forall_mem_cons.mpr ⟨⟨Ne.symm d2, Ne.symm d3⟩, List.forall_mem_cons.mpr ⟨⟨Ne.symm s2, Ne.symm s3⟩, List.forall_mem_cons.mpr ⟨⟨Ne.symm v2, Ne.symm v3⟩, fun _ h => nomatch h⟩⟩⟩⟩⟩⟩⟩
theorem news_flip {h₀ h : Heap} {L : Addr} {a b : List (Addr × Obj)} (N : News h₀ L h (a ++ b)) : News h₀ L h (b ++ a) := fun p hp => N p ((List.mem_append.mp hp).elim (fun h => List.mem_append_right _ h) fun h => List.mem_append_left _ h)
theorem allLt_ne {d : Addr} : ∀ {l : List (Addr × Obj)}, AllLt d l → ∀ p ∈ l, @LT.lt Nat _ p.1 d := by
  intro l h p hp
  induction l with
  | nil => cases hp
  | cons q r ih =>
    have h' : @LT.lt Nat _ q.1 d ∧ AllLt d r := h
    cases hp with
    | head => exact h'.1
    | tail _ hp => exact ih h'.2 hp
theorem lt_dl {d : Addr} {a b : Addr × Obj} {dl : List (Addr × Obj)} (h : ∀ p ∈ a :: b :: dl, p.1 < d) : ∀ p ∈ dl, @LT.lt Nat _ p.1 d := fun p hp => h p (.tail _ (.tail _ hp))
theorem lt_ne {d : Addr} {dl : List (Addr × Obj)} (h : ∀ p ∈ dl, @LT.lt Nat _ p.1 d) : ∀ p ∈ dl, @Ne Nat p.1 d := fun p hp => Nat.ne_of_lt (h p hp)
theorem text_rest {dl : List (Addr × Obj)} {cc dk ll : Addr} {oc : Obj} {big : List (Addr × Obj)} (hc : (cc, oc) ∈ big) (h1 : @Ne Nat cc dk) (h2 : @Ne Nat cc ll) (hb : ∀ p ∈ dl, p ∈ big) (h : ∀ p ∈ dl, @Ne Nat p.1 dk ∧ @Ne Nat p.1 ll) : ∀ p ∈ (cc, oc) :: dl, p ∈ big ∧ @Ne Nat p.1 dk ∧ @Ne Nat p.1 ll :=
  List.forall_mem_cons.mpr ⟨⟨hc, h1, h2⟩, fun p hp => ⟨hb p hp, h p hp⟩⟩
theorem C_text2 {w : World} {mean : ExcName → Option Value} {mg mb : Str → Option Value} {dp un : Nat} {gd : Option (List Code)} {cn : Str} {cs : Scope} {a : Addr} {ccd : Value} {cl : List (Str × Addr)} {outer : List Env} {A₀ : Around} {base h₀ : Heap} {L : Addr} {m : Str → Option Value} {s : Shared} {Q E : Value → Shared → Prop} (B : Below A₀ base outer h₀) (F : Fr h₀ L s.heap m) (X : (hd.heap_1 w.params).In h₀) (T : (Top view9 (looseW view9 []) mean mg mb h₀)) (hk : cs.kind = .function) {dk ll cc : Addr} {od oc : Obj} {lvs : List Value} {lns : List Int} {mx : Int} {mt : Tok} {ln : Nat} {big dl : List (Addr × Obj)}
    (ok : DeckOk PySem.Challenge.rw_on0369_01.row.prog w dk ll od lvs lns mx mt)
    (Nb : News h₀ L s.heap big) (hdk : (dk, od) ∈ big) (hll : (ll, listOf lvs.toArray ln) ∈ big) (hc : (cc, oc) ∈ big) (hcd : @Ne Nat cc dk) (hcl : @Ne Nat cc ll) (hb : ∀ p ∈ dl, p ∈ big) (hd : ∀ p ∈ dl, @Ne Nat p.1 dk ∧ @Ne Nat p.1 ll) (sy : (dk == sysModules) = false) (hne : @Ne Nat dk ll)
    (hdp : dp + 8 < recursionLimit) (hu : un + 300 < cLine)
    (hret : ∀ f vs ks k h' tk', Fr h₀ L h' m → News h₀ L h' ((f, listOf vs.toArray k) :: (cc, oc) :: dl) → s.heap.get? f = none → StrsAre vs ks → (∀ x ∈ ks, x ∈ kindsL) → ks.length ≤ 10 → Q (.ref f) { s with heap := h', toks := tk' }) :
    wpAny (model PySem.Challenge.rw_on0369_01.row.prog w) (ktrTop dp un gd cn cs L a ccd cl outer) (call (.ref 212) [.ref dk]) Q E s :=
  C_text B F X T hk Nb hdk hll (text_rest hc hcd hcl hb hd) ok sy hne hdp hu hret
theorem old_lt {prog : Program} {w : World} {c : DFix} {i : Nat} {nw : List (Addr × Obj)} {I : Addr} (_ : DataSt prog w c i nw) (h : ∀ p ∈ rest3 c, @LT.lt Nat _ p.1 I) : ∀ p ∈ rest3 c, @LT.lt Nat _ p.1 I := h
theorem data_old {prog : Program} {w : World} {c : DFix} {i : Nat} {nw : List (Addr × Obj)} {I : Addr} {o1 o2 : Obj} (J : DataSt prog w c i nw) (h : ∀ p ∈ rest3 c, @LT.lt Nat _ p.1 I) : ∀ p ∈ nw, itCls p.2.cls = false ∨ ∀ q ∈ [(I + 1, o1), (I, o2)], p.1 ≠ q.1 := by
  have old : ∀ p ∈ rest3 c, itCls p.2.cls = false ∨ ∀ q ∈ [(I + 1, o1), (I, o2)], p.1 ≠ q.1 := by
    intro p hp
    right
    have h1 := h p hp
    have n1 : @Ne Nat p.1 (I + 1) := Nat.ne_of_lt (Nat.lt_succ_of_lt h1)
    have n2 : @Ne Nat p.1 I := Nat.ne_of_lt h1
    intro q hq
    rcases List.mem_cons.mp hq with rfl | hq
    · exact n1
    · rw [List.mem_singleton.mp hq]; exact n2
  cases i with
  | zero =>
    obtain ⟨om, hom, rfl⟩ := J
    refine List.forall_mem_cons.mpr ⟨.inl rfl, List.forall_mem_cons.mpr ⟨.inl rfl, List.forall_mem_cons.mpr ⟨.inl ?_, old⟩⟩⟩
    rw [dict_cls hom]; rfl
  | succ i =>
    obtain ⟨rm, rd, sa, va, om, t5, t6, t7, t8, n3, n4, svs, vvs, rfl, hom, _⟩ := J
    have own : ∀ p ∈ dataL w (qOf c rm rd sa va om t5 t6 t7 t8 n3 n4) svs vvs, itCls p.2.cls = false ∨ ∀ q ∈ [(I + 1, o1), (I, o2)], p.1 ≠ q.1 := by
      refine List.forall_mem_cons.mpr ⟨.inl rfl, List.forall_mem_cons.mpr ⟨.inl rfl, List.forall_mem_cons.mpr ⟨.inl ?_, List.forall_mem_cons.mpr ⟨.inl rfl, List.forall_mem_cons.mpr ⟨.inl rfl, List.forall_mem_cons.mpr ⟨.inl rfl, List.forall_mem_cons.mpr ⟨.inl rfl, fun _ h => nomatch h⟩⟩⟩⟩⟩⟩⟩
      show itCls om.cls = false
      rw [dict_cls hom]; rfl
    intro p hp
    rcases List.mem_append.mp hp with hp | hp
    · exact own p hp
    · exact old p hp
section
variable {prog : Program} {w : World} {A : Around} {E : Value → Shared → Prop} {s : Shared} {env : Env} {h₀ : Heap} {body : List Stmt} {Q : Flow → Shared → Prop}
theorem first_loop {elts : List Expr} {k : Nat} {pos : Pos} {l : Addr} {its : Array Value} {m₀ : Str → Option Value} (st : List Str) {D x dd mp df pr wd dk ll cc : Addr} {oD ow op om odf od oll oc : Obj} {t0 t1 t2 t3 : Tok} {n0 nf : Nat}
    (hh : A.handled = none) (F : Fr h₀ env.locals s.heap m₀)
    (N : News h₀ env.locals s.heap [(D, oD), (wd, ow), (pr, op), (mp, om), (df, odf), (x, instObj 188 dd), (dd, ddObj w ⟨x, dd, mp, df, pr, wd, dk, ll, cc, od, odf, oll, oc, t0, t1, t2, t3, n0, nf⟩), (dk, od), (ll, oll), (cc, oc)])
    (hom : om.IsDictOf (PySem.strKind prog w) []) (hl : s.heap.IsTuple l its) (hk : ∃ o, h₀.get? l = some o)
    (turn : ∀ (I i : Nat) v T t u news₁ h₁ tk₁ o1 o2, s.heap.objs.size ≤ I → its[i]? = some v → IsTup h₁ T #[.int (i : Int) t, v] → DataSt prog w ⟨x, dd, mp, df, pr, wd, dk, ll, cc, od, odf, oll, oc, t0, t1, t2, t3, n0, nf⟩ i news₁ → o1.cls = .type "enumerate" → o2.cls = .type "tuple_iterator" → Fr h₀ env.locals h₁ (over st u m₀) → News h₀ env.locals h₁ ((I + 1, o1) :: (I, o2) :: news₁) →
      wpAny (model prog w) A (assign (.Tuple elts k pos) env (.ref T)) (fun _ s₃ => wpAny (model prog w) A (execs body env) (TurnPost h₀ env.locals [(I + 1, o1), (I, o2)] (fun m' n' => (∀ y, st.contains y = false → m' y = m₀ y) ∧ DataSt prog w ⟨x, dd, mp, df, pr, wd, dk, ll, cc, od, odf, oll, oc, t0, t1, t2, t3, n0, nf⟩ (i + 1) n') { s with heap := h₁, toks := tk₁ } Q) E s₃) E { s with heap := h₁, toks := tk₁ })
    (done : ∀ u news₁ h tk, DataSt prog w ⟨x, dd, mp, df, pr, wd, dk, ll, cc, od, odf, oll, oc, t0, t1, t2, t3, n0, nf⟩ its.size news₁ → Fr h₀ env.locals h (over st u m₀) → News h₀ env.locals h news₁ → Q .next { s with heap := h, toks := tk }) :
    wpAny (model prog w) A (call (.type "enumerate") [.ref l]) (fun xv s₁ => wpAny (model prog w) A (pyIter xv) (fun it s₂ => TurnsAt prog w A h₀ env (.Tuple elts k pos) body Q E it s₂) E s₁) E s :=
  enumT st (fun i nw => DataSt prog w ⟨x, dd, mp, df, pr, wd, dk, ll, cc, od, odf, oll, oc, t0, t1, t2, t3, n0, nf⟩ i nw) hh F (news_sub N (l := (x, instObj 188 dd) :: (dd, ddObj w ⟨x, dd, mp, df, pr, wd, dk, ll, cc, od, odf, oll, oc, t0, t1, t2, t3, n0, nf⟩) :: (mp, om) :: rest3 ⟨x, dd, mp, df, pr, wd, dk, ll, cc, od, odf, oll, oc, t0, t1, t2, t3, n0, nf⟩) (by kcf_all)) hl hk ⟨om, hom, rfl⟩ turn done
end
end V19part
section V20part
set_option linter.unusedVariables false
theorem tup_offF {h₀ h : Heap} {L f : Addr} {tl all : List (Addr × Obj)} {o : Obj} (ht : TupAll tl) (N : News h₀ L h all) (hf : (f, o) ∈ all) (htl : ∀ p ∈ tl, p ∈ all) (ho : tupCls o.cls = false) : ∀ p ∈ tl, @Ne Nat p.1 f := tup_off N hf htl ht ho
/-! ## the law's loop over the text -/
def tS : Str := Str.ofString "told"
abbrev ledL (dl : List (Addr × Obj)) (kl cc x dx : Addr) (okl oc : Obj) (es : List DictEntry) : List (Addr × Obj) := (kl, okl) :: (cc, oc) :: (x, instObj 76 dx) :: (dx, dictOf es 8) :: dl
def LoopSt (w : World) (q : DA) (dl : List (Addr × Obj)) (kl cc x dx : Addr) (okl oc : Obj) (ks : List Str) (mB : Str → Option Value) (i : Nat) (m₁ : Str → Option Value) (n₁ : List (Addr × Obj)) : Prop :=
  ∃ (c : St) (es : List DictEntry) (t : Nat) (tk : Tok) (u : Str → Option Value), n₁ = ledL dl kl cc x dx okl oc es ∧ SIs w q.d c es ∧ Inv (ks.take i) c t ∧ m₁ = fun z => if z = Str.ofString "told" then some (.int (t : Int) tk) else over [Str.ofString "at", Str.ofString "kind", Str.ofString "due"] u mB z
theorem over3 {m' mB : Str → Option Value} {v : Option Value} (hy : m' (Str.ofString "told") = v) (hs : ∀ y, [Str.ofString "at", Str.ofString "kind", Str.ofString "due", Str.ofString "told"].contains y = false → m' y = mB y) : m' = fun z => if z = Str.ofString "told" then v else over [Str.ofString "at", Str.ofString "kind", Str.ofString "due"] m' mB z := by
  funext z
  by_cases h : z = Str.ofString "told"
  · rw [if_pos h, h, hy]
  · rw [if_neg h]
    unfold over
    by_cases h2 : [Str.ofString "at", Str.ofString "kind", Str.ofString "due"].contains z = true
    · rw [if_pos h2]
    · rw [if_neg h2]
      refine hs z ?_
      simp only [List.contains_cons, List.contains_nil, Bool.or_false, Bool.or_eq_true, not_or, Bool.not_eq_true] at h2 ⊢
      rw [h2.1, h2.2.1, h2.2.2]
      simpa using h
theorem led_old {dl : List (Addr × Obj)} {kl cc x dx I : Addr} {okl oc : Obj} {es : List DictEntry} {o1 o2 : Obj} (h1 : itCls okl.cls = false) (h2 : @LT.lt Nat _ cc I) (h3 : ∀ p ∈ dl, @LT.lt Nat _ p.1 I) : ∀ p ∈ ledL dl kl cc x dx okl oc es, itCls p.2.cls = false ∨ ∀ r ∈ [(I + 1, o1), (I, o2)], p.1 ≠ r.1 := by
  have lt : ∀ p : Addr × Obj, @LT.lt Nat _ p.1 I → itCls p.2.cls = false ∨ ∀ r ∈ [(I + 1, o1), (I, o2)], p.1 ≠ r.1 := by
    intro p h
    right
    have n1 : @Ne Nat p.1 (I + 1) := Nat.ne_of_lt (Nat.lt_succ_of_lt h)
    have n2 : @Ne Nat p.1 I := Nat.ne_of_lt h
    intro r hr
    rcases List.mem_cons.mp hr with rfl | hr
    · exact n1
    · rw [List.mem_singleton.mp hr]; exact n2
  exact List.forall_mem_cons.mpr ⟨.inl h1, List.forall_mem_cons.mpr ⟨lt _ h2, List.forall_mem_cons.mpr ⟨.inl rfl, List.forall_mem_cons.mpr ⟨.inl rfl, fun p hp => lt p (h3 p hp)⟩⟩⟩⟩
theorem facts_of {h₀ h : Heap} {L : Addr} {dl : List (Addr × Obj)} {kl cc x dx I : Addr} {okl oc o1 o2 : Obj} {es : List DictEntry} (_ : News h₀ L h ((I + 1, o1) :: (I, o2) :: ledL dl kl cc x dx okl oc es)) (hxI : @LT.lt Nat _ x I) (h1 : @LT.lt Nat _ dx x) (h2 : @LT.lt Nat _ kl dx) (h3 : @LT.lt Nat _ cc dx) (h4 : ∀ p ∈ dl, @LT.lt Nat _ p.1 dx) :
    (@LT.lt Nat _ dx x ∧ (∀ p ∈ dl, @LT.lt Nat _ p.1 dx) ∧ @LT.lt Nat _ cc I ∧ (∀ p ∈ dl, @LT.lt Nat _ p.1 I)) ∧ @Ne Nat (I + 1) dx ∧ @Ne Nat I dx ∧ @Ne Nat kl dx ∧ @Ne Nat cc dx ∧ @Ne Nat x dx ∧ (∀ p ∈ dl, @Ne Nat p.1 dx) := by
  have hdI : @LT.lt Nat _ dx I := Nat.lt_trans h1 hxI
  exact ⟨⟨h1, h4, Nat.lt_trans h3 hdI, fun p hp => Nat.lt_trans (h4 p hp) hdI⟩, Nat.ne_of_gt (Nat.lt_succ_of_lt hdI), Nat.ne_of_gt hdI, Nat.ne_of_lt h2, Nat.ne_of_lt h3, Nat.ne_of_gt h1, lt_ne h4⟩
theorem facts_at {h₀ h : Heap} {L : Addr} {dl : List (Addr × Obj)} {kl cc x dx : Addr} {okl oc : Obj} {es : List DictEntry} (_ : News h₀ L h (ledL dl kl cc x dx okl oc es)) (h1 : @LT.lt Nat _ dx x) (h2 : @LT.lt Nat _ kl dx) (h3 : @LT.lt Nat _ cc dx) (h4 : ∀ p ∈ dl, @LT.lt Nat _ p.1 dx) :
    @LT.lt Nat _ dx x ∧ @Ne Nat kl dx ∧ @Ne Nat cc dx ∧ @Ne Nat x dx ∧ (∀ p ∈ dl, @Ne Nat p.1 dx) := ⟨h1, Nat.ne_of_lt h2, Nat.ne_of_lt h3, Nat.ne_of_gt h1, lt_ne h4⟩
theorem loop_end {w : World} {h₀ h' : Heap} {L : Addr} {q : DA} {dl : List (Addr × Obj)} {kl cc x dx I : Addr} {okl oc o1 o2 : Obj} {es : List DictEntry} {ks : List Str} {mB m' : Str → Option Value} {i t n : Nat} {c c' : St} {k : Str} {tk : Tok} {tk' : Nat} {all : List (Addr × Obj)} {s₁ : Shared}
    (F : Fr h₀ L h' m') (N : News h₀ L h' all) (hi : ∀ p ∈ [(I + 1, o1), (I, o2)], p ∈ all) (hn : ∀ p ∈ ledL dl kl cc x dx okl oc es, p ∈ all) (h1 : itCls okl.cls = false) (h2 : @LT.lt Nat _ cc I) (h3 : ∀ p ∈ dl, @LT.lt Nat _ p.1 I)
    (S : SIs w q.d c' es) (T : Turn (ks.take i) k c t n) (hk : ks[i]? = some k) (hc : c' = (putS c k).2) (ht : m' (Str.ofString "told") = some (.int ((t + n : Nat) : Int) tk)) (hs : ∀ y, [Str.ofString "at", Str.ofString "kind", Str.ofString "due", Str.ofString "told"].contains y = false → m' y = mB y) :
    TurnEnd h₀ L [(I + 1, o1), (I, o2)] (LoopSt w q dl kl cc x dx okl oc ks mB (i + 1)) s₁ { s₁ with heap := h', toks := tk' } := by
  subst hc
  refine TurnEnd.intro2 _ F N hi hn (led_old h1 h2 h3) ⟨_, es, t + n, tk, m', rfl, S, ?_, over3 ht hs⟩
  rw [List.take_add_one, hk]
  exact T.inv
section
variable {prog : Program} {w : World} {A : Around} {E : Value → Shared → Prop} {s : Shared} {env : Env} {h₀ : Heap} {body : List Stmt} {Q : Flow → Shared → Prop}
theorem second_loop {elts : List Expr} {k : Nat} {pos : Pos} {kl cc x dx : Addr} {vs : List Value} {nn : Nat} {oc : Obj} {q : DA} {dl : List (Addr × Obj)} {es0 : List DictEntry} {ks : List Str} {m₀ : Str → Option Value} {t0 : Tok} {big : List (Addr × Obj)}
    (hh : A.handled = none) (F : Fr h₀ env.locals s.heap m₀) (N : News h₀ env.locals s.heap big) (hkl : (kl, listOf vs.toArray nn) ∈ big) (hcc : (cc, oc) ∈ big) (hx : (x, instObj 76 dx) ∈ big) (hdx : (dx, dictOf es0 8) ∈ big) (hd : ∀ p ∈ dl, p ∈ big) (S0 : SIs w q.d initS es0) (hv : StrsAre vs ks) (ht : m₀ (Str.ofString "told") = some (.int 0 t0))
    (turn : ∀ (I i : Nat) kd kt T t u c es (told : Nat) tk h₁ tk₁ o1 o2, s.heap.objs.size ≤ I → ks[i]? = some kd → IsTup h₁ T #[.int (i : Int) t, .str kd kt] → SIs w q.d c es → Inv (ks.take i) c told → o1.cls = .type "enumerate" → o2.cls = .type "list_iterator" →
      Fr h₀ env.locals h₁ (fun z => if z = Str.ofString "told" then some (.int (told : Int) tk) else over [Str.ofString "at", Str.ofString "kind", Str.ofString "due"] u m₀ z) → News h₀ env.locals h₁ ((I + 1, o1) :: (I, o2) :: ledL dl kl cc x dx (listOf vs.toArray nn) oc es) →
      wpAny (model prog w) A (assign (.Tuple elts k pos) env (.ref T)) (fun _ s₃ => wpAny (model prog w) A (execs body env) (TurnPost h₀ env.locals [(I + 1, o1), (I, o2)] (LoopSt w q dl kl cc x dx (listOf vs.toArray nn) oc ks m₀ (i + 1)) { s with heap := h₁, toks := tk₁ } Q) E s₃) E { s with heap := h₁, toks := tk₁ })
    (done : ∀ u c es (told : Nat) tk h tk₁, SIs w q.d c es → Inv ks c told → Fr h₀ env.locals h (fun z => if z = Str.ofString "told" then some (.int (told : Int) tk) else over [Str.ofString "at", Str.ofString "kind", Str.ofString "due"] u m₀ z) → News h₀ env.locals h (ledL dl kl cc x dx (listOf vs.toArray nn) oc es) → Q .next { s with heap := h, toks := tk₁ }) :
    wpAny (model prog w) A (call (.type "enumerate") [.ref kl]) (fun xv s₁ => wpAny (model prog w) A (pyIter xv) (fun it s₂ => TurnsAt prog w A h₀ env (.Tuple elts k pos) body Q E it s₂) E s₁) E s := by
  have hb : ∀ p ∈ ledL dl kl cc x dx (listOf vs.toArray nn) oc es0, p ∈ big := List.forall_mem_cons.mpr ⟨hkl, List.forall_mem_cons.mpr ⟨hcc, List.forall_mem_cons.mpr ⟨hx, List.forall_mem_cons.mpr ⟨hdx, hd⟩⟩⟩⟩
  refine enumM (vs := vs) (nn := nn) (LoopSt w q dl kl cc x dx (listOf vs.toArray nn) oc ks m₀) hh F (news_sub N hb) (.head _) ?_ ?_ ?_ ?_
  · rintro i m₁ n₁ ⟨c, es, t, tk, u, rfl, _⟩
    exact .head _
  · refine ⟨initS, es0, 0, t0, m₀, rfl, S0, ?_, ?_⟩
    · rw [List.take_zero]; exact inv_nil
    · funext z
      by_cases h : z = Str.ofString "told"
      · rw [if_pos h, h]; exact ht
      · rw [if_neg h, over_refl]
  · rintro I i v T t m₁ n₁ h₁ tk₁ o1 o2 hI hvi hT ⟨c, es, told, tk, u, rfl, S, hInv, rfl⟩ c1 c2 F₁ N₁
    obtain ⟨kd, kt, hki, rfl⟩ := strs_get hv hvi
    exact turn I i kd kt T t u c es told tk h₁ tk₁ o1 o2 hI hki hT S hInv c1 c2 F₁ N₁
  · rintro m₁ n₁ h tk₁ ⟨c, es, told, tk, u, rfl, S, hInv, rfl⟩ F₁ N₁
    refine done u c es told tk h tk₁ S ?_ F₁ N₁
    have e : ks.take vs.length = ks := by rw [strs_length hv]; exact List.take_length ..
    rw [← e]; exact hInv
end
theorem ne_rows_same {prog : Program} {w : World} {A : Around} {E : Value → Shared → Prop} {s : Shared} {h₀ : Heap} {L a b : Addr} {news tl tl' : List (Addr × Obj)} {vs us : List Value} {r r' : List (Int × Bool)} {n n' : Nat} {Q : Value → Shared → Prop}
    (N : News h₀ L s.heap news) (ha : (a, listOf vs.toArray n) ∈ news) (hv : RowsIn tl vs r) (hs : ∀ p ∈ tl, p ∈ news) (hb : (b, listOf us.toArray n') ∈ news) (hu : RowsIn tl' us r') (hs' : ∀ p ∈ tl', p ∈ news)
    (hun : A.units + 64 < cLine) (e : r = r') (h : Q (.bool false) s) : wpAny (model prog w) A (compareOp .NotEq (.ref a) (.ref b)) Q E s :=
  ne_rowsK N ha hv hs hb hu hs' hun (by rw [decide_eq_true e]; exact h)
theorem eq_rows_same {prog : Program} {w : World} {A : Around} {E : Value → Shared → Prop} {s : Shared} {h₀ : Heap} {L a b : Addr} {news tl tl' : List (Addr × Obj)} {vs us : List Value} {r r' : List (Int × Bool)} {n n' : Nat} {Q : Value → Shared → Prop}
    (N : News h₀ L s.heap news) (ha : (a, listOf vs.toArray n) ∈ news) (hv : RowsIn tl vs r) (hs : ∀ p ∈ tl, p ∈ news) (hb : (b, listOf us.toArray n') ∈ news) (hu : RowsIn tl' us r') (hs' : ∀ p ∈ tl', p ∈ news)
    (hun : A.units + 64 < cLine) (e : r = r') (h : Q (.bool true) s) : wpAny (model prog w) A (compareOp .Eq (.ref a) (.ref b)) Q E s :=
  eq_rowsK N ha hv hs hb hu hs' hun (by rw [decide_eq_true e]; exact h)
theorem ne_nil_yes {prog : Program} {w : World} {A : Around} {E : Value → Shared → Prop} {s : Shared} {h₀ : Heap} {L a b : Addr} {news : List (Addr × Obj)} {vs : List Value} {ks : List Str} {n n' : Nat} {Q : Value → Shared → Prop} (N : News h₀ L s.heap news) (ha : (a, listOf vs.toArray n) ∈ news) (hv : StrsAre vs ks) (hok : ∀ k ∈ ks, PyData.strOk k = true) (hb : (b, listOf ([] : List Value).toArray n') ∈ news)
    (hun : A.units + 64 < cLine) (e : ks ≠ []) (h : Q (.bool true) s) : wpAny (model prog w) A (compareOp .NotEq (.ref a) (.ref b)) Q E s :=
  ne_nilStrs N ha hv hok hb hun (by rw [decide_eq_false e]; exact h)
theorem ne_nil_no {prog : Program} {w : World} {A : Around} {E : Value → Shared → Prop} {s : Shared} {h₀ : Heap} {L a b : Addr} {news : List (Addr × Obj)} {vs : List Value} {ks : List Str} {n n' : Nat} {Q : Value → Shared → Prop} (N : News h₀ L s.heap news) (ha : (a, listOf vs.toArray n) ∈ news) (hv : StrsAre vs ks) (hok : ∀ k ∈ ks, PyData.strOk k = true) (hb : (b, listOf ([] : List Value).toArray n') ∈ news)
    (hun : A.units + 64 < cLine) (e : ks = []) (h : Q (.bool false) s) : wpAny (model prog w) A (compareOp .NotEq (.ref a) (.ref b)) Q E s :=
  ne_nilStrs N ha hv hok hb hun (by rw [decide_eq_true e]; exact h)
theorem rows_toList {tl : List (Addr × Obj)} {us : List Value} {r : List (Int × Bool)} (h : RowsIn tl us r) : RowsIn tl us.toArray.toList r := by simpa using h
theorem due_is {ks : List Str} {c : St} {k : Str} {t n i : Nat} (T : Turn (ks.take i) k c t n) (e : ks.take (i + 1) = ks.take i ++ [k]) : (putS c k).1 = (List.range (t + n - t)).map fun j => dueRow (ks.take (i + 1)) (t + j) := by
  rw [T.out, ← e, Nat.add_sub_cancel_left]; rfl
theorem same4 {y : Str} (hy : [Str.ofString "at", Str.ofString "kind", Str.ofString "due", Str.ofString "told"].contains y = false) :
    ¬ y = Str.ofString "at" ∧ ¬ y = Str.ofString "kind" ∧ ¬ y = Str.ofString "due" ∧ ¬ y = Str.ofString "told" ∧ [Str.ofString "at", Str.ofString "kind", Str.ofString "due"].contains y = false := by
  simp only [List.contains_cons, List.contains_nil, Bool.or_false, Bool.or_eq_false_iff, beq_eq_false_iff_ne, ne_eq] at hy
  obtain ⟨e1, e2, e3, e4⟩ := hy
  refine ⟨e1, e2, e3, e4, ?_⟩
  simp only [List.contains_cons, List.contains_nil, Bool.or_false, Bool.or_eq_false_iff, beq_eq_false_iff_ne, ne_eq]
  exact ⟨e1, e2, e3⟩
/-! ## the while's test and the pair of a turn -/
theorem test_no {ks : List Str} {t i : Nat} (h : ¬ (t : Int) ≤ (i : Int)) : false = (decide (t < i + 1) && sure1 ks t) := by
  have : ¬ t < i + 1 := by omega
  simp [this]
theorem test_zero {ks : List Str} {t i : Nat} (h : (t : Int) = 0) : true = (decide (t < i + 1) && sure1 ks t) := by
  obtain rfl : t = 0 := by omega
  simp [sure1_zero]
theorem test_sure {ks : List Str} {t i : Nat} (h : (t : Int) ≤ (i : Int)) (h2 : ¬ (t : Int) = 0) : sureS (pickS ks none (some ((i : Int) + 1))) t = (decide (t < i + 1) && sure1 (ks.take (i + 1)) t) := by
  have h3 : t < i + 1 := by omega
  have h4 : t ≠ 0 := by omega
  rw [pick_cut, sure1_pos h4]
  simp [h3]
theorem test_yes {ks : List Str} {t i : Nat} {b : Bool} (h : (t : Int) ≤ (i : Int)) (h2 : ¬ (t : Int) = 0) (h3 : sureS (pickS ks none (some ((i : Int) + 1))) t = b) : b = (decide (t < i + 1) && sure1 (ks.take (i + 1)) t) := h3 ▸ test_sure h h2
theorem row_zero {ks : List Str} {t : Nat} {b : Bool} (h : (t : Int) = 0) (hb : b = true) : dueRow ks t = ((t : Int), b) := by
  subst hb
  obtain rfl : t = 0 := by omega
  simp [dueRow]
theorem row_break {ks : List Str} {t i : Nat} (h : ¬ (t : Int) = 0) : dueRow (ks.take (i + 1)) t = ((t : Int), isBreakS (pickS ks none (some ((i : Int) + 1))) t) := by
  have h4 : t ≠ 0 := by omega
  rw [pick_cut]
  simp [dueRow, h4]
theorem end_is {ks : List Str} {p : Nat} {b : Bool} (h : (p : Int) = (ks.length : Int)) (hb : b = true) : endRow ks p = ((p : Int), b) := by
  subst hb
  have : p = ks.length := by omega
  simp [endRow, this]
theorem end_break {ks : List Str} {p : Nat} (h : ¬ (p : Int) = (ks.length : Int)) : endRow ks p = ((p : Int), isBreakS ks p) := by
  have : ¬ p = ks.length := by omega
  simp [endRow, this]
theorem endS_rows (ks : List Str) (t n : Nat) : endS ks t n = rowsF t (fun p => (endRow ks p).2) n := rfl
theorem off1_ne {D : Addr} {l : List (Addr × Obj)} {p : Addr × Obj} (h : LCg.Off1 D l) (hp : p ∈ l) : @Ne Nat D p.1 := by
  induction l with
  | nil => cases hp
  | cons q r ih =>
    have h1 : (@Ne Nat q.1 D) ∧ LCg.Off1 D r := h
    cases hp with
    | head => exact Ne.symm h1.1
    | tail _ hp => exact ih h1.2 hp
theorem nw_eq {news tl : List (Addr × Obj)} {T : Addr} {p : Int} {tk : Tok} {b b' : Bool} {n : Nat} (e : b' = b) : news ++ (tl ++ [(T, tup2 p tk b n)]) = news ++ (tl ++ [(T, tup2 p tk b' n)]) := by rw [e]
theorem fin_is {ks : List Str} {c : St} {t n : Nat} (I : Inv ks c t) (hne : ks ≠ []) (hn : n = ks.length + 1 - t) : finishS c = rowsF t (fun p => (endRow ks p).2) n := by
  rw [finish_law I hne, hn, endS_rows]
theorem fin_nil {ks : List Str} {c : St} {t : Nat} (I : Inv ks c t) (h : ks = []) : finishS c = [] := by
  subst h; exact finish_nil I
theorem inv_zero {ks : List Str} {c : St} {t : Nat} (I : Inv ks c t) : 0 < t ∨ ks.length = 0 := by
  by_cases h : ks = []
  · right; simp [h]
  · left; exact inv_pos I h
theorem idx_place (k : Str) (h : k ∈ kindsL) : 0 ≤ placeS (mapS 15).1 (200 + ((kindsL.idxOf k : Nat) : Int)) ∧ placeS (mapS 15).1 (200 + ((kindsL.idxOf k : Nat) : Int)) < 1000 ∧ (mapS 15).2[(placeS (mapS 15).1 (200 + ((kindsL.idxOf k : Nat) : Int))).toNat]? = some k := map_end k h
theorem inv_facts {ks : List Str} {c : St} {t : Nat} (I : Inv ks c t) (h : ks.length ≤ 10) : c.pos < 900 ∧ 0 ≤ c.pos ∧ c.held < 900 ∧ -1 ≤ c.held := by
  have hp := I.sound.pos
  rcases I.st with ⟨h1, _⟩ | H
  · omega
  · have h1 := H.held
    have h2 := H.lt
    omega
theorem kinds_ok {ks : List Str} (h : ∀ x ∈ ks, x ∈ kindsL) : ∀ k ∈ ks, PyData.strOk k = true := by
  have all : ∀ k ∈ kindsL, PyData.strOk k = true := by decide +kernel
  exact fun k hk => all k (h k hk)
section
variable {w : World} {A : Around} {E : Value → Shared → Prop} {s : Shared} {h₀ : Heap} {L : Addr} {m : Str → Option Value}
theorem kinds_index {pl : Sem Bool} {Q : Value × List Value → Shared → Prop} (F : Fr h₀ L s.heap m) (X : (hd.heap_1 w.params).In h₀) (h : Q (.builtin "tuple.index", [.ref 193]) s) : wpAny (model PySem.Challenge.rw_on0369_01.row.prog w) A (getMethod (.ref 193) (Str.ofString "index") pl) Q E s := by
  have hg := (X.keeps F.keep) 193 _ (by k_is)
  exact getMethod_builtin ⟨_, hg, rfl⟩ PySem.F.plainAttrs_tuple PySem.F.slot_tuple_index PySem.F.type_tuple_index (fun a e => by cases e; exact ⟨_, hg, rfl⟩) h
theorem call_kinds_index {k : Str} {u : Tok} {Q : Value → Shared → Prop} (F : Fr h₀ L s.heap m) (X : (hd.heap_1 w.params).In h₀) (hk : k ∈ kindsL) (h : Q (.int ((kindsL.idxOf k : Nat) : Int) s.toks) { s with toks := s.toks + 1 }) :
    wpAny (model PySem.Challenge.rw_on0369_01.row.prog w) A (call (.builtin "tuple.index") [.ref 193, .str k u]) Q E s :=
  call_tuple_index (ks := kindsL) ((X.keeps F.keep) 193 _ (by k_is)) (by repeat constructor) hk h
end
end V20part
section V18part
theorem lines28 : True := by
  k_with_none
  (k_with "k_inst" => exact IsInst.at (by assumption) (by k_asm))
  (k_with "compareOp In str ref" => (k_here; (first | (with_reducible refine' in_22 ?Fq601w ?Xq601w ?_) | (with_reducible refine' in_23 ?Fq601w ?Xq601w ?_) | (with_reducible refine' in_24 ?Fq601w ?Xq601w ?_) | (with_reducible refine' in_25 ?Fq601w ?Xq601w ?_) | (with_reducible refine' in_26 ?Fq601w ?Xq601w ?_)); (case Fq601w => k_asm); (case Xq601w => k_asm); k_whole))
  (k_with "compareOp NotIn str ref" => (k_here; (with_reducible refine' notin_22 ?Fq602w ?Xq602w ?_); (case Fq602w => k_asm); (case Xq602w => k_asm); k_whole))
  (k_with "exec For Tuple Call cons nil" => (k_here; (rename Fr _ _ _ _ => lFzz); (with_unfolding_all refine' For_turns lFzz ?_; k_whole)))
  (k_with "call type:enumerate" => (k_here; (with_reducible show wpAny _ _ (call (Value.type _) [Value.ref _]) (fun xv s₁ => wpAny _ _ (pyIter xv) (fun it s₂ => TurnsAt _ _ _ _ _ _ _ _ _ it s₂) _ s₁) _ _); refine halt_ ?_))
  (k_with "TurnPost" => (dsimp only [TurnPost]))
  (k_with "compareOp In str ref" => (k_here; k_dflt (first | (refine' in_made isHang ?Nq606w ?mq606w ?iq606w ?pq606w ?_; (case Nq606w => k_asm); (case mq606w => k_mem); (case iq606w => repeat constructor); (case pq606w => rfl); k_whole) | (refine' in_made isPara ?Nq606w ?mq606w ?iq606w ?pq606w ?_; (case Nq606w => k_asm); (case mq606w => k_mem); (case iq606w => repeat constructor); (case pq606w => rfl); k_whole) | (refine' in_made isLetterS ?Nq606w ?mq606w ?iq606w ?pq606w ?_; (case Nq606w => k_asm); (case mq606w => k_mem); (case iq606w => repeat constructor); (case pq606w => rfl); k_whole) | (refine' in_made isStayS ?Nq606w ?mq606w ?iq606w ?pq606w ?_; (case Nq606w => k_asm); (case mq606w => k_mem); (case iq606w => repeat constructor); (case pq606w => rfl); k_whole))))
  (k_with "compareOp NotIn str ref" => (k_here; k_dflt (first | (refine' notin_made isTerm ?Nq607w ?mq607w ?iq607w ?pq607w ?_; (case Nq607w => k_asm); (case mq607w => k_mem); (case iq607w => repeat constructor); (case pq607w => rfl); k_whole) | (refine' notin_made isPara ?Nq607w ?mq607w ?iq607w ?pq607w ?_; (case Nq607w => k_asm); (case mq607w => k_mem); (case iq607w => repeat constructor); (case pq607w => rfl); k_whole))))
  (k_with "compareOp NotEq ref ref" => (k_here; k_dflt (refine' ne_unitsK ?Nq608w ?aq608w ?uq608w ?sq608w ?bq608w ?oq608w ?rq608w ?_; (case Nq608w => k_asm); (case aq608w => k_mem); (case uq608w => assumption); (case sq608w => kcf_all); (case bq608w => k_mem); (case oq608w => assumption); (case rq608w => ktr_units); k_whole)))
  (k_with "subscriptTail" => (k_here; (with_reducible show wpAny _ _ (subscriptTail _ _ (Value.ref _) (Value.int (-1) _)) _ _ _); k_dflt (refine' item_lastN ?Nq609w ?aq609w ?_ ?hq609w; (case Nq609w => k_asm); (case aq609w => k_mem); (case hq609w => with_unfolding_all rfl); k_whole)))
  (k_with "subscriptTail" => (k_here; (first | ((with_reducible show wpAny _ _ (subscriptTail _ _ (Value.ref _) (Value.int 0 _)) _ _ _); k_dflt (refine' item3_0 ?Nq610w ?aq610w ?sq610w ?_ ?hq610w; (case Nq610w => k_asm); (case aq610w => with_reducible assumption); (case sq610w => kcf_all); (case hq610w => with_unfolding_all rfl); k_whole)) | ((with_reducible show wpAny _ _ (subscriptTail _ _ (Value.ref _) (Value.int 1 _)) _ _ _); k_dflt (refine' item3_1 ?Nq610w ?aq610w ?sq610w ?_ ?hq610w; (case Nq610w => k_asm); (case aq610w => with_reducible assumption); (case sq610w => kcf_all); (case hq610w => with_unfolding_all rfl); k_whole)) | ((with_reducible show wpAny _ _ (subscriptTail _ _ (Value.ref _) (Value.int 2 _)) _ _ _); k_dflt (refine' item3_2 ?Nq610w ?aq610w ?sq610w ?_ ?hq610w; (case Nq610w => k_asm); (case aq610w => with_reducible assumption); (case sq610w => kcf_all); (case hq610w => with_unfolding_all rfl); k_whole)))))
  (k_with "setItem ref int ref" => (k_here; k_dflt (refine' setLast_K ?Fq611w ?Nq611w ?Uq611w ?_; (case Fq611w => k_asm); (case Nq611w => k_asm); (case Uq611w => k_upd); k_whole); intro _ _ _; (try k_sweep)))
  (k_with "k_all" => assumption)
  (k_with "size_fits" => ((rw [PySem.sizeLine_eq]); (simp only [List.size_toArray, List.length_append, List.length_cons, List.length_nil]); omega))
  (k_with "CompSrcT" => (k_here; k_dflt (refine' LCt.CompSrcT.ledger ?hhq614w ?Fq614w ?Nq614w ?mq614w ?zq614w ?_; (case hhq614w => exact rfl); (case Fq614w => k_asm); (case Nq614w => k_asm); (case mq614w => k_mem); (case zq614w => size_fits)); intro _; refine halt_ ?_))
  (k_with "exec Assign cons ListComp" => (k_here; lct_look; k_dflt (refine LCt.Assign_ListComp_T (F₀ := by k_asm) (by rfl) (by with_unfolding_all rfl) (by with_unfolding_all rfl) (by decide) (by rfl) (by decide) (by rfl) (by rfl) (by rfl) ?_)))
  (k_with "CompEnd" => (refine LCg.CompEnd.intro (by assumption) (by assumption) _ (fun _ h9 => h9) (by first | assumption | (simp only [LCg.Off3, and_true]; assumption)) (by lcg_src) ?_; first | exact ⟨⟨_, rfl⟩, rfl, by first | assumption | exact decide_eq_true (by assumption)⟩ | exact ⟨rfl, by first | assumption | exact decide_eq_false (by assumption)⟩))
  (k_with "call builtin:len" => (k_here; (with_reducible show wpAny _ _ (call (Value.builtin "len") [Value.ref _]) _ _ _); k_dflt (refine' kst_len ?k1q617w ?k2q617w ?k3q617w ?k4q617w ?_; (case k1q617w => k_asm); (case k2q617w => k_mem); (case k3q617w => exact rfl); (case k4q617w => omega); k_whole)))
  (k_with "subscriptTail Name Slice ref ref" => (k_here; (with_reducible show wpAny _ _ (subscriptTail _ (PySem.Expr.Slice _ _ none _) (Value.ref _) (Value.ref _)) _ _ _); k_dflt (refine' slice_K ?Fq618w ?Nq618w ?lq618w ?pq618w ?qq618w ?_ ?sq618w ?tq618w ?zq618w; (case Fq618w => k_asm); (case Nq618w => k_asm); (case lq618w => first | exact News.isList (by k_asm) (by k_mem) | exact listBase (by k_asm) (by assumption)); (case pq618w => kmk_part); (case qq618w => kmk_part); (case sq618w => with_unfolding_all rfl); (case tq618w => kmk_pure); (case zq618w => size_fits)); intro _ _ _ Nzz l1zz; (try k_lt l1zz); (try dsimp only at Nzz); (try k_sweep)))
  (k_with "compareOp In ref ref" => (k_here; k_dflt (refine' in_two ?Nq619w ?xq619w ?vq619w ?tq619w ?aq619w ?vaq619w ?bq619w ?vbq619w ?okq619w ?okaq619w ?okbq619w ?uq619w ?_; (case Nq619w => k_asm); (case xq619w => k_mem); (case vq619w => exact strs_pick (by assumption)); (case tq619w => k_mem); (case aq619w => k_mem); (case vaq619w => exact .cons _ _ .nil); (case bq619w => k_mem); (case vbq619w => exact .cons _ _ .nil); (case okq619w => exact pick_sub (by assumption)); (case okaq619w => decide +kernel); (case okbq619w => decide +kernel); (case uq619w => ktr_units); k_whole)))
  (k_with "exec While" => (k_here; refine halt_ ?_))
  (k_with "compareOp NotEq ref ref" => (k_here; k_dflt (first | (refine' ne_bothK ?Nq621w ?aq621w ?bq621w ?uq621w ?_; (case Nq621w => k_asm); (case aq621w => k_mem); (case bq621w => k_mem); (case uq621w => ktr_units); k_whole) | (refine' ne_snocK ?Nq621w ?aq621w ?vq621w ?bq621w ?oq621w ?uq621w ?_; (case Nq621w => k_asm); (case aq621w => k_mem); (case vq621w => assumption); (case bq621w => k_mem); (case oq621w => assumption); (case uq621w => ktr_units); k_whole))))
  (k_with "compareOp Eq ref ref" => (k_here; k_dflt (first | (refine' eq_bothK ?Nq622w ?aq622w ?bq622w ?uq622w ?_; (case Nq622w => k_asm); (case aq622w => k_mem); (case bq622w => k_mem); (case uq622w => ktr_units); k_whole) | (refine' eq_snocK ?Nq622w ?aq622w ?vq622w ?bq622w ?oq622w ?uq622w ?_; (case Nq622w => k_asm); (case aq622w => k_mem); (case vq622w => assumption); (case bq622w => k_mem); (case oq622w => assumption); (case uq622w => ktr_units); k_whole))))
  (k_with "call builtin:list.pop" => (k_here; (with_reducible show wpAny _ _ (call (Value.builtin _) [Value.ref _]) _ _ _); k_dflt (refine' pop_snoc ?Fq623w ?Nq623w ?Uq623w ?zq623w ?_; (case Fq623w => k_asm); (case Nq623w => k_asm); (case Uq623w => k_upd); (case zq623w => size_fits); k_whole); intro _ _ _; (try k_sweep)))
  (k_with "call ref" => (k_here; refine halt_ ?_))
  (k_with "k_ne" => (apply nn8; (try dsimp only); with_reducible ((fail_if_success show @Ne Nat 987654321 _); (fail_if_success show @Ne Nat _ 987654321); first | assumption | (apply nq1; assumption) | (apply nq2; assumption) | (apply nq3; assumption) | (apply nc1; assumption; (first | exact And.left | exact fun z => z.2.1 | exact fun z => z.2.2.1 | exact fun z => z.2.2.2.1 | exact fun z => z.2.2.2.2.1 | exact fun z => z.2.2.2.2.2.1 | exact fun z => z.2.2.2.2.2.2.1 | exact fun z => z.2.2.2.2.2.2.2.1 | exact fun z => z.2.2.2.2.2.2.2.2.1 | exact fun z => z.2.2.2.2.2.2.2.2.2.1 | exact fun z => z.2.2.2.2.2.2.2.2.2.2.1 | exact fun z => z.2.2.2.2.2.2.2.2.2.2.2.1 | exact fun z => z.2.2.2.2.2.2.2.2.2.2.2.2.1 | exact fun z => z.2.2.2.2.2.2.2.2.2.2.2.2.2.1 | exact And.right | exact fun z => z.2.2 | exact fun z => z.2.2.2 | exact fun z => z.2.2.2.2 | exact fun z => z.2.2.2.2.2 | exact fun z => z.2.2.2.2.2.2 | exact fun z => z.2.2.2.2.2.2.2 | exact fun z => z.2.2.2.2.2.2.2.2 | exact fun z => z.2.2.2.2.2.2.2.2.2 | exact fun z => z.2.2.2.2.2.2.2.2.2.2 | exact fun z => z.2.2.2.2.2.2.2.2.2.2.2 | exact fun z => z.2.2.2.2.2.2.2.2.2.2.2.2 | exact fun z => z.2.2.2.2.2.2.2.2.2.2.2.2.2)) | (apply nc2; assumption; (first | exact And.left | exact fun z => z.2.1 | exact fun z => z.2.2.1 | exact fun z => z.2.2.2.1 | exact fun z => z.2.2.2.2.1 | exact fun z => z.2.2.2.2.2.1 | exact fun z => z.2.2.2.2.2.2.1 | exact fun z => z.2.2.2.2.2.2.2.1 | exact fun z => z.2.2.2.2.2.2.2.2.1 | exact fun z => z.2.2.2.2.2.2.2.2.2.1 | exact fun z => z.2.2.2.2.2.2.2.2.2.2.1 | exact fun z => z.2.2.2.2.2.2.2.2.2.2.2.1 | exact fun z => z.2.2.2.2.2.2.2.2.2.2.2.2.1 | exact fun z => z.2.2.2.2.2.2.2.2.2.2.2.2.2.1 | exact And.right | exact fun z => z.2.2 | exact fun z => z.2.2.2 | exact fun z => z.2.2.2.2 | exact fun z => z.2.2.2.2.2 | exact fun z => z.2.2.2.2.2.2 | exact fun z => z.2.2.2.2.2.2.2 | exact fun z => z.2.2.2.2.2.2.2.2 | exact fun z => z.2.2.2.2.2.2.2.2.2 | exact fun z => z.2.2.2.2.2.2.2.2.2.2 | exact fun z => z.2.2.2.2.2.2.2.2.2.2.2 | exact fun z => z.2.2.2.2.2.2.2.2.2.2.2.2 | exact fun z => z.2.2.2.2.2.2.2.2.2.2.2.2.2)) | (apply nc3; assumption; (first | exact And.left | exact fun z => z.2.1 | exact fun z => z.2.2.1 | exact fun z => z.2.2.2.1 | exact fun z => z.2.2.2.2.1 | exact fun z => z.2.2.2.2.2.1 | exact fun z => z.2.2.2.2.2.2.1 | exact fun z => z.2.2.2.2.2.2.2.1 | exact fun z => z.2.2.2.2.2.2.2.2.1 | exact fun z => z.2.2.2.2.2.2.2.2.2.1 | exact fun z => z.2.2.2.2.2.2.2.2.2.2.1 | exact fun z => z.2.2.2.2.2.2.2.2.2.2.2.1 | exact fun z => z.2.2.2.2.2.2.2.2.2.2.2.2.1 | exact fun z => z.2.2.2.2.2.2.2.2.2.2.2.2.2.1 | exact And.right | exact fun z => z.2.2 | exact fun z => z.2.2.2 | exact fun z => z.2.2.2.2 | exact fun z => z.2.2.2.2.2 | exact fun z => z.2.2.2.2.2.2 | exact fun z => z.2.2.2.2.2.2.2 | exact fun z => z.2.2.2.2.2.2.2.2 | exact fun z => z.2.2.2.2.2.2.2.2.2 | exact fun z => z.2.2.2.2.2.2.2.2.2.2 | exact fun z => z.2.2.2.2.2.2.2.2.2.2.2 | exact fun z => z.2.2.2.2.2.2.2.2.2.2.2.2 | exact fun z => z.2.2.2.2.2.2.2.2.2.2.2.2.2)) | (apply nc4; assumption; (first | exact And.left | exact fun z => z.2.1 | exact fun z => z.2.2.1 | exact fun z => z.2.2.2.1 | exact fun z => z.2.2.2.2.1 | exact fun z => z.2.2.2.2.2.1 | exact fun z => z.2.2.2.2.2.2.1 | exact fun z => z.2.2.2.2.2.2.2.1 | exact fun z => z.2.2.2.2.2.2.2.2.1 | exact fun z => z.2.2.2.2.2.2.2.2.2.1 | exact fun z => z.2.2.2.2.2.2.2.2.2.2.1 | exact fun z => z.2.2.2.2.2.2.2.2.2.2.2.1 | exact fun z => z.2.2.2.2.2.2.2.2.2.2.2.2.1 | exact fun z => z.2.2.2.2.2.2.2.2.2.2.2.2.2.1 | exact And.right | exact fun z => z.2.2 | exact fun z => z.2.2.2 | exact fun z => z.2.2.2.2 | exact fun z => z.2.2.2.2.2 | exact fun z => z.2.2.2.2.2.2 | exact fun z => z.2.2.2.2.2.2.2 | exact fun z => z.2.2.2.2.2.2.2.2 | exact fun z => z.2.2.2.2.2.2.2.2.2 | exact fun z => z.2.2.2.2.2.2.2.2.2.2 | exact fun z => z.2.2.2.2.2.2.2.2.2.2.2 | exact fun z => z.2.2.2.2.2.2.2.2.2.2.2.2 | exact fun z => z.2.2.2.2.2.2.2.2.2.2.2.2.2)))))
  (k_with "k_upd" => first | (apply uh8; k_all) | (apply ut8; k_ne; k_upd))
  (k_with "k_updF" => first | (apply fh8; k_all) | (apply ft8; k_ne; k_updF))
  (k_with "k_all" => first | exact List.forall_mem_nil _ | (apply an8; k_ne; k_all))
  (k_with "kcf_all" => first | exact fun _ hp => hp | (apply sb8; (focus kcf_m); kcf_all))
  (k_with "ktr_units" => first | exact uu2 hu rfl | exact uu1 hu rfl | exact uu3 hu rfl | exact uu4 hu rfl)
  (k_with "ktr_room" => first | exact uu2 hdp rfl | exact uu1 hdp rfl | exact uu3 hdp rfl | exact uu4 hdp rfl)
  (k_with "subscriptTail Name UnaryOp ref int" => k_extra "subscriptTail")
  exact trivial
theorem off_all {h₀ h : Heap} {L f : Addr} {news : List (Addr × Obj)} (N : News h₀ L h news) (hf : h.get? f = none) : ∀ p ∈ news, @Ne Nat p.1 f := fun p hp e => by
  have e' : p.1 = f := e
  have := (N p hp).1
  rw [e', hf] at this; cases this
theorem lines29 : True := by
  (k_with "k_all" => with_reducible assumption)
  (k_with "k_all" => (refine' tup_offF ?htq634w ?Nq634w ?hfq634w ?htlq634w ?hoq634w; (case htq634w => with_reducible assumption); (case Nq634w => k_asm); (case hfq634w => k_mem); (case htlq634w => kcf_all); (case hoq634w => rfl)))
  exact trivial
theorem tup_strs {h : Heap} {a : Addr} {its : Array Value} {ks : List Str} (_ : IsTup h a its) (hs : StrsAre its.toList ks) : StrsAre its.toList ks := hs
theorem dfix_of {prog : Program} {w : World} {c : DFix} {i : Nat} {nw : List (Addr × Obj)} (_ : DataSt prog w c i nw) (C : DFixOk prog w c) : DFixOk prog w c := C
theorem lines30 : True := by
  (k_with "exec Assign cons ListComp" => (k_here; k_dflt (refine LCg.Assign_ListComp_U (F₀ := by k_asm) (by rfl) (by with_unfolding_all rfl) (by with_unfolding_all rfl) (by decide) (by rfl) (by decide) (by rfl) (by rfl) (by rfl) ?_)))
  (k_with "compareOp Eq ref ref" => (k_here; refine halt_ ?_))
  (k_with "eval ListComp" => (k_here; k_dflt (refine LCg.ListComp_U (F₀ := by k_asm) (by rfl) (by decide) (by rfl) (by decide) (by rfl) ?_)))
  (k_with "CompSrc" => (k_here; refine halt_ ?_))
  (k_with "call builtin:tuple.index" => (k_here; k_dflt (refine' call_kinds_index ?Fq639w ?Xq639w ?kq639w ?_; (case Fq639w => k_asm); (case Xq639w => k_asm); (case kq639w => assumption); k_whole)))
  (k_with "getMethod ref" => (k_here; (with_reducible show wpAny _ _ (getMethod (Value.ref 193) _ _) _ _ _); k_dflt (refine' kinds_index ?Fq640w ?Xq640w ?_; (case Fq640w => k_asm); (case Xq640w => k_asm); k_whole)))
  (k_with "call type:tuple" => (k_here; (with_reducible show wpAny _ _ (call (Value.type _) [Value.ref _]) _ _ _); k_dflt (refine' call_tuple_tup ?tq641w ?_; (case tq641w => exact News.isTup (by k_asm) (by kcf_m)); k_whole)))
  (k_with "compareOp NotEq ref ref" => (k_here; refine halt_ ?_))
  exact trivial
theorem hide1 {h₀ h : Heap} {L : Addr} {a b : Addr × Obj} {all : List (Addr × Obj)} (N : News h₀ L h all) (ha : a ∈ all) (hb : b ∈ all) : ∃ tl, (∀ p ∈ all, p ∈ tl) ∧ News h₀ L h (a :: b :: tl) :=
  ⟨all, fun _ h => h, fun p hp => (List.mem_cons.mp hp).elim (fun e => e ▸ N _ ha) fun hp => (List.mem_cons.mp hp).elim (fun e => e ▸ N _ hb) (N p)⟩
theorem hide2 {h₀ h : Heap} {L D : Addr} {o : Obj} {a b : Addr × Obj} {rest : List (Addr × Obj)} (N : News h₀ L h ((D, o) :: rest)) (ha : a ∈ rest) (hb : b ∈ rest) (ho : ∀ p ∈ rest, @Ne Nat p.1 D) : ∃ tl, (∀ p ∈ rest, p ∈ tl) ∧ (∀ p ∈ tl, @Ne Nat p.1 D) ∧ @Ne Nat a.1 D ∧ @Ne Nat b.1 D ∧ News h₀ L h ((D, o) :: a :: b :: tl) :=
  ⟨rest, fun _ h => h, ho, ho _ ha, ho _ hb, fun p hp => (List.mem_cons.mp hp).elim (fun e => e ▸ N _ (.head _)) fun hp => (List.mem_cons.mp hp).elim (fun e => e ▸ N _ (.tail _ ha)) fun hp => (List.mem_cons.mp hp).elim (fun e => e ▸ N _ (.tail _ hb)) fun hp => N _ (.tail _ hp)⟩
theorem ne_tail {h₀ h : Heap} {L D : Addr} {o : Obj} {nws : List (Addr × Obj)} (_ : News h₀ L h ((D, o) :: nws)) (h : ∀ p ∈ nws, @Ne Nat p.1 D) : ∀ p ∈ nws, @Ne Nat p.1 D := h
theorem lines31 : True := by
  (k_with "k_qdec" => decide +kernel)
  (k_with "size_fits" => with_reducible assumption)
  (k_with "newTuple" => (k_here; k_dflt (refine' kup_newTuple ?Fq645w ?Nq645w ?_ ?zq645w; (case Fq645w => k_asm); (case Nq645w => k_asm); (case zq645w => exact Nat.le_of_ble_eq_true rfl)); intro _ _ _ _ l1zz; (try k_lt l1zz); (try k_sweep)))
  exact trivial
set_option maxRecDepth 100000 in
set_option maxHeartbeats 20000000 in
theorem lawT : PySem.Challenge.rw_on0369_01.Holds := hd (by
  k_go0
  all_goals try k_fold
  all_goals (with_reducible rename IntsAre _ _ => hI1)
  all_goals have hIl := ints_length hI1
  (k_steps; repeat (any_goals ((first | ((with_reducible show Halt (wpAny _ _ (call (Value.ref 198) _) _ _ _)); refine Halt.go ?_; k_dflt (refine' C_deck ?B9z ?F9z ?X9z ?T9z ?hk9z ?N9z ?hL9z ?hv9z ?hlen9z ?hdp9z ?hu9z ?_; (case B9z => k_asm); (case F9z => k_asm); (case X9z => k_asm); (case T9z => k_asm); (case hk9z => first | exact rfl | assumption); (case N9z => k_asm); (case hL9z => first | assumption | exact listBase (by k_asm) (by assumption)); (case hv9z => assumption); (case hlen9z => omega); (case hdp9z => ktr_room); (case hu9z => ktr_units); k_whole); intro dk'q ll'q od'q lvs'q lns'q mx'q mt'q ln'q h'q tk'q st'q F'q N'q hdo'q hds'q hdl'q hf1'q hf2'q; (have hoff'q := allNe_of (off_all (by k_asm) hf1'q)); (have hoff2'q := allNe_of (off_all (by k_asm) hf2'q)); (try dsimp only [AllNe] at hoff'q hoff2'q); (try k_sweep)) | ((with_reducible show Halt (wpAny _ _ (call (Value.ref 150) _) _ _ _)); refine Halt.go ?_; k_dflt (refine' C_defaults ?B9z ?F9z ?X9z ?T9z ?hk9z ?N9z ?hdp9z ?hu9z ?_; (case B9z => k_asm); (case F9z => k_asm); (case X9z => k_asm); (case T9z => k_asm); (case hk9z => first | exact rfl | assumption); (case N9z => k_asm); (case hdp9z => ktr_room); (case hu9z => first | ktr_units | (have hcL9 := cLine_is; simp only [units_under_make, units_deeper, units_caller]; omega)); k_whole); intro df'q odf'q ndf'q h'q tk'q st'q F'q N'q hdf'q hdfs'q hdff'q; (have hoff'q := allNe_of (off_all (by k_asm) hdff'q)); (try dsimp only [AllNe] at hoff'q); (try k_sweep)) | ((with_reducible show Halt (wpAny _ _ (call (Value.ref 229) _) _ _ _)); refine Halt.go ?_; k_dflt (refine' C_issure ?B9z ?F9z ?X9z ?T9z ?hk9z ?N9z ?hl9z ?hv9z ?hlen9z ?hok9z ?p09z ?p19z ?hdp9z ?hu9z ?_; (case B9z => k_asm); (case F9z => k_asm); (case X9z => k_asm); (case T9z => k_asm); (case hk9z => first | exact rfl | assumption); (case N9z => k_asm); (case hl9z => exact News.get (by k_asm) (by k_mem)); (case hv9z => exact strs_pick (by assumption)); (case hlen9z => omega); (case hok9z => exact pick_sub (by assumption)); (case p09z => omega); (case p19z => omega); (case hdp9z => ktr_room); (case hu9z => ktr_units); k_whole); intro h'q tk'q st'q F'q N'q; (try k_sweep)) | ((with_reducible show Halt (wpAny _ _ (call (Value.ref 224) _) _ _ _)); refine Halt.go ?_; k_dflt (refine' C_isbreak ?B9z ?F9z ?X9z ?T9z ?hk9z ?N9z ?hl9z ?hv9z ?hlen9z ?hok9z ?p09z ?p19z ?hdp9z ?hu9z ?_; (case B9z => k_asm); (case F9z => k_asm); (case X9z => k_asm); (case T9z => k_asm); (case hk9z => first | exact rfl | assumption); (case N9z => k_asm); (case hl9z => exact News.get (by k_asm) (by k_mem)); (case hv9z => first | with_reducible assumption | exact strs_pick (by assumption)); (case hlen9z => omega); (case hok9z => first | with_reducible assumption | exact pick_sub (by assumption)); (case p09z => omega); (case p19z => omega); (case hdp9z => ktr_room); (case hu9z => ktr_units); k_whole); intro h'q tk'q st'q F'q N'q; (try k_sweep)) | ((with_reducible show Halt (wpAny _ _ (call (Value.ref _) _) _ _ _)); refine Halt.go ?_; k_dflt (refine' call_cls ?k19z ?k29z ?k39z ?k49z ?k59z ?k69z ?_; (case k19z => k_asm); (case k29z => k_asm); (case k39z => k_asm); (case k49z => k_is); (case k59z => k_is); (case k69z => k_is); k_whole; intro x'q d'q h'q F'q N'q l1 l2; (have l0 := lt_dl l1); (try k_lt l1); (try k_lt2 l2); (try k_sweep)); k_dflt (refine' code_defG ?k19z ?k29z ?k39z ?k49z ?k59z ?kA9z ?kF9z ?kK9z ?k69z ?k79z ?k89z ?k99z ?kB9z ?_ ?c29z ?c39z ?c49z ?c59z; (case kA9z => exact rfl); (case kF9z => exact rfl); (case kK9z => first | exact rfl | assumption); (case k19z => k_asm); (case k29z => k_asm); (case k39z => k_asm); (case k49z => k_asm); (case k59z => k_asm); (case k69z => k_is); (case k79z => k_is); (case k89z => ktr_room); (case k99z => exact BindsTo.of_eq rfl); (case c59z => decide); (case kB9z => exact locs rfl); (case c29z => exact rfl); (case c39z => exact rfl); (case c49z => exact rfl); k_whole); intro g'q L'q h'q FG'q F'q N'q B'q X'q T'q GS'q; (try dsimp only); (try k_fold))); k_steps)))
  (with_reducible rename Fr _ _ _ _ => F1)
  (with_reducible rename News _ _ _ _ => N1)
  refine Halt.go ?_
  (with_reducible rename Frag.In _ _ => kX)
  have hT193 := tupK (kX.keeps F1.keep) (a := 193) (by k_is)
  have hT0 := tupK kX (a := 193) (by k_is)
  have hS0 : StrsAre (Array.toList _) kindsL := tup_strs hT0 (by repeat constructor)
  refine' first_loop [Str.ofString "number", Str.ofString "kind"] rfl F1 N1 ?hom ?hl ?hk ?turn ?done
  case hom => assumption
  case hl => exact hT193
  case hk => exact ⟨_, hT0.choose_spec.1⟩
  case turn =>
    intro I i v T t u news₁ h₁ tk₁ o1 o2 hI hvi hT J c1 c2 F2 N2
    (refine let_P ?_; intro P9)
    obtain ⟨kd, kt, hki, rfl⟩ := strs_get hS0 ((Array.getElem?_toList ..).trans hvi)
    have hi15 : i < 15 := (List.getElem?_eq_some_iff.mp hki).1
    have hkd : kd = kindAt i := Option.some.inj (hki.symm.trans (kind_at i hi15))
    have hC := dfix_of J ⟨by assumption, by assumption, by assumption, by k_ne, by k_ne, ⟨by k_ne, by k_ne, by k_ne, by k_ne⟩, ⟨by k_ne, by k_ne, by k_ne, by k_ne⟩, ⟨by k_ne, by k_ne, by k_ne, by k_ne⟩, ⟨by k_ne, by k_ne, by k_ne⟩⟩
    have hold : ∀ p ∈ rest3 _, @LT.lt Nat _ p.1 I := old_lt J fun p hp => Nat.lt_of_lt_of_le (Heap.lt_size (N1 p (by revert p; kcf_all)).1) hI
    cases i with
    | zero =>
      have J0 := J
      obtain ⟨om9, hom9, rfl⟩ := J
      (first | k_unfold | (show P9; k_unfold))
      (try k_fold)
      k_steps
      refine Halt.go ?_
      refine' C_dputJ (i := 0) ?B ?F ?X ?T ?hk ?N c1 c2 hC J0 hi15 ?pp ?qq hkd ?hdp ?hu ?_
      case B => k_asm
      case F => k_asm
      case X => k_asm
      case T => k_asm
      case hk => exact rfl
      case N => k_asm
      case pp => rfl
      case qq => rfl
      case hdp => ktr_room
      case hu => ktr_units
      intro nw' h' tk' F' N' J'
      k_steps
      exact TurnEnd.intro2 nw' (by k_asm) (by k_asm) (by kcf_all) (by kcf_all) (data_old J' hold) ⟨by (intro y hy; have hy' := hy; simp only [List.contains_cons, List.contains_nil, Bool.or_false, Bool.or_eq_false_iff, beq_eq_false_iff_ne, ne_eq] at hy'; (first | simp only [hy', if_false, and_self, not_false_eq_true, over_off hy] | simp [hy', over_off hy])), J'⟩
    | succ i =>
      have J0 := J
      obtain ⟨rm9, rd9, sa9, va9, om9, u5, u6, u7, u8, nn3, nn4, svs9, vvs9, rfl, hom9, _⟩ := J
      (first | k_unfold | (show P9; k_unfold))
      (try k_fold)
      dsimp only [dataL, qOf, rest3, List.cons_append, List.nil_append] at N2
      k_steps
      refine Halt.go ?_
      refine' C_dputJ (i := i + 1) ?B ?F ?X ?T ?hk ?N c1 c2 hC J0 hi15 ?pp ?qq hkd ?hdp ?hu ?_
      case B => k_asm
      case F => k_asm
      case X => k_asm
      case T => k_asm
      case hk => exact rfl
      case N => k_asm
      case pp => rfl
      case qq => rfl
      case hdp => ktr_room
      case hu => ktr_units
      intro nw' h' tk' F' N' J'
      k_steps
      exact TurnEnd.intro2 nw' (by k_asm) (by k_asm) (by kcf_all) (by kcf_all) (data_old J' hold) ⟨by (intro y hy; have hy' := hy; simp only [List.contains_cons, List.contains_nil, Bool.or_false, Bool.or_eq_false_iff, beq_eq_false_iff_ne, ne_eq] at hy'; (first | simp only [hy', if_false, and_self, not_false_eq_true, over_off hy] | simp [hy', over_off hy])), J'⟩
  case done =>
    intro u news₁ h₁ tk₁ J F2 N2
    (refine let_P ?_; intro P9)
    have hC := dfix_of J ⟨by assumption, by assumption, by assumption, by k_ne, by k_ne, ⟨by k_ne, by k_ne, by k_ne, by k_ne⟩, ⟨by k_ne, by k_ne, by k_ne, by k_ne⟩, ⟨by k_ne, by k_ne, by k_ne, by k_ne⟩, ⟨by k_ne, by k_ne, by k_ne⟩⟩
    obtain ⟨q, svs, vvs, dl, rfl, hsub, hDok, hqd, hsv, hvv, hoffd, hoffc⟩ := data_end hC J
    clear J
    dsimp only at hqd hoffc hoffd
    subst hqd
    (first | k_unfold | (show P9; k_unfold))
    (try k_fold)
    dsimp only [rest3] at N2
    have N3 := news_flip N2
    clear N2
    dsimp only [List.cons_append, List.nil_append] at N3
    (k_steps; repeat (any_goals ((first | ((with_reducible show Halt (wpAny _ _ (call (Value.ref 198) _) _ _ _)); refine Halt.go ?_; k_dflt (refine' C_deck ?B9z ?F9z ?X9z ?T9z ?hk9z ?N9z ?hL9z ?hv9z ?hlen9z ?hdp9z ?hu9z ?_; (case B9z => k_asm); (case F9z => k_asm); (case X9z => k_asm); (case T9z => k_asm); (case hk9z => first | exact rfl | assumption); (case N9z => k_asm); (case hL9z => first | assumption | exact listBase (by k_asm) (by assumption)); (case hv9z => assumption); (case hlen9z => omega); (case hdp9z => ktr_room); (case hu9z => ktr_units); k_whole); intro dk'q ll'q od'q lvs'q lns'q mx'q mt'q ln'q h'q tk'q st'q F'q N'q hdo'q hds'q hdl'q hf1'q hf2'q; (have hoff'q := allNe_of (off_all (by k_asm) hf1'q)); (have hoff2'q := allNe_of (off_all (by k_asm) hf2'q)); (try dsimp only [AllNe] at hoff'q hoff2'q); (try k_sweep)) | ((with_reducible show Halt (wpAny _ _ (call (Value.ref 150) _) _ _ _)); refine Halt.go ?_; k_dflt (refine' C_defaults ?B9z ?F9z ?X9z ?T9z ?hk9z ?N9z ?hdp9z ?hu9z ?_; (case B9z => k_asm); (case F9z => k_asm); (case X9z => k_asm); (case T9z => k_asm); (case hk9z => first | exact rfl | assumption); (case N9z => k_asm); (case hdp9z => ktr_room); (case hu9z => first | ktr_units | (have hcL9 := cLine_is; simp only [units_under_make, units_deeper, units_caller]; omega)); k_whole); intro df'q odf'q ndf'q h'q tk'q st'q F'q N'q hdf'q hdfs'q hdff'q; (have hoff'q := allNe_of (off_all (by k_asm) hdff'q)); (try dsimp only [AllNe] at hoff'q); (try k_sweep)) | ((with_reducible show Halt (wpAny _ _ (call (Value.ref 229) _) _ _ _)); refine Halt.go ?_; k_dflt (refine' C_issure ?B9z ?F9z ?X9z ?T9z ?hk9z ?N9z ?hl9z ?hv9z ?hlen9z ?hok9z ?p09z ?p19z ?hdp9z ?hu9z ?_; (case B9z => k_asm); (case F9z => k_asm); (case X9z => k_asm); (case T9z => k_asm); (case hk9z => first | exact rfl | assumption); (case N9z => k_asm); (case hl9z => exact News.get (by k_asm) (by k_mem)); (case hv9z => exact strs_pick (by assumption)); (case hlen9z => omega); (case hok9z => exact pick_sub (by assumption)); (case p09z => omega); (case p19z => omega); (case hdp9z => ktr_room); (case hu9z => ktr_units); k_whole); intro h'q tk'q st'q F'q N'q; (try k_sweep)) | ((with_reducible show Halt (wpAny _ _ (call (Value.ref 224) _) _ _ _)); refine Halt.go ?_; k_dflt (refine' C_isbreak ?B9z ?F9z ?X9z ?T9z ?hk9z ?N9z ?hl9z ?hv9z ?hlen9z ?hok9z ?p09z ?p19z ?hdp9z ?hu9z ?_; (case B9z => k_asm); (case F9z => k_asm); (case X9z => k_asm); (case T9z => k_asm); (case hk9z => first | exact rfl | assumption); (case N9z => k_asm); (case hl9z => exact News.get (by k_asm) (by k_mem)); (case hv9z => first | with_reducible assumption | exact strs_pick (by assumption)); (case hlen9z => omega); (case hok9z => first | with_reducible assumption | exact pick_sub (by assumption)); (case p09z => omega); (case p19z => omega); (case hdp9z => ktr_room); (case hu9z => ktr_units); k_whole); intro h'q tk'q st'q F'q N'q; (try k_sweep)) | ((with_reducible show Halt (wpAny _ _ (call (Value.ref _) _) _ _ _)); refine Halt.go ?_; k_dflt (refine' call_cls ?k19z ?k29z ?k39z ?k49z ?k59z ?k69z ?_; (case k19z => k_asm); (case k29z => k_asm); (case k39z => k_asm); (case k49z => k_is); (case k59z => k_is); (case k69z => k_is); k_whole; intro x'q d'q h'q F'q N'q l1 l2; (have l0 := lt_dl l1); (try k_lt l1); (try k_lt2 l2); (try k_sweep)); k_dflt (refine' code_defG ?k19z ?k29z ?k39z ?k49z ?k59z ?kA9z ?kF9z ?kK9z ?k69z ?k79z ?k89z ?k99z ?kB9z ?_ ?c29z ?c39z ?c49z ?c59z; (case kA9z => exact rfl); (case kF9z => exact rfl); (case kK9z => first | exact rfl | assumption); (case k19z => k_asm); (case k29z => k_asm); (case k39z => k_asm); (case k49z => k_asm); (case k59z => k_asm); (case k69z => k_is); (case k79z => k_is); (case k89z => ktr_room); (case k99z => exact BindsTo.of_eq rfl); (case c59z => decide); (case kB9z => exact locs rfl); (case c29z => exact rfl); (case c39z => exact rfl); (case c49z => exact rfl); k_whole); intro g'q L'q h'q FG'q F'q N'q B'q X'q T'q GS'q; (try dsimp only); (try k_fold))); k_steps)))
    refine Halt.go ?_
    refine' C_text2 ?B ?F ?X ?T ?hk ?ok ?N ?hdk ?hll ?hc ?hcd ?hcl ?hb hoffd ?sy ?hne ?hdp ?hu ?_
    case B => k_asm
    case F => k_asm
    case X => k_asm
    case T => k_asm
    case hk => exact rfl
    case ok => assumption
    case N => k_asm
    case hdk => k_mem
    case hll => k_mem
    case hc => exact (.tail _ (.tail _ (.tail _ (.head _))))
    case hcd => k_ne
    case hcl => k_ne
    case hb => kcf_all
    case sy => assumption
    case hne => assumption
    case hdp => ktr_room
    case hu => ktr_units
    intro f' vs' ks' k' h' tk' F' N' hff' hvs' hks' hkl'
    have hoff9 := allNe_of (off_all (by k_asm) hff')
    dsimp only [AllNe] at hoff9
    have hoff8 := hoff9.2.2.2.1
    clear hoff9
    (repeat (with_reducible rename (_ ≠ _) ∧ _ => z9; clear z9))
    (k_steps; repeat (any_goals ((first | ((with_reducible show Halt (wpAny _ _ (call (Value.ref 198) _) _ _ _)); refine Halt.go ?_; k_dflt (refine' C_deck ?B9z ?F9z ?X9z ?T9z ?hk9z ?N9z ?hL9z ?hv9z ?hlen9z ?hdp9z ?hu9z ?_; (case B9z => k_asm); (case F9z => k_asm); (case X9z => k_asm); (case T9z => k_asm); (case hk9z => first | exact rfl | assumption); (case N9z => k_asm); (case hL9z => first | assumption | exact listBase (by k_asm) (by assumption)); (case hv9z => assumption); (case hlen9z => omega); (case hdp9z => ktr_room); (case hu9z => ktr_units); k_whole); intro dk'q ll'q od'q lvs'q lns'q mx'q mt'q ln'q h'q tk'q st'q F'q N'q hdo'q hds'q hdl'q hf1'q hf2'q; (have hoff'q := allNe_of (off_all (by k_asm) hf1'q)); (have hoff2'q := allNe_of (off_all (by k_asm) hf2'q)); (try dsimp only [AllNe] at hoff'q hoff2'q); (try k_sweep)) | ((with_reducible show Halt (wpAny _ _ (call (Value.ref 150) _) _ _ _)); refine Halt.go ?_; k_dflt (refine' C_defaults ?B9z ?F9z ?X9z ?T9z ?hk9z ?N9z ?hdp9z ?hu9z ?_; (case B9z => k_asm); (case F9z => k_asm); (case X9z => k_asm); (case T9z => k_asm); (case hk9z => first | exact rfl | assumption); (case N9z => k_asm); (case hdp9z => ktr_room); (case hu9z => first | ktr_units | (have hcL9 := cLine_is; simp only [units_under_make, units_deeper, units_caller]; omega)); k_whole); intro df'q odf'q ndf'q h'q tk'q st'q F'q N'q hdf'q hdfs'q hdff'q; (have hoff'q := allNe_of (off_all (by k_asm) hdff'q)); (try dsimp only [AllNe] at hoff'q); (try k_sweep)) | ((with_reducible show Halt (wpAny _ _ (call (Value.ref 229) _) _ _ _)); refine Halt.go ?_; k_dflt (refine' C_issure ?B9z ?F9z ?X9z ?T9z ?hk9z ?N9z ?hl9z ?hv9z ?hlen9z ?hok9z ?p09z ?p19z ?hdp9z ?hu9z ?_; (case B9z => k_asm); (case F9z => k_asm); (case X9z => k_asm); (case T9z => k_asm); (case hk9z => first | exact rfl | assumption); (case N9z => k_asm); (case hl9z => exact News.get (by k_asm) (by k_mem)); (case hv9z => exact strs_pick (by assumption)); (case hlen9z => omega); (case hok9z => exact pick_sub (by assumption)); (case p09z => omega); (case p19z => omega); (case hdp9z => ktr_room); (case hu9z => ktr_units); k_whole); intro h'q tk'q st'q F'q N'q; (try k_sweep)) | ((with_reducible show Halt (wpAny _ _ (call (Value.ref 224) _) _ _ _)); refine Halt.go ?_; k_dflt (refine' C_isbreak ?B9z ?F9z ?X9z ?T9z ?hk9z ?N9z ?hl9z ?hv9z ?hlen9z ?hok9z ?p09z ?p19z ?hdp9z ?hu9z ?_; (case B9z => k_asm); (case F9z => k_asm); (case X9z => k_asm); (case T9z => k_asm); (case hk9z => first | exact rfl | assumption); (case N9z => k_asm); (case hl9z => exact News.get (by k_asm) (by k_mem)); (case hv9z => first | with_reducible assumption | exact strs_pick (by assumption)); (case hlen9z => omega); (case hok9z => first | with_reducible assumption | exact pick_sub (by assumption)); (case p09z => omega); (case p19z => omega); (case hdp9z => ktr_room); (case hu9z => ktr_units); k_whole); intro h'q tk'q st'q F'q N'q; (try k_sweep)) | ((with_reducible show Halt (wpAny _ _ (call (Value.ref _) _) _ _ _)); refine Halt.go ?_; k_dflt (refine' call_cls ?k19z ?k29z ?k39z ?k49z ?k59z ?k69z ?_; (case k19z => k_asm); (case k29z => k_asm); (case k39z => k_asm); (case k49z => k_is); (case k59z => k_is); (case k69z => k_is); k_whole; intro x'q d'q h'q F'q N'q l1 l2; (have l0 := lt_dl l1); (try k_lt l1); (try k_lt2 l2); (try k_sweep)); k_dflt (refine' code_defG ?k19z ?k29z ?k39z ?k49z ?k59z ?kA9z ?kF9z ?kK9z ?k69z ?k79z ?k89z ?k99z ?kB9z ?_ ?c29z ?c39z ?c49z ?c59z; (case kA9z => exact rfl); (case kF9z => exact rfl); (case kK9z => first | exact rfl | assumption); (case k19z => k_asm); (case k29z => k_asm); (case k39z => k_asm); (case k49z => k_asm); (case k59z => k_asm); (case k69z => k_is); (case k79z => k_is); (case k89z => ktr_room); (case k99z => exact BindsTo.of_eq rfl); (case c59z => decide); (case kB9z => exact locs rfl); (case c29z => exact rfl); (case c39z => exact rfl); (case c49z => exact rfl); k_whole); intro g'q L'q h'q FG'q F'q N'q B'q X'q T'q GS'q; (try dsimp only); (try k_fold))); k_steps)))
    (with_reducible rename Fr _ _ _ _ => F3)
    (with_reducible rename News _ _ _ _ => N3)
    have hsz3 := Heap.lt_size (N3 _ (.tail _ (.head _))).1
    (with_reducible rename ∀ p ∈ dl, p.1 < _ => hltd)
    refine Halt.go ?_
    refine' second_loop (t0 := _) rfl F3 N3 ?hkl (.tail _ (.tail _ (.tail _ (.tail _ (.head _))))) (.tail _ (.head _)) (.tail _ (.tail _ (.head _))) ?hd ?S0 hvs' ?ht ?turn ?done
    case hkl => k_mem
    case hd => exact fun p hp => .tail _ (.tail _ (.tail _ (.tail _ (.tail _ hp))))
    case S0 => exact sIs_of rfl
    case ht => rfl
    case turn =>
      intro I i kd kt T t u2 c es told tk h₁ tk₁ o1 o2 hI hki hT hS hInv c1 c2 F2 N2
      (refine let_P ?_; intro P9)
      have hfx := facts_of N2 (Nat.lt_of_lt_of_le hsz3 hI) (by omega) (by omega) (by omega) hltd
      obtain ⟨⟨hdx1, hdx2, hccI, hdI⟩, g1, g2, g3, g4, g5, g6⟩ := hfx
      (repeat (with_reducible rename (_ < _) ∧ _ => z9; clear z9))
      have hi10 : i < ks'.length := (List.getElem?_eq_some_iff.mp hki).1
      have hkd : kd ∈ kindsL := hks' kd (List.mem_of_getElem? hki)
      have hokk := kinds_ok hks'
      have hpl : (pickS ks' none (some ((i : Int) + 1))).length = i + 1 := by rw [pick_cut, List.length_take]; omega
      have htk1 : ks'.take (i + 1) = ks'.take i ++ [kd] := by rw [List.take_add_one, hki]; rfl
      have htl := inv_le hInv
      have hti : (ks'.take i).length = i := by rw [List.length_take]; omega
      obtain ⟨nT, hTurn⟩ := turn_law hInv kd
      (first | k_unfold | (show P9; k_unfold))
      (try k_fold)
      dsimp only [ledL] at N2
      k_steps
      (with_reducible rename Fr _ _ _ _ => F4)
      (with_reducible rename News _ _ _ _ => N4)
      (with_reducible rename (_ < _) ∧ _ => l9)
      have hDdl := lt_ne (allLt_ne l9.2.2.2.2.2.2)
      have hD9 := ne_tail N4 (List.forall_mem_cons.mpr ⟨by k_ne, List.forall_mem_cons.mpr ⟨by k_ne, List.forall_mem_cons.mpr ⟨by k_ne, List.forall_mem_cons.mpr ⟨by k_ne, List.forall_mem_cons.mpr ⟨by k_ne, List.forall_mem_cons.mpr ⟨by k_ne, hDdl⟩⟩⟩⟩⟩⟩)
      refine Halt.go (while_rows (y := Str.ofString "told") (sure1 (ks'.take (i + 1))) (dueRow (ks'.take (i + 1))) told (i + 1) F4 N4 rfl (by omega) ?testW ?bodyW ?doneW)
      case testW =>
        intro t9 tk9 vs9 tl9 k9 h9 tk8 hle1 hle2 hvl hta F5 N5
        (refine let_P ?_; intro P9)
        obtain ⟨tlX, hX, N6⟩ := hide1 N5 (.tail _ (List.mem_append_left _ (.tail _ (.tail _ (.head _))))) (.tail _ (List.mem_append_left _ (.tail _ (.tail _ (.tail _ (.head _))))))
        clear N5
        (first | k_unfold | (show P9; k_unfold))
        (try k_fold)
        (k_steps; repeat (any_goals ((first | ((with_reducible show Halt (wpAny _ _ (call (Value.ref 198) _) _ _ _)); refine Halt.go ?_; k_dflt (refine' C_deck ?B9z ?F9z ?X9z ?T9z ?hk9z ?N9z ?hL9z ?hv9z ?hlen9z ?hdp9z ?hu9z ?_; (case B9z => k_asm); (case F9z => k_asm); (case X9z => k_asm); (case T9z => k_asm); (case hk9z => first | exact rfl | assumption); (case N9z => k_asm); (case hL9z => first | assumption | exact listBase (by k_asm) (by assumption)); (case hv9z => assumption); (case hlen9z => omega); (case hdp9z => ktr_room); (case hu9z => ktr_units); k_whole); intro dk'q ll'q od'q lvs'q lns'q mx'q mt'q ln'q h'q tk'q st'q F'q N'q hdo'q hds'q hdl'q hf1'q hf2'q; (have hoff'q := allNe_of (off_all (by k_asm) hf1'q)); (have hoff2'q := allNe_of (off_all (by k_asm) hf2'q)); (try dsimp only [AllNe] at hoff'q hoff2'q); (try k_sweep)) | ((with_reducible show Halt (wpAny _ _ (call (Value.ref 150) _) _ _ _)); refine Halt.go ?_; k_dflt (refine' C_defaults ?B9z ?F9z ?X9z ?T9z ?hk9z ?N9z ?hdp9z ?hu9z ?_; (case B9z => k_asm); (case F9z => k_asm); (case X9z => k_asm); (case T9z => k_asm); (case hk9z => first | exact rfl | assumption); (case N9z => k_asm); (case hdp9z => ktr_room); (case hu9z => first | ktr_units | (have hcL9 := cLine_is; simp only [units_under_make, units_deeper, units_caller]; omega)); k_whole); intro df'q odf'q ndf'q h'q tk'q st'q F'q N'q hdf'q hdfs'q hdff'q; (have hoff'q := allNe_of (off_all (by k_asm) hdff'q)); (try dsimp only [AllNe] at hoff'q); (try k_sweep)) | ((with_reducible show Halt (wpAny _ _ (call (Value.ref 229) _) _ _ _)); refine Halt.go ?_; k_dflt (refine' C_issure ?B9z ?F9z ?X9z ?T9z ?hk9z ?N9z ?hl9z ?hv9z ?hlen9z ?hok9z ?p09z ?p19z ?hdp9z ?hu9z ?_; (case B9z => k_asm); (case F9z => k_asm); (case X9z => k_asm); (case T9z => k_asm); (case hk9z => first | exact rfl | assumption); (case N9z => k_asm); (case hl9z => exact News.get (by k_asm) (by k_mem)); (case hv9z => exact strs_pick (by assumption)); (case hlen9z => omega); (case hok9z => exact pick_sub (by assumption)); (case p09z => omega); (case p19z => omega); (case hdp9z => ktr_room); (case hu9z => ktr_units); k_whole); intro h'q tk'q st'q F'q N'q; (try k_sweep)) | ((with_reducible show Halt (wpAny _ _ (call (Value.ref 224) _) _ _ _)); refine Halt.go ?_; k_dflt (refine' C_isbreak ?B9z ?F9z ?X9z ?T9z ?hk9z ?N9z ?hl9z ?hv9z ?hlen9z ?hok9z ?p09z ?p19z ?hdp9z ?hu9z ?_; (case B9z => k_asm); (case F9z => k_asm); (case X9z => k_asm); (case T9z => k_asm); (case hk9z => first | exact rfl | assumption); (case N9z => k_asm); (case hl9z => exact News.get (by k_asm) (by k_mem)); (case hv9z => first | with_reducible assumption | exact strs_pick (by assumption)); (case hlen9z => omega); (case hok9z => first | with_reducible assumption | exact pick_sub (by assumption)); (case p09z => omega); (case p19z => omega); (case hdp9z => ktr_room); (case hu9z => ktr_units); k_whole); intro h'q tk'q st'q F'q N'q; (try k_sweep)) | ((with_reducible show Halt (wpAny _ _ (call (Value.ref _) _) _ _ _)); refine Halt.go ?_; k_dflt (refine' call_cls ?k19z ?k29z ?k39z ?k49z ?k59z ?k69z ?_; (case k19z => k_asm); (case k29z => k_asm); (case k39z => k_asm); (case k49z => k_is); (case k59z => k_is); (case k69z => k_is); k_whole; intro x'q d'q h'q F'q N'q l1 l2; (have l0 := lt_dl l1); (try k_lt l1); (try k_lt2 l2); (try k_sweep)); k_dflt (refine' code_defG ?k19z ?k29z ?k39z ?k49z ?k59z ?kA9z ?kF9z ?kK9z ?k69z ?k79z ?k89z ?k99z ?kB9z ?_ ?c29z ?c39z ?c49z ?c59z; (case kA9z => exact rfl); (case kF9z => exact rfl); (case kK9z => first | exact rfl | assumption); (case k19z => k_asm); (case k29z => k_asm); (case k39z => k_asm); (case k49z => k_asm); (case k59z => k_asm); (case k69z => k_is); (case k79z => k_is); (case k89z => ktr_room); (case k99z => exact BindsTo.of_eq rfl); (case c59z => decide); (case kB9z => exact locs rfl); (case c29z => exact rfl); (case c39z => exact rfl); (case c49z => exact rfl); k_whole); intro g'q L'q h'q FG'q F'q N'q B'q X'q T'q GS'q; (try dsimp only); (try k_fold))); k_steps)))
        all_goals first
          | exact SameAt.intro (by assumption) (by assumption) (fun p hp => by have hp' := hX p hp; kcf_m)
          | exact test_zero (by assumption)
          | exact test_no (by assumption)
          | exact test_yes (by assumption) (by assumption) (by first | assumption | exact eq_false_of_ne_true (by assumption))
      case bodyW =>
        intro t9 tk9 vs9 tl9 k9 h9 tk8 hle1 hle2 hvl hta F5 N5
        (refine let_P ?_; intro P9)
        obtain ⟨tlX, hX, ho10, hkD, hcD, N6⟩ := hide2 N5 (List.mem_append_left _ (.tail _ (.tail _ (.head _)))) (List.mem_append_left _ (.tail _ (.tail _ (.tail _ (.head _))))) (List.forall_mem_append.mpr ⟨hD9, tup_offF hta N5 (.head _) (fun p hp => .tail _ (List.mem_append_right _ hp)) rfl⟩)
        (first | k_unfold | (show P9; k_unfold))
        clear N5
        dsimp only at hkD hcD
        have hsz9 : vs9.toArray.size ≤ sizeLine := by
          rw [PySem.sizeLine_eq, List.size_toArray]; exact Nat.le_trans hvl (Nat.le_trans hi10 (Nat.le_trans hkl' (by decide)))
        (try k_fold)
        (k_steps; repeat (any_goals ((first | ((with_reducible show Halt (wpAny _ _ (call (Value.ref 198) _) _ _ _)); refine Halt.go ?_; k_dflt (refine' C_deck ?B9z ?F9z ?X9z ?T9z ?hk9z ?N9z ?hL9z ?hv9z ?hlen9z ?hdp9z ?hu9z ?_; (case B9z => k_asm); (case F9z => k_asm); (case X9z => k_asm); (case T9z => k_asm); (case hk9z => first | exact rfl | assumption); (case N9z => k_asm); (case hL9z => first | assumption | exact listBase (by k_asm) (by assumption)); (case hv9z => assumption); (case hlen9z => omega); (case hdp9z => ktr_room); (case hu9z => ktr_units); k_whole); intro dk'q ll'q od'q lvs'q lns'q mx'q mt'q ln'q h'q tk'q st'q F'q N'q hdo'q hds'q hdl'q hf1'q hf2'q; (have hoff'q := allNe_of (off_all (by k_asm) hf1'q)); (have hoff2'q := allNe_of (off_all (by k_asm) hf2'q)); (try dsimp only [AllNe] at hoff'q hoff2'q); (try k_sweep)) | ((with_reducible show Halt (wpAny _ _ (call (Value.ref 150) _) _ _ _)); refine Halt.go ?_; k_dflt (refine' C_defaults ?B9z ?F9z ?X9z ?T9z ?hk9z ?N9z ?hdp9z ?hu9z ?_; (case B9z => k_asm); (case F9z => k_asm); (case X9z => k_asm); (case T9z => k_asm); (case hk9z => first | exact rfl | assumption); (case N9z => k_asm); (case hdp9z => ktr_room); (case hu9z => first | ktr_units | (have hcL9 := cLine_is; simp only [units_under_make, units_deeper, units_caller]; omega)); k_whole); intro df'q odf'q ndf'q h'q tk'q st'q F'q N'q hdf'q hdfs'q hdff'q; (have hoff'q := allNe_of (off_all (by k_asm) hdff'q)); (try dsimp only [AllNe] at hoff'q); (try k_sweep)) | ((with_reducible show Halt (wpAny _ _ (call (Value.ref 229) _) _ _ _)); refine Halt.go ?_; k_dflt (refine' C_issure ?B9z ?F9z ?X9z ?T9z ?hk9z ?N9z ?hl9z ?hv9z ?hlen9z ?hok9z ?p09z ?p19z ?hdp9z ?hu9z ?_; (case B9z => k_asm); (case F9z => k_asm); (case X9z => k_asm); (case T9z => k_asm); (case hk9z => first | exact rfl | assumption); (case N9z => k_asm); (case hl9z => exact News.get (by k_asm) (by k_mem)); (case hv9z => exact strs_pick (by assumption)); (case hlen9z => omega); (case hok9z => exact pick_sub (by assumption)); (case p09z => omega); (case p19z => omega); (case hdp9z => ktr_room); (case hu9z => ktr_units); k_whole); intro h'q tk'q st'q F'q N'q; (try k_sweep)) | ((with_reducible show Halt (wpAny _ _ (call (Value.ref 224) _) _ _ _)); refine Halt.go ?_; k_dflt (refine' C_isbreak ?B9z ?F9z ?X9z ?T9z ?hk9z ?N9z ?hl9z ?hv9z ?hlen9z ?hok9z ?p09z ?p19z ?hdp9z ?hu9z ?_; (case B9z => k_asm); (case F9z => k_asm); (case X9z => k_asm); (case T9z => k_asm); (case hk9z => first | exact rfl | assumption); (case N9z => k_asm); (case hl9z => exact News.get (by k_asm) (by k_mem)); (case hv9z => first | with_reducible assumption | exact strs_pick (by assumption)); (case hlen9z => omega); (case hok9z => first | with_reducible assumption | exact pick_sub (by assumption)); (case p09z => omega); (case p19z => omega); (case hdp9z => ktr_room); (case hu9z => ktr_units); k_whole); intro h'q tk'q st'q F'q N'q; (try k_sweep)) | ((with_reducible show Halt (wpAny _ _ (call (Value.ref _) _) _ _ _)); refine Halt.go ?_; k_dflt (refine' call_cls ?k19z ?k29z ?k39z ?k49z ?k59z ?k69z ?_; (case k19z => k_asm); (case k29z => k_asm); (case k39z => k_asm); (case k49z => k_is); (case k59z => k_is); (case k69z => k_is); k_whole; intro x'q d'q h'q F'q N'q l1 l2; (have l0 := lt_dl l1); (try k_lt l1); (try k_lt2 l2); (try k_sweep)); k_dflt (refine' code_defG ?k19z ?k29z ?k39z ?k49z ?k59z ?kA9z ?kF9z ?kK9z ?k69z ?k79z ?k89z ?k99z ?kB9z ?_ ?c29z ?c39z ?c49z ?c59z; (case kA9z => exact rfl); (case kF9z => exact rfl); (case kK9z => first | exact rfl | assumption); (case k19z => k_asm); (case k29z => k_asm); (case k39z => k_asm); (case k49z => k_asm); (case k59z => k_asm); (case k69z => k_is); (case k79z => k_is); (case k89z => ktr_room); (case k99z => exact BindsTo.of_eq rfl); (case c59z => decide); (case kB9z => exact locs rfl); (case c29z => exact rfl); (case c39z => exact rfl); (case c49z => exact rfl); k_whole); intro g'q L'q h'q FG'q F'q N'q B'q X'q T'q GS'q; (try dsimp only); (try k_fold))); k_steps)))
        all_goals
          refine' RowEnd.intro ?F ?N ?hy ?hm ?hD ?ev ?hT ?er ?hn ?ht
          case F => assumption
          case N => assumption
          case hy => rfl
          case hm => (intro z hz; simp only [hz, if_false])
          case hD => k_mem
          case ev => ((try simp only [List.toList_toArray, List.concat_eq_append]); exact rfl)
          case hT => k_mem
          case er => first | exact row_zero (by assumption) rfl | exact row_zero (by assumption) (decide_eq_true (by assumption)) | exact row_break (by assumption)
          case hn => exact fun p hp => by have hp' := hX p (List.mem_append_left _ hp); kcf_m
          case ht => exact fun p hp => by have hp' := hX p (List.mem_append_right _ hp); kcf_m
      case doneW =>
        intro t9 tk9 vs9 tl9 k9 h9 tk8 hle1 hle2 hSp hend hro hta F5 N5
        (refine let_P ?_; intro P9)
        refine SIs.out hS ?_
        clear hS
        intro a0 a1 a2 a3 a4 a5 a6 a7 a8 a9 a10 a11 a12 a13  e9
        subst e9
        obtain rfl := turn_while hTurn hle1 (by rw [hti]; exact hle2) (by rw [← htk1]; exact hSp) (by rw [← htk1, hti]; exact hend)
        (first | k_unfold | (show P9; k_unfold))
        (try k_fold)
        have ho10 := List.forall_mem_append.mpr ⟨g6, tup_offF hta N5 (.tail _ (.tail _ (.tail _ (.tail _ (.tail _ (.tail _ (.head _))))))) (fun p hp => .tail _ (List.mem_append_right _ hp)) rfl⟩
        simp only [List.cons_append, List.nil_append] at N5
        have hd10 : ∀ p ∈ dl, p ∈ dl ++ tl9 := fun p hp => List.mem_append_left _ hp
        have ht10 : ∀ p ∈ tl9, p ∈ dl ++ tl9 := fun p hp => List.mem_append_right _ hp
        generalize dl ++ tl9 = tl10 at N5 ho10 hd10 ht10
        k_steps
        refine Halt.go ?_
        (refine let_P ?_; intro P9)
        obtain ⟨hcp1, hcp2, hch1, hch2⟩ := inv_facts hInv (by rw [hti]; omega)
        obtain ⟨hml1, hml2⟩ := map_end_len
        obtain ⟨hmp1, hmp2, hmp3⟩ := idx_place kd hkd
        (first | k_unfold | (show P9; k_unfold))
        refine' C_put (q := q) ?B ?F ?X ?T ?hk ?N ?sub ?U hdx1 (fun p hp => hdx2 p (hsub p hp)) ?S hcp1 hcp2 hch1 hch2 hDok hsv hvv hml1 hml2 hmp1 hmp2 hmp3 ?hdp ?hu ?_
        case B => k_asm
        case F => k_asm
        case X => k_asm
        case T => k_asm
        case hk => exact rfl
        case N => k_asm
        case sub => exact List.forall_mem_cons.mpr ⟨by kcf_m, fun p hp => by have hp' := hd10 p (hsub p hp); kcf_m⟩
        case U => (intro o1; k_upd)
        case S => exact sIs_of rfl
        case hdp => ktr_room
        case hu => ktr_units
        intro f9 us9 tl8 k8 es8 h8 tk7 F6 N6 hfr6 S6 hro6 hta6 hul6 hoft6
        simp only [List.cons_append, List.nil_append] at N6
        k_steps
        (with_reducible rename Fr _ _ _ _ => F7)
        (with_reducible rename News _ _ _ _ => N7)
        refine Halt.go (LCg.CompSrc.ledger rfl F7 N7 (.head _) (by rw [PySem.sizeLine_eq, List.size_toArray]; omega) fun g => ?_)
        refine rest_same ?_ ?_
        · intro i8 v8 I8 oI8 C8 oC8 D8 m8 ys8 h7 tk6 E8 hv8 hC8 hx8 F8 N8 off8 ne8
          (refine let_P ?_; intro P9)
          obtain ⟨T8, p8, tk5, b8, n8, rfl, hm8⟩ := rowsIn_get hro6 (by simpa using hv8)
          (first | k_unfold | (show P9; k_unfold))
          (try k_fold)
          k_steps
          all_goals exact LCg.CompEnd.intro (by assumption) (by assumption) _ (by kcf_all) off8 (by lcg_src) ⟨rfl, rfl⟩
        · intro D9 h6 tk4 F9 N9 o9
          k_steps
          refine Halt.go ?_
          refine' ne_rows_same ?N ?m1 (rows_toList hro6) ?s1 ?m2 hro ?s2 ?u (due_is hTurn htk1) ?_
          case N => k_asm
          case m1 => k_mem
          case m2 => k_mem
          case s1 => kcf_all
          case s2 => exact fun p hp => by have hp' := ht10 p hp; kcf_m
          case u => ktr_units
          k_steps
          refine' loop_end ?F9 ?N9 ?i9 ?n9 rfl hccI hdI S6 hTurn hki rfl ?t9 ?s9
          case F9 => assumption
          case N9 => assumption
          case i9 => kcf_all
          case n9 => exact List.forall_mem_cons.mpr ⟨by kcf_m, List.forall_mem_cons.mpr ⟨by kcf_m, List.forall_mem_cons.mpr ⟨by kcf_m, List.forall_mem_cons.mpr ⟨by kcf_m, fun p hp => by have hp' := hd10 p hp; kcf_m⟩⟩⟩⟩
          case t9 => rfl
          case s9 =>
            intro y hy
            (refine let_P ?_; intro P9)
            obtain ⟨e1, e2, e3, e4, e5⟩ := same4 hy
            (first | k_unfold | (show P9; k_unfold))
            simp only [e1, e2, e3, e4, if_false, over_off e5]
    case done =>
      intro u2 c es told tk h₁ tk₁ hS hInv F2 N2
      (refine let_P ?_; intro P9)
      have hfx := facts_at N2 (by omega) (by omega) (by omega) hltd
      obtain ⟨hdx1, g3, g4, g5, g6⟩ := hfx
      (repeat (with_reducible rename (_ < _) ∧ _ => z9; clear z9))
      have hokk := kinds_ok hks'
      have hvl := strs_length hvs'
      have hk100 : ks'.length < 100 := by omega
      have htl := inv_le hInv
      have htz := inv_zero hInv
      obtain ⟨hcp1, hcp2, hch1, hch2⟩ := inv_facts hInv hkl'
      refine SIs.out hS ?_
      clear hS
      intro a0 a1 a2 a3 a4 a5 a6 a7 a8 a9 a10 a11 a12 a13  e9
      subst e9
      (first | k_unfold | (show P9; k_unfold))
      (try k_fold)
      dsimp only [ledL] at N2
      k_steps
      (with_reducible rename IsRange _ _ _ _ _ _ _ _ => hr1)
      (with_reducible rename Fr _ _ _ _ => F3)
      (with_reducible rename News _ _ _ _ => N3)
      refine Halt.go (LCg.CompSrc.range rfl F3 N3 hr1 (small_one (by omega) (by omega) (by omega) (by omega)) (rangeSize_nat _ _) (by rw [PySem.sizeLine_eq]; omega) fun g => ?_)
      refine rest_rowsF (a := told) (fun p => (endRow ks' p).2) (fun i v h => h) ?_ ?_
      · intro j t9 I9 oI9 C9 oC9 D9 m9 ys9 tl9 h9 tk9 E9 hj9 hyl9 hC9 hx9 F9 N9 off9 ne9
        (try simp only [List.cons_append, List.nil_append] at N9)
        (try k_fold)
        have hd10 : ∀ p ∈ dl, p ∈ dl ++ tl9 := fun p hp => List.mem_append_left _ hp
        have ht10 : ∀ p ∈ tl9, p ∈ dl ++ tl9 := fun p hp => List.mem_append_right _ hp
        generalize dl ++ tl9 = tl10 at N9 hd10 ht10
        (k_steps; repeat (any_goals ((first | ((with_reducible show Halt (wpAny _ _ (call (Value.ref 198) _) _ _ _)); refine Halt.go ?_; k_dflt (refine' C_deck ?B9z ?F9z ?X9z ?T9z ?hk9z ?N9z ?hL9z ?hv9z ?hlen9z ?hdp9z ?hu9z ?_; (case B9z => k_asm); (case F9z => k_asm); (case X9z => k_asm); (case T9z => k_asm); (case hk9z => first | exact rfl | assumption); (case N9z => k_asm); (case hL9z => first | assumption | exact listBase (by k_asm) (by assumption)); (case hv9z => assumption); (case hlen9z => omega); (case hdp9z => ktr_room); (case hu9z => ktr_units); k_whole); intro dk'q ll'q od'q lvs'q lns'q mx'q mt'q ln'q h'q tk'q st'q F'q N'q hdo'q hds'q hdl'q hf1'q hf2'q; (have hoff'q := allNe_of (off_all (by k_asm) hf1'q)); (have hoff2'q := allNe_of (off_all (by k_asm) hf2'q)); (try dsimp only [AllNe] at hoff'q hoff2'q); (try k_sweep)) | ((with_reducible show Halt (wpAny _ _ (call (Value.ref 150) _) _ _ _)); refine Halt.go ?_; k_dflt (refine' C_defaults ?B9z ?F9z ?X9z ?T9z ?hk9z ?N9z ?hdp9z ?hu9z ?_; (case B9z => k_asm); (case F9z => k_asm); (case X9z => k_asm); (case T9z => k_asm); (case hk9z => first | exact rfl | assumption); (case N9z => k_asm); (case hdp9z => ktr_room); (case hu9z => first | ktr_units | (have hcL9 := cLine_is; simp only [units_under_make, units_deeper, units_caller]; omega)); k_whole); intro df'q odf'q ndf'q h'q tk'q st'q F'q N'q hdf'q hdfs'q hdff'q; (have hoff'q := allNe_of (off_all (by k_asm) hdff'q)); (try dsimp only [AllNe] at hoff'q); (try k_sweep)) | ((with_reducible show Halt (wpAny _ _ (call (Value.ref 229) _) _ _ _)); refine Halt.go ?_; k_dflt (refine' C_issure ?B9z ?F9z ?X9z ?T9z ?hk9z ?N9z ?hl9z ?hv9z ?hlen9z ?hok9z ?p09z ?p19z ?hdp9z ?hu9z ?_; (case B9z => k_asm); (case F9z => k_asm); (case X9z => k_asm); (case T9z => k_asm); (case hk9z => first | exact rfl | assumption); (case N9z => k_asm); (case hl9z => exact News.get (by k_asm) (by k_mem)); (case hv9z => exact strs_pick (by assumption)); (case hlen9z => omega); (case hok9z => exact pick_sub (by assumption)); (case p09z => omega); (case p19z => omega); (case hdp9z => ktr_room); (case hu9z => ktr_units); k_whole); intro h'q tk'q st'q F'q N'q; (try k_sweep)) | ((with_reducible show Halt (wpAny _ _ (call (Value.ref 224) _) _ _ _)); refine Halt.go ?_; k_dflt (refine' C_isbreak ?B9z ?F9z ?X9z ?T9z ?hk9z ?N9z ?hl9z ?hv9z ?hlen9z ?hok9z ?p09z ?p19z ?hdp9z ?hu9z ?_; (case B9z => k_asm); (case F9z => k_asm); (case X9z => k_asm); (case T9z => k_asm); (case hk9z => first | exact rfl | assumption); (case N9z => k_asm); (case hl9z => exact News.get (by k_asm) (by k_mem)); (case hv9z => first | with_reducible assumption | exact strs_pick (by assumption)); (case hlen9z => omega); (case hok9z => first | with_reducible assumption | exact pick_sub (by assumption)); (case p09z => omega); (case p19z => omega); (case hdp9z => ktr_room); (case hu9z => ktr_units); k_whole); intro h'q tk'q st'q F'q N'q; (try k_sweep)) | ((with_reducible show Halt (wpAny _ _ (call (Value.ref _) _) _ _ _)); refine Halt.go ?_; k_dflt (refine' call_cls ?k19z ?k29z ?k39z ?k49z ?k59z ?k69z ?_; (case k19z => k_asm); (case k29z => k_asm); (case k39z => k_asm); (case k49z => k_is); (case k59z => k_is); (case k69z => k_is); k_whole; intro x'q d'q h'q F'q N'q l1 l2; (have l0 := lt_dl l1); (try k_lt l1); (try k_lt2 l2); (try k_sweep)); k_dflt (refine' code_defG ?k19z ?k29z ?k39z ?k49z ?k59z ?kA9z ?kF9z ?kK9z ?k69z ?k79z ?k89z ?k99z ?kB9z ?_ ?c29z ?c39z ?c49z ?c59z; (case kA9z => exact rfl); (case kF9z => exact rfl); (case kK9z => first | exact rfl | assumption); (case k19z => k_asm); (case k29z => k_asm); (case k39z => k_asm); (case k49z => k_asm); (case k59z => k_asm); (case k69z => k_is); (case k79z => k_is); (case k89z => ktr_room); (case k99z => exact BindsTo.of_eq rfl); (case c59z => decide); (case kB9z => exact locs rfl); (case c29z => exact rfl); (case c39z => exact rfl); (case c49z => exact rfl); k_whole); intro g'q L'q h'q FG'q F'q N'q B'q X'q T'q GS'q; (try dsimp only); (try k_fold))); k_steps)))
        · refine compEnd_row (by assumption) (by assumption) (by k_mem) (by k_mem) (by k_mem) (by k_mem) (by (repeat (refine List.forall_mem_cons.mpr ⟨by kcf_m, ?_⟩)); (exact fun p hp => by have hp' := hd10 p hp; kcf_m)) (fun p hp => by have hp' := ht10 p hp; kcf_m) off9 (by k_ne) (by k_ne) (by k_ne) trivial ⟨_, _, _, rfl, nw_eq (congrArg Prod.snd (end_is (by omega) (by first | rfl | exact decide_eq_true (by assumption))))⟩
        · refine compEnd_row (by assumption) (by assumption) (by k_mem) (by k_mem) (by k_mem) (by k_mem) (by (repeat (refine List.forall_mem_cons.mpr ⟨by kcf_m, ?_⟩)); (exact fun p hp => by have hp' := hd10 p hp; kcf_m)) (fun p hp => by have hp' := ht10 p hp; kcf_m) off9 (by k_ne) (by k_ne) (by k_ne) trivial ⟨_, _, _, rfl, nw_eq (congrArg Prod.snd (end_break (by omega)))⟩
      · intro ys tl hro hta
        intro D9 h9 tk9 F9 N9 o9
        simp only [List.cons_append, List.nil_append] at N9 o9
        have hD9 := off1_ne (p := (_, dictOf _ 8)) o9 (by k_mem)
        dsimp only at hD9
        clear o9
        have ht10 : ∀ p ∈ tl, p ∈ dl ++ tl := fun p hp => List.mem_append_right _ hp
        have ho10 := List.forall_mem_append.mpr ⟨g6, tup_offF hta N9 (by k_mem) (fun p hp => by have hp' := ht10 p hp; kcf_m) rfl⟩
        generalize dl ++ tl = tl10 at N9 ho10 ht10
        k_steps
        refine Halt.go ?_
        refine' C_finish (c := c) ?B ?F ?X ?T ?hk ?N ?sub ?U hdx1 ?S hcp1 hcp2 hch1 hch2 ?hdp ?hu ?_
        case B => k_asm
        case F => k_asm
        case X => k_asm
        case T => k_asm
        case hk => exact rfl
        case N => k_asm
        case sub => kcf_all
        case U => (intro o1; k_upd)
        case S => exact sIs_of rfl
        case hdp => ktr_room
        case hu => ktr_units
        intro f9 us9 tl8 k8 es8 h8 tk7 F6 N6 hfr6 hro6 hta6 hul6 hoft6
        simp only [List.cons_append, List.nil_append] at N6
        k_steps
        (with_reducible rename Fr _ _ _ _ => F7)
        (with_reducible rename News _ _ _ _ => N7)
        refine Halt.go (LCg.CompSrc.ledger rfl F7 N7 (.head _) (by rw [PySem.sizeLine_eq, List.size_toArray]; omega) fun g => ?_)
        refine rest_same ?_ ?_
        · intro i8 v8 I8 oI8 C8 oC8 D8 m8 ys8 h7 tk6 E8 hv8 hC8 hx8 F8 N8 off8 ne8
          (refine let_P ?_; intro P9)
          obtain ⟨T8, p8, tk5, b8, n8, rfl, hm8⟩ := rowsIn_get hro6 (by simpa using hv8)
          (first | k_unfold | (show P9; k_unfold))
          (try k_fold)
          k_steps
          all_goals exact LCg.CompEnd.intro (by assumption) (by assumption) _ (by kcf_all) off8 (by lcg_src) ⟨rfl, rfl⟩
        · intro D8 h6 tk4 F8 N8 o8
          k_steps
          refine Halt.go ?_
          by_cases hne : ks' = []
          · refine' ne_nil_no ?N ?m1 hvs' hokk ?m2 ?u hne ?_
            case N => k_asm
            case m1 => k_mem
            case m2 => k_mem
            case u => ktr_units
            k_steps
            refine Halt.go ?_
            refine' eq_rows_same ?N ?m1 (rows_toList hro6) ?s1 ?m2 (RowsIn.nil (tl := [])) ?s2 ?u (fin_nil hInv hne) ?_
            case N => k_asm
            case m1 => k_mem
            case m2 => k_mem
            case s1 => kcf_all
            case s2 => exact List.forall_mem_nil _
            case u => ktr_units
            k_steps
          · refine' ne_nil_yes ?N ?m1 hvs' hokk ?m2 ?u hne ?_
            case N => k_asm
            case m1 => k_mem
            case m2 => k_mem
            case u => ktr_units
            k_steps
            refine Halt.go ?_
            refine' eq_rows_same ?N ?m1 (rows_toList hro6) ?s1 ?m2 hro ?s2 ?u (fin_is hInv hne (by omega)) ?_
            case N => k_asm
            case m1 => k_mem
            case m2 => k_mem
            case s1 => kcf_all
            case s2 => exact fun p hp => by have hp' := ht10 p hp; kcf_m
            case u => ktr_units
            k_steps)
end V18part
end Mine
set_option maxRecDepth 100000 in
theorem PySem.Challenge.cw_on0369_01_holds : PySem.Challenge.rw_on0369_01.Holds :=
  Mine.lawT
