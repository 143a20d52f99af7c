import PyProof.Rows.All
import Wide.All
import OpenK.AllK
import Wide.FinOn
import Lean
import PySem.Challenge.RW_on0379_01
open PySem PySem.W PyProof.Rows PySem.Calls PySem.Spec
set_option Elab.async false
set_option maxRecDepth 100000
set_option rowWalk.seconds 0
namespace Mine
/-- the head: the top is run in the kernel in three looks, over a tree of objects, no state written out -/
noncomputable abbrev PR : Program := PySem.Challenge.rw_on0379_01.row.prog
noncomputable abbrev keepL : List Nat := [0, 2, 3, 4, 5, 7, 8, 9, 10, 11, 12, 13, 14, 15, 16, 17, 18, 20, 21, 22, 23, 25, 26, 27, 30, 34, 35, 36, 37, 38, 39, 40, 41, 42, 43, 44, 45, 46, 47, 48, 49, 50, 51, 52, 53, 54, 55, 56, 57, 58, 60, 61, 62, 64, 65, 67, 68, 69, 70, 71, 72, 73, 74, 75, 76, 77]
noncomputable def vw : Program := PySem.W.view PR keepL
noncomputable abbrev looseL : List Str := [Str.ofString "UniError", Str.ofString "SYLLABLES", Str.ofString "decomposed", Str.ofString "composed", Str.ofString "form_of", Str.ofString "quick_check", Str.ofString "is_form", Str.ofString "PREFIX"]
noncomputable abbrev lvL : List (Str × WData) := [(Str.ofString "SYLLABLES", WData.int 11172)]
noncomputable abbrev asL : List Addr := [2, 3, 15, 17, 18, 20, 21, 22, 29, 30, 32, 33, 35, 36, 37, 38, 39, 40, 43, 50, 51, 52, 55, 57, 58, 60, 61, 62, 64, 65, 67, 68, 69, 71, 72, 74, 75, 76, 78, 79, 81, 82, 83, 85, 86, 88, 89, 90, 92, 93, 95, 96, 97, 99, 100, 102, 103, 104, 106, 107, 109, 110, 111, 114, 115, 116, 117, 119, 120, 122, 123, 124, 126, 127, 129, 130, 131, 133, 134, 136, 137, 145, 147, 148, 150, 151, 152, 154, 155, 157, 158, 159, 161, 162, 164, 165, 166, 167, 168, 169, 170, 173, 174, 176, 177, 179, 180, 181, 182, 184, 185, 187, 188, 189, 191, 192, 194, 195, 196, 197, 199, 200, 202, 203, 204, 205, 207, 208, 210, 211, 212, 213, 214, 215, 223, 224, 226, 227, 229, 230, 231, 232, 233, 234, 235, 238, 240, 241, 243, 244, 245, 247, 248, 250, 251, 252, 254, 255, 257, 258, 259, 261, 262, 264, 265, 266, 269, 270, 271, 274, 275, 276, 278, 279, 281, 282, 283, 285, 286, 288, 289, 290, 292, 293, 295, 296, 297, 299, 300, 302, 303, 311, 313, 314, 316, 317, 318, 320, 321, 323, 324, 325, 327, 328, 330, 331, 332, 335, 336, 337, 339, 340, 342, 343, 344, 345, 346, 347, 348, 351, 353, 354, 356, 357, 358, 360, 361, 363, 364, 372, 374, 375, 377, 378, 379, 381, 382, 384, 385, 386, 388, 389, 391, 392, 393, 395, 396, 398, 399, 400, 401, 402, 403, 404, 407, 408, 410, 411, 413, 414, 415, 417, 418, 420, 421, 422, 425, 426, 427, 429, 430, 432, 433, 434, 436, 437, 439, 440, 441, 444, 445, 446, 449, 450, 451, 453, 454, 456, 457, 458, 461, 462, 463, 466, 467]
local macro_rules | `(tactic| o_head $_) => `(tactic| exact False.elim (by assumption))
/-- lays the written part of the heap, Tp.heap_1 -/
theorem Tp (h : False) : PySem.Challenge.rw_on0379_01.Holds := by
  refine holds_law h.elim fun said => ?_
  k_head
noncomputable def runG (st : (Code → Sem Fin) → Program → World → SharedT → Thread → Option (SharedT × Thread)) (ok : Nat → Option Value → Thread → Bool) (dn : (String → Option Builtin) → Code → Sem Fin) (tb : String → Option Builtin) (p : Program) (w : World) (n₀ : Nat) (ann : Option Value) : Nat → SharedT → Thread → Option SharedT
  | 0, _, _ => none
  | n + 1, s, t => match through t with
    | true => some s
    | false => match ok n₀ ann t with
      | false => none
      | true => match st (dn tb) p w s t with
        | some (s', t') => runG st ok dn tb p w n₀ ann n s' t'
        | none => none
theorem runT_of {tb : String → Option Builtin} {p : Program} {w : World} {n₀ : Nat} {ann : Option Value} : ∀ {n : Nat} {s s' : SharedT} {t : Thread}, runG stepT stepOk denote tb p w n₀ ann n s t = some s' → topRun tb p w n₀ ann n s.abs t = some s'.abs
  | 0, _, _, _, h => by cases h
  | n + 1, s, s', t, h => by
    unfold runG at h
    unfold topRun
    cases he : through t with
    | true => rw [he] at h; cases h; rfl
    | false =>
      rw [he] at h
      cases hk : stepOk n₀ ann t with
      | false => rw [hk] at h; cases h
      | true =>
        rw [hk] at h
        cases hs : stepT (denote tb) p w s t with
        | none => rw [hs] at h; cases h
        | some r => obtain ⟨s₂, t₂⟩ := r; rw [hs] at h; rw [stepT_spec hs]; exact runT_of h
theorem left_gen {p q : Program} {loose : List Str} {Xt : Shared → Bool} {α : Type} {Yf : Shared → α} {Ya : World → α} {g0 : Bool} {N m₀ : Nat} {ann : Option Value} {H₀ : Params → Heap} {T₀ : Params → BT} {life : Params → Life} {d₀ : Drawn} {k₀ : Nat}
    (op : ∀ w : World, (fencedOpening treeTable p w N).map (fun s => (s.heap, s.gens, s.drawn, s.toks)) = some (H₀ w.params, Array.mk [], d₀, k₀))
    (ab : ∀ P, absHeap (T₀ P) m₀ (life P) = H₀ P)
    (sz : ∀ P, ((H₀ P).isNs mainGlobals && (Array.mk [] : Array GenState).size == 0, (H₀ P).objs.size, (H₀ P).nsMap mainGlobals "__annotations__") = (true, m₀, ann))
    (h1 : ∀ (w : World) (os : OsState), (runG stepT stepOk denote treeTable p w m₀ ann N ⟨T₀ w.params, m₀, life w.params, Array.mk [], d₀, k₀, os⟩ (topStub p)).map (fun s => staticsOk (importedModules p.main.body) (H₀ w.params) s.abs.heap && namesBound p s.abs.heap && gensDone s.abs && laidKept (H₀ w.params) s.abs.heap) = some true)
    (h2 : ∀ (w : World) (os : OsState), (runG stepT stepOk denote treeTable p w m₀ ann N ⟨T₀ w.params, m₀, life w.params, Array.mk [], d₀, k₀, os⟩ (topStub p)).map (fun s => openSeen q loose (importedModules p.main.body) Xt g0 s.abs) = some (openGood q loose))
    (h3 : ∀ (w : World) (os : OsState), (runG stepT stepOk denote treeTable p w m₀ ann N ⟨T₀ w.params, m₀, life w.params, Array.mk [], d₀, k₀, os⟩ (topStub p)).map (fun s => Yf s.abs) = some (Ya w)) : LeftO p q loose Xt Yf Ya N g0 := fun w => by
  obtain ⟨⟨h', gs, d, k, os⟩, e, e'⟩ := Option.map_eq_some_iff.mp (op w)
  obtain ⟨rfl, rfl, rfl, rfl⟩ : h' = H₀ w.params ∧ gs = Array.mk [] ∧ d = d₀ ∧ k = k₀ := by simpa using e'
  unfold openEnds
  rw [e]
  obtain ⟨sT, r, x1⟩ := Option.map_eq_some_iff.mp (h1 w os)
  have x2 := h2 w os
  have x3 := h3 w os
  rw [r] at x2 x3
  have x2 := Option.some.inj x2
  have x3 := Option.some.inj x3
  have r' := runT_of r
  have z := sz w.params
  have z1 := congrArg Prod.fst z
  have z2 := congrArg (fun x => x.2.1) z
  have z3 := congrArg (fun x => x.2.2) z
  dsimp only at z1 z2 z3
  have e0 : (⟨T₀ w.params, m₀, life w.params, Array.mk [], d, k, os⟩ : SharedT).abs = ⟨H₀ w.params, Array.mk [], d, k, os⟩ := by
    show Shared.mk (absHeap (T₀ w.params) m₀ (life w.params)) _ _ _ _ = _
    rw [ab]
  rw [e0] at r'
  show ((topFrom treeTable p w N ⟨H₀ w.params, Array.mk [], d, k, os⟩).map _) = _
  unfold topFrom
  dsimp only
  rw [z1, z2, z3, r']
  dsimp only [Option.bind_some]
  rw [x1]
  exact congrArg some (Prod.ext x2 x3)
noncomputable def bootT (P : Params) : BT := (boot_heap P).objs.toList.foldl (fun (x : BT × Nat) o => (x.1.ins x.2 o, x.2 + 1)) (BT.nil, 0) |>.1
theorem boot_abs (P : Params) : absHeap (bootT P) 11 (boot_heap P).life = boot_heap P := by kernel_rfl
theorem open_law : ∀ w : World, (fencedOpening treeTable PR w 6600).map (fun s => (s.heap, s.gens, s.drawn, s.toks)) = some (boot_heap w.params, Array.mk [], boot_drawn, boot_toks) :=
  boot_open (by kernel_rfl) (by decide) (fun s => by kernel_rfl)
theorem boot_size (P : Params) : ((boot_heap P).isNs mainGlobals && (Array.mk [] : Array GenState).size == 0, (boot_heap P).objs.size, (boot_heap P).nsMap mainGlobals "__annotations__") = (true, 11, some (Value.ref 6)) := by kernel_rfl
noncomputable abbrev HK : Hook := kmHook Tp.heap_1 asL (fun _ => by kernel_rfl) [112]
noncomputable abbrev XtL (s : Shared) : Bool := xlAt vw lvL s && recOk (RowW.records PySem.Challenge.rw_on0379_01.row.toRowW) s
theorem look_1 (w : World) (os : OsState) : (runG stepT stepOk denote treeTable PR w 11 (some (Value.ref 6)) 6600 ⟨bootT w.params, 11, (boot_heap w.params).life, Array.mk [], boot_drawn, boot_toks, os⟩ (topStub PR)).map (fun s => (staticsOk (importedModules PR.main.body) (boot_heap w.params) s.abs.heap && namesBound PR s.abs.heap && gensDone s.abs && laidKept (boot_heap w.params) s.abs.heap, HK.obs s.abs)) = some (true, HK.val w) := by
  rw [Fast.te14364793385576792824, Fast.te10156331382660048174, Fast.te6613529449190102663, Fast.te11892475500146522536]
  kernel_rfl
theorem look_2 (w : World) (os : OsState) : (runG stepT stepOk denote treeTable PR w 11 (some (Value.ref 6)) 6600 ⟨bootT w.params, 11, (boot_heap w.params).life, Array.mk [], boot_drawn, boot_toks, os⟩ (topStub PR)).map (fun s => openSeen vw looseL (importedModules PR.main.body) XtL true s.abs) = some (openGood vw looseL) := by
  rw [Fast.te14364793385576792824, Fast.te10156331382660048174, Fast.te6613529449190102663, Fast.te11892475500146522536]
  kernel_rfl
theorem map_two {α β γ : Type} {x : Option α} {f : α → β} {g : α → γ} {b : β} {c : γ} (h : x.map (fun s => (f s, g s)) = some (b, c)) : x.map f = some b ∧ x.map g = some c := by
  cases x with
  | none => cases h
  | some a =>
    have e := Prod.mk.inj (Option.some.inj h)
    exact ⟨congrArg some e.1, congrArg some e.2⟩
theorem left_law : LeftO PR vw looseL XtL HK.obs HK.val 6600 := left_gen (T₀ := bootT) (life := fun P => (boot_heap P).life) open_law boot_abs boot_size (fun w os => (map_two (look_1 w os)).1) look_2 (fun w os => (map_two (look_1 w os)).2)
theorem said_law : OpenLaw.wellSaid PySem.Challenge.rw_on0379_01 = true := by
  rw [Fast.te9446332074065402090]
  kernel_rfl
theorem warm (w : World) : Tp.heap_1 w.params = Tp.heap_1 w.params ∧ PySem.Challenge.rw_on0379_01 = PySem.Challenge.rw_on0379_01 := by
  k_fill
  exact ⟨rfl, rfl⟩

local macro_rules | `(tactic| walk_at $s:str) => `(tactic| k_extra $s)
/-- nothing is raised -/
abbrev NoE : Value → Shared → Prop := fun _ _ => False

/-- a call from wherever a frame of the text's stands, d frames and 40 d units of room -/
def Callee (w : World) (f : Addr) (vs : List Value) (d : Nat) (s : Shared) (post : Value → Shared → Prop) : Prop :=
  ∀ (p : Program) (loose : List Str) (mean : ExcName → Option Value) (mg mb : Str → Option Value) (dp un : Nat) (gd : Option (List Code)) (cn : Str) (cs : Scope) (L a : Addr) (ccd : Value) (cl : List (Str × Addr)) (outer : List Env) (A₀ : Around) (base h₀ : Heap) (m : Str → Option Value),
    Below A₀ base outer h₀ → Fr h₀ L s.heap m → (Tp.heap_1 w.params).In h₀ → Top p loose mean mg mb h₀ → cs.kind = .function → dp + d < 1000 → un + 40 * d < 9900 →
    wpAny (model PR w) (ktrTop dp un gd cn cs L a ccd cl outer) (call (.ref f) vs) post NoE s

theorem Callee.use {w : World} {f : Addr} {vs : List Value} {d : Nat} {s : Shared} {post : Value → Shared → Prop} (C : Callee w f vs d s post)
    {p : Program} {loose : List Str} {mean : ExcName → Option Value} {mg mb : Str → Option Value} {dp un : Nat} {gd : Option (List Code)} {cn : Str} {cs : Scope} {L a : Addr} {ccd : Value} {cl : List (Str × Addr)} {outer : List Env} {A₀ : Around} {base h₀ : Heap} {m : Str → Option Value} {Q E : Value → Shared → Prop}
    (B : Below A₀ base outer h₀) (F : Fr h₀ L s.heap m) (X : (Tp.heap_1 w.params).In h₀) (T : Top p loose mean mg mb h₀) (hk : cs.kind = .function) (hd : dp + d < 1000) (hu : un + 40 * d < 9900)
    (k : ∀ v s', post v s' → Q v s') : wpAny (model PR w) (ktrTop dp un gd cn cs L a ccd cl outer) (call (.ref f) vs) Q E s :=
  wpAny_mono (C p loose mean mg mb dp un gd cn cs L a ccd cl outer A₀ base h₀ m B F X T hk hd hu) k (fun _ _ h => h.elim)

/-- a def's body, all that stood before it at rest -/
def Body (w : World) (qual : Str) (scope : Scope) (f : Addr) (cdv : Value) (body : List Stmt) (d : Nat) (s : Shared) (binds : List (Str × Value)) (post : Value → Shared → Prop) : Prop :=
  ∀ (p : Program) (loose : List Str) (mean : ExcName → Option Value) (mg mb : Str → Option Value) (dp un : Nat) (gd : Option (List Code)) (outer : List Env) (A₀ : Around) (base : Heap) (L' : Addr) (h₁ : Heap) (tk : Nat),
    Below A₀ base outer s.heap → Fr s.heap L' h₁ (fun y => binds.reverse.lookup y) → (Tp.heap_1 w.params).In s.heap → Top p loose mean mg mb s.heap → dp + d ≤ 1000 → un + 40 * d ≤ 9936 →
    wpAny (model PR w) (ktrTop dp un gd qual scope L' f cdv [] outer) (execs body (envOf qual scope L' f cdv)) (fun fl s' => post (match fl with | .ret v => v | _ => .none) s') NoE { s with heap := h₁, toks := tk }

theorem enter {w : World} {f : Addr} {vs : List Value} {d : Nat} {s : Shared} {post : Value → Shared → Prop} {name qual : Str} {params : Arguments} {body : List Stmt} {scope : Scope} {dV kV doc pm cdv ct oc : Value} {an od : Option Addr} {osl : Array (Option Value)} {binds : List (Str × Value)}
    (ho : (Tp.heap_1 w.params).lookup f = some ⟨oc, od, .func (fnOf name qual params body scope dV kV doc pm an cdv ct), osl⟩) (hcd : codeIn (Tp.heap_1 w.params) cdv qual = true)
    (hbind : (Tp.heap_1 w.params).In s.heap → BindsTo s (fnOf name qual params body scope dV kV doc pm an cdv ct) ⟨vs, []⟩ binds) (hloc : ∀ y ∈ binds, scope.names.lookup y.1 = some .local)
    (h : Body w qual scope f cdv body d s binds post)
    (hcell : ∀ x ∈ scope.names, x.2 ≠ .cell) (hco : scope.isCoroutine = false := by rfl) (hgen : scope.isGenerator = false := by rfl) (hk : scope.kind = .function := by rfl) : Callee w f vs d s post := by
  intro p loose mean mg mb dp un gd cn cs L a ccd cl outer A₀ base h₀ m B F X T hck hd hu
  have X' : (Tp.heap_1 w.params).In s.heap := Frag.In.keeps X F.keep
  refine wpAny_call ?_
  refine codeAny_call_def (fd := fnOf name qual params body scope dV kV doc pm an cdv ct) (body := body) (binds := binds) (by show dp < recursionLimit; unfold recursionLimit; omega) (X' _ _ ho) rfl (T.nolimit.keeps F.keep) (codeRec_of X' hcd) rfl (hbind X') hcell hloc (fun h₁ hns hk₁ => ?_) hco hgen hk
  have B₁ := pushX (env := envX cn cs L a ccd cl) B F rfl hck
  refine wpAny_mono (h p loose mean mg mb (dp + 1) (un + 3) gd (envX cn cs L a ccd cl :: outer) _ base s.heap.objs.size h₁ _ B₁ ⟨hns, hk₁, Nat.le_refl _⟩ X' (T.keeps F.keep) (by omega) (by omega)) (fun fl s' hp => hp) (fun _ _ x => x.elim)

/-- the heap has but grown, and P holds of the answer -/
def Ext (s : Shared) (P : Value → Heap → Prop) (v : Value) (s' : Shared) : Prop := ∃ h' tk, s' = { s with heap := h', toks := tk } ∧ s.heap.StaysIn h' ∧ P v h'

theorem Ext.intro {s : Shared} {P : Value → Heap → Prop} {v : Value} {h' : Heap} {tk : Nat} (st : s.heap.StaysIn h') (p : P v h') : Ext s P v { s with heap := h', toks := tk } := ⟨h', tk, rfl, st, p⟩

theorem wpAny_gen {α : Type} {M : Model} {A : Around} {t : Sem α} {Q0 : α → Shared → Prop} {E : Value → Shared → Prop} {s : Shared} (h : ∀ Q : α → Shared → Prop, (∀ f s', Q0 f s' → Q f s') → wpAny M A t Q E s) : wpAny M A t Q0 E s := h Q0 fun _ _ x => x
theorem gen_back {α : Type} {Q0 Q : α → Shared → Prop} {f : α} {s : Shared} (h : ∀ f s', Q0 f s' → Q f s') (k : Q0 f s) : Q f s := h f s k
/-- what stands behind a statement -/
def SeqK (M : Model) (A : Around) (rest : List Stmt) (env : Env) (Q : Flow → Shared → Prop) (E : Value → Shared → Prop) (f : Flow) (s : Shared) : Prop := match f with
  | .next => wpAny M A (execs rest env) Q E s
  | f => Q f s
section
variable {M : Model} {A : Around} {rest : List Stmt} {env : Env} {Q : Flow → Shared → Prop} {E : Value → Shared → Prop} {s : Shared} {st : Stmt}
theorem seq_cons (h : wpAny M A (exec st env) (SeqK M A rest env Q E) E s) : wpAny M A (execs (st :: rest) env) Q E s := wpAny_execs_cons h
theorem seq_one (h : wpAny M A (exec st env) Q E s) : wpAny M A (execs [st] env) Q E s := wpAny_execs_cons (wpAny_mono h (fun f s' x => by cases f <;> first | exact x | exact wpAny_execs_nil x) fun _ _ x => x)
theorem seq_next (h : wpAny M A (execs rest env) Q E s) : SeqK M A rest env Q E .next s := h
theorem seq_nil (h : Q .next s) : SeqK M A [] env Q E .next s := wpAny_execs_nil h
theorem seq_ret {v : Value} (h : Q (.ret v) s) : SeqK M A rest env Q E (.ret v) s := h
theorem seq_brk (h : Q .brk s) : SeqK M A rest env Q E .brk s := h
theorem seq_cont (h : Q .cont s) : SeqK M A rest env Q E .cont s := h
end
theorem news_of {h₀ h : Heap} {L : Addr} {m : Str → Option Value} (_ : Fr h₀ L h m) : News h₀ L h [] := News.nil
theorem fr_stays {h₀ h h' : Heap} {L : Addr} {m : Str → Option Value} (F : Fr h₀ L h m) (k : h.StaysIn h') : Fr h₀ L h' m := by
  obtain ⟨⟨oL, a1, a2, hL, a3⟩, k1, k2⟩ := F
  exact ⟨⟨oL, a1, a2, k _ _ hL, a3⟩, fun b o e => k b o (k1 b o e), k2⟩
theorem news_stays {h₀ h h' : Heap} {L : Addr} {news : List (Addr × Obj)} (N : News h₀ L h news) (k : h.StaysIn h') : News h₀ L h' news := fun p hp => ⟨k _ _ (N p hp).1, (N p hp).2⟩

theorem Callee.ext {w : World} {f : Addr} {vs : List Value} {d : Nat} {s : Shared} {P : Value → Heap → Prop} (C : Callee w f vs d s (Ext s P))
    {p : Program} {loose : List Str} {mean : ExcName → Option Value} {mg mb : Str → Option Value} {dp un : Nat} {gd : Option (List Code)} {cn : Str} {cs : Scope} {L a : Addr} {ccd : Value} {cl : List (Str × Addr)} {outer : List Env} {A₀ : Around} {base h₀ : Heap} {m : Str → Option Value} {Q E : Value → Shared → Prop} {news : List (Addr × Obj)}
    (B : Below A₀ base outer h₀) (F : Fr h₀ L s.heap m) (N : News h₀ L s.heap news) (X : (Tp.heap_1 w.params).In h₀) (T : Top p loose mean mg mb h₀) (hk : cs.kind = .function) (hdp : dp + d < 1000) (hun : un + 40 * d < 9900)
    (k : ∀ v h' tk, Fr h₀ L h' m → News h₀ L h' news → s.heap.StaysIn h' → P v h' → Q v { s with heap := h', toks := tk }) : wpAny (model PR w) (ktrTop dp un gd cn cs L a ccd cl outer) (call (.ref f) vs) Q E s :=
  Callee.use C B F X T hk hdp hun fun v s' ⟨h', tk, e, st, p⟩ => e ▸ k v h' tk (fr_stays F st) (news_stays N st) st p
theorem kw_01_1 : True := by
  k_with "mine gen" => (with_reducible refine wpAny_gen ?_); intro Q_k hQ_k
  k_with "execs cons" => with_reducible first | refine seq_one ?_ | refine seq_cons ?_
  k_with "SeqK" => with_reducible first | refine seq_nil ?_ | refine seq_next ?_ | refine seq_ret ?_ | refine seq_brk ?_ | refine seq_cont ?_
  k_with "mine enter" => first | (refine' enter (by k_is) (by k_is) (by (intro X9_k; first | exact BindsTo.of_eq rfl | exact binds_K X9_k rfl (by k_is) rfl rfl rfl)) (by exact locs rfl) ?_ (by decide) (by exact rfl) (by exact rfl) (by exact rfl)) | fail "no"
  k_with "mine steps" => first | (repeat' (first | (k_unfold; (try dsimp only)) | walk1 | (dsimp only; walk1) | (with_reducible refine gen_back (by assumption) ?_) | fail "no step")) | fail "no"
  k_with "mine body" => first | (intro p_k loose_k mean_k mg_k mb_k dp_k un_k gd_k outer_k A₀_k base_k L'_k h₁_k tk_k B_k F_k X_k T_k hdp_k hun_k; (have N_k := news_of F_k); (try dsimp only); (try k_fold); refine wpAny_gen ?_; intro Q_k hQ_k) | fail "no"
  k_with "mine use" => first | ((case kB => k_asm); (case kF => k_asm); (case kN => k_asm); (case kX => k_asm); (case kT => k_asm); (case kK => first | exact rfl | assumption); (case kd => first | omega | ((try dsimp only [ktrTop, Around.deeper, Around.in1] at *); omega)); (case ku => first | omega | ((try dsimp only [ktrTop, Around.deeper, Around.in1] at *); omega))) | fail "no"
  k_with "mine room" => first | (first | omega | ((try dsimp only [ktrTop, Around.deeper, Around.in1] at *); omega)) | fail "no"
  trivial
local macro_rules | `(tactic| k_lt $h) => `(tactic| (replace $h := allLt_of $h; dsimp only [AllLt] at $h:ident))
theorem kw_01_2 : True := by
  k_with "mine pick" => first | (omega) | fail "no"
  k_with "mine pick" => first | (first | exact (by assumption : (_ ≠ _ ∧ _) ∧ _).1.1 | exact Ne.symm (by assumption : (_ ≠ _ ∧ _) ∧ _).1.1 | exact (by assumption : (_ ∧ _ ≠ _ ∧ _) ∧ _).1.2.1 | exact Ne.symm (by assumption : (_ ∧ _ ≠ _ ∧ _) ∧ _).1.2.1 | exact (by assumption : (_ ∧ _ ∧ _ ≠ _) ∧ _).1.2.2 | exact Ne.symm (by assumption : (_ ∧ _ ∧ _ ≠ _) ∧ _).1.2.2 | exact (by assumption : _ ∧ (_ ≠ _ ∧ _) ∧ _).2.1.1 | exact Ne.symm (by assumption : _ ∧ (_ ≠ _ ∧ _) ∧ _).2.1.1 | exact (by assumption : _ ∧ (_ ∧ _ ≠ _ ∧ _) ∧ _).2.1.2.1 | exact Ne.symm (by assumption : _ ∧ (_ ∧ _ ≠ _ ∧ _) ∧ _).2.1.2.1 | exact (by assumption : _ ∧ (_ ∧ _ ∧ _ ≠ _) ∧ _).2.1.2.2 | exact Ne.symm (by assumption : _ ∧ (_ ∧ _ ∧ _ ≠ _) ∧ _).2.1.2.2 | exact (by assumption : _ ∧ (_ ≠ _ ∧ _)).2.1 | exact Ne.symm (by assumption : _ ∧ (_ ≠ _ ∧ _)).2.1 | exact (by assumption : _ ∧ (_ ∧ _ ≠ _ ∧ _)).2.2.1 | exact Ne.symm (by assumption : _ ∧ (_ ∧ _ ≠ _ ∧ _)).2.2.1 | exact (by assumption : _ ∧ (_ ∧ _ ∧ _ ≠ _)).2.2.2 | exact Ne.symm (by assumption : _ ∧ (_ ∧ _ ∧ _ ≠ _)).2.2.2 | exact (by assumption : _ ∧ _ ∧ (_ ≠ _ ∧ _) ∧ _).2.2.1.1 | exact Ne.symm (by assumption : _ ∧ _ ∧ (_ ≠ _ ∧ _) ∧ _).2.2.1.1 | exact (by assumption : _ ∧ _ ∧ (_ ∧ _ ≠ _ ∧ _) ∧ _).2.2.1.2.1 | exact Ne.symm (by assumption : _ ∧ _ ∧ (_ ∧ _ ≠ _ ∧ _) ∧ _).2.2.1.2.1 | exact (by assumption : _ ∧ _ ∧ (_ ∧ _ ∧ _ ≠ _) ∧ _).2.2.1.2.2 | exact Ne.symm (by assumption : _ ∧ _ ∧ (_ ∧ _ ∧ _ ≠ _) ∧ _).2.2.1.2.2 | exact (by assumption : _ ∧ _ ∧ (_ ≠ _ ∧ _)).2.2.1 | exact Ne.symm (by assumption : _ ∧ _ ∧ (_ ≠ _ ∧ _)).2.2.1 | exact (by assumption : _ ∧ _ ∧ (_ ∧ _ ≠ _ ∧ _)).2.2.2.1 | exact Ne.symm (by assumption : _ ∧ _ ∧ (_ ∧ _ ≠ _ ∧ _)).2.2.2.1 | exact (by assumption : _ ∧ _ ∧ (_ ∧ _ ∧ _ ≠ _)).2.2.2.2 | exact Ne.symm (by assumption : _ ∧ _ ∧ (_ ∧ _ ∧ _ ≠ _)).2.2.2.2 | exact (by assumption : _ ∧ _ ∧ _ ∧ (_ ≠ _ ∧ _) ∧ _).2.2.2.1.1 | exact Ne.symm (by assumption : _ ∧ _ ∧ _ ∧ (_ ≠ _ ∧ _) ∧ _).2.2.2.1.1 | exact (by assumption : _ ∧ _ ∧ _ ∧ (_ ∧ _ ≠ _ ∧ _) ∧ _).2.2.2.1.2.1 | exact Ne.symm (by assumption : _ ∧ _ ∧ _ ∧ (_ ∧ _ ≠ _ ∧ _) ∧ _).2.2.2.1.2.1 | exact (by assumption : _ ∧ _ ∧ _ ∧ (_ ∧ _ ∧ _ ≠ _) ∧ _).2.2.2.1.2.2 | exact Ne.symm (by assumption : _ ∧ _ ∧ _ ∧ (_ ∧ _ ∧ _ ≠ _) ∧ _).2.2.2.1.2.2 | exact (by assumption : _ ∧ _ ∧ _ ∧ (_ ≠ _ ∧ _)).2.2.2.1 | exact Ne.symm (by assumption : _ ∧ _ ∧ _ ∧ (_ ≠ _ ∧ _)).2.2.2.1 | exact (by assumption : _ ∧ _ ∧ _ ∧ (_ ∧ _ ≠ _ ∧ _)).2.2.2.2.1 | exact Ne.symm (by assumption : _ ∧ _ ∧ _ ∧ (_ ∧ _ ≠ _ ∧ _)).2.2.2.2.1 | exact (by assumption : _ ∧ _ ∧ _ ∧ (_ ∧ _ ∧ _ ≠ _)).2.2.2.2.2 | exact Ne.symm (by assumption : _ ∧ _ ∧ _ ∧ (_ ∧ _ ∧ _ ≠ _)).2.2.2.2.2 | exact (by assumption : _ ∧ _ ∧ _ ∧ _ ∧ (_ ≠ _ ∧ _) ∧ _).2.2.2.2.1.1 | exact Ne.symm (by assumption : _ ∧ _ ∧ _ ∧ _ ∧ (_ ≠ _ ∧ _) ∧ _).2.2.2.2.1.1 | exact (by assumption : _ ∧ _ ∧ _ ∧ _ ∧ (_ ∧ _ ≠ _ ∧ _) ∧ _).2.2.2.2.1.2.1 | exact Ne.symm (by assumption : _ ∧ _ ∧ _ ∧ _ ∧ (_ ∧ _ ≠ _ ∧ _) ∧ _).2.2.2.2.1.2.1 | exact (by assumption : _ ∧ _ ∧ _ ∧ _ ∧ (_ ∧ _ ∧ _ ≠ _) ∧ _).2.2.2.2.1.2.2 | exact Ne.symm (by assumption : _ ∧ _ ∧ _ ∧ _ ∧ (_ ∧ _ ∧ _ ≠ _) ∧ _).2.2.2.2.1.2.2 | exact (by assumption : _ ∧ _ ∧ _ ∧ _ ∧ (_ ≠ _ ∧ _)).2.2.2.2.1 | exact Ne.symm (by assumption : _ ∧ _ ∧ _ ∧ _ ∧ (_ ≠ _ ∧ _)).2.2.2.2.1 | exact (by assumption : _ ∧ _ ∧ _ ∧ _ ∧ (_ ∧ _ ≠ _ ∧ _)).2.2.2.2.2.1 | exact Ne.symm (by assumption : _ ∧ _ ∧ _ ∧ _ ∧ (_ ∧ _ ≠ _ ∧ _)).2.2.2.2.2.1 | exact (by assumption : _ ∧ _ ∧ _ ∧ _ ∧ (_ ∧ _ ∧ _ ≠ _)).2.2.2.2.2.2 | exact Ne.symm (by assumption : _ ∧ _ ∧ _ ∧ _ ∧ (_ ∧ _ ∧ _ ≠ _)).2.2.2.2.2.2 | exact (by assumption : _ ∧ _ ∧ _ ∧ _ ∧ _ ∧ (_ ≠ _ ∧ _) ∧ _).2.2.2.2.2.1.1 | exact Ne.symm (by assumption : _ ∧ _ ∧ _ ∧ _ ∧ _ ∧ (_ ≠ _ ∧ _) ∧ _).2.2.2.2.2.1.1 | exact (by assumption : _ ∧ _ ∧ _ ∧ _ ∧ _ ∧ (_ ∧ _ ≠ _ ∧ _) ∧ _).2.2.2.2.2.1.2.1 | exact Ne.symm (by assumption : _ ∧ _ ∧ _ ∧ _ ∧ _ ∧ (_ ∧ _ ≠ _ ∧ _) ∧ _).2.2.2.2.2.1.2.1 | exact (by assumption : _ ∧ _ ∧ _ ∧ _ ∧ _ ∧ (_ ∧ _ ∧ _ ≠ _) ∧ _).2.2.2.2.2.1.2.2 | exact Ne.symm (by assumption : _ ∧ _ ∧ _ ∧ _ ∧ _ ∧ (_ ∧ _ ∧ _ ≠ _) ∧ _).2.2.2.2.2.1.2.2 | exact (by assumption : _ ∧ _ ∧ _ ∧ _ ∧ _ ∧ (_ ≠ _ ∧ _)).2.2.2.2.2.1 | exact Ne.symm (by assumption : _ ∧ _ ∧ _ ∧ _ ∧ _ ∧ (_ ≠ _ ∧ _)).2.2.2.2.2.1 | exact (by assumption : _ ∧ _ ∧ _ ∧ _ ∧ _ ∧ (_ ∧ _ ≠ _ ∧ _)).2.2.2.2.2.2.1 | exact Ne.symm (by assumption : _ ∧ _ ∧ _ ∧ _ ∧ _ ∧ (_ ∧ _ ≠ _ ∧ _)).2.2.2.2.2.2.1 | exact (by assumption : _ ∧ _ ∧ _ ∧ _ ∧ _ ∧ (_ ∧ _ ∧ _ ≠ _)).2.2.2.2.2.2.2 | exact Ne.symm (by assumption : _ ∧ _ ∧ _ ∧ _ ∧ _ ∧ (_ ∧ _ ∧ _ ≠ _)).2.2.2.2.2.2.2 | exact (by assumption : _ ∧ _ ∧ _ ∧ _ ∧ _ ∧ _ ∧ (_ ≠ _ ∧ _) ∧ _).2.2.2.2.2.2.1.1 | exact Ne.symm (by assumption : _ ∧ _ ∧ _ ∧ _ ∧ _ ∧ _ ∧ (_ ≠ _ ∧ _) ∧ _).2.2.2.2.2.2.1.1 | exact (by assumption : _ ∧ _ ∧ _ ∧ _ ∧ _ ∧ _ ∧ (_ ∧ _ ≠ _ ∧ _) ∧ _).2.2.2.2.2.2.1.2.1 | exact Ne.symm (by assumption : _ ∧ _ ∧ _ ∧ _ ∧ _ ∧ _ ∧ (_ ∧ _ ≠ _ ∧ _) ∧ _).2.2.2.2.2.2.1.2.1 | exact (by assumption : _ ∧ _ ∧ _ ∧ _ ∧ _ ∧ _ ∧ (_ ∧ _ ∧ _ ≠ _) ∧ _).2.2.2.2.2.2.1.2.2 | exact Ne.symm (by assumption : _ ∧ _ ∧ _ ∧ _ ∧ _ ∧ _ ∧ (_ ∧ _ ∧ _ ≠ _) ∧ _).2.2.2.2.2.2.1.2.2 | exact (by assumption : _ ∧ _ ∧ _ ∧ _ ∧ _ ∧ _ ∧ (_ ≠ _ ∧ _)).2.2.2.2.2.2.1 | exact Ne.symm (by assumption : _ ∧ _ ∧ _ ∧ _ ∧ _ ∧ _ ∧ (_ ≠ _ ∧ _)).2.2.2.2.2.2.1 | exact (by assumption : _ ∧ _ ∧ _ ∧ _ ∧ _ ∧ _ ∧ (_ ∧ _ ≠ _ ∧ _)).2.2.2.2.2.2.2.1 | exact Ne.symm (by assumption : _ ∧ _ ∧ _ ∧ _ ∧ _ ∧ _ ∧ (_ ∧ _ ≠ _ ∧ _)).2.2.2.2.2.2.2.1 | exact (by assumption : _ ∧ _ ∧ _ ∧ _ ∧ _ ∧ _ ∧ (_ ∧ _ ∧ _ ≠ _)).2.2.2.2.2.2.2.2 | exact Ne.symm (by assumption : _ ∧ _ ∧ _ ∧ _ ∧ _ ∧ _ ∧ (_ ∧ _ ∧ _ ≠ _)).2.2.2.2.2.2.2.2 | exact (by assumption : _ ∧ _ ∧ _ ∧ _ ∧ _ ∧ _ ∧ _ ∧ (_ ≠ _ ∧ _) ∧ _).2.2.2.2.2.2.2.1.1 | exact Ne.symm (by assumption : _ ∧ _ ∧ _ ∧ _ ∧ _ ∧ _ ∧ _ ∧ (_ ≠ _ ∧ _) ∧ _).2.2.2.2.2.2.2.1.1 | exact (by assumption : _ ∧ _ ∧ _ ∧ _ ∧ _ ∧ _ ∧ _ ∧ (_ ∧ _ ≠ _ ∧ _) ∧ _).2.2.2.2.2.2.2.1.2.1 | exact Ne.symm (by assumption : _ ∧ _ ∧ _ ∧ _ ∧ _ ∧ _ ∧ _ ∧ (_ ∧ _ ≠ _ ∧ _) ∧ _).2.2.2.2.2.2.2.1.2.1 | exact (by assumption : _ ∧ _ ∧ _ ∧ _ ∧ _ ∧ _ ∧ _ ∧ (_ ∧ _ ∧ _ ≠ _) ∧ _).2.2.2.2.2.2.2.1.2.2 | exact Ne.symm (by assumption : _ ∧ _ ∧ _ ∧ _ ∧ _ ∧ _ ∧ _ ∧ (_ ∧ _ ∧ _ ≠ _) ∧ _).2.2.2.2.2.2.2.1.2.2 | exact (by assumption : _ ∧ _ ∧ _ ∧ _ ∧ _ ∧ _ ∧ _ ∧ (_ ≠ _ ∧ _)).2.2.2.2.2.2.2.1 | exact Ne.symm (by assumption : _ ∧ _ ∧ _ ∧ _ ∧ _ ∧ _ ∧ _ ∧ (_ ≠ _ ∧ _)).2.2.2.2.2.2.2.1 | exact (by assumption : _ ∧ _ ∧ _ ∧ _ ∧ _ ∧ _ ∧ _ ∧ (_ ∧ _ ≠ _ ∧ _)).2.2.2.2.2.2.2.2.1 | exact Ne.symm (by assumption : _ ∧ _ ∧ _ ∧ _ ∧ _ ∧ _ ∧ _ ∧ (_ ∧ _ ≠ _ ∧ _)).2.2.2.2.2.2.2.2.1 | exact (by assumption : _ ∧ _ ∧ _ ∧ _ ∧ _ ∧ _ ∧ _ ∧ (_ ∧ _ ∧ _ ≠ _)).2.2.2.2.2.2.2.2.2 | exact Ne.symm (by assumption : _ ∧ _ ∧ _ ∧ _ ∧ _ ∧ _ ∧ _ ∧ (_ ∧ _ ∧ _ ≠ _)).2.2.2.2.2.2.2.2.2 | exact (by assumption : _ ∧ _ ∧ _ ∧ _ ∧ _ ∧ _ ∧ _ ∧ _ ∧ (_ ≠ _ ∧ _) ∧ _).2.2.2.2.2.2.2.2.1.1 | exact Ne.symm (by assumption : _ ∧ _ ∧ _ ∧ _ ∧ _ ∧ _ ∧ _ ∧ _ ∧ (_ ≠ _ ∧ _) ∧ _).2.2.2.2.2.2.2.2.1.1 | exact (by assumption : _ ∧ _ ∧ _ ∧ _ ∧ _ ∧ _ ∧ _ ∧ _ ∧ (_ ∧ _ ≠ _ ∧ _) ∧ _).2.2.2.2.2.2.2.2.1.2.1 | exact Ne.symm (by assumption : _ ∧ _ ∧ _ ∧ _ ∧ _ ∧ _ ∧ _ ∧ _ ∧ (_ ∧ _ ≠ _ ∧ _) ∧ _).2.2.2.2.2.2.2.2.1.2.1 | exact (by assumption : _ ∧ _ ∧ _ ∧ _ ∧ _ ∧ _ ∧ _ ∧ _ ∧ (_ ∧ _ ∧ _ ≠ _) ∧ _).2.2.2.2.2.2.2.2.1.2.2 | exact Ne.symm (by assumption : _ ∧ _ ∧ _ ∧ _ ∧ _ ∧ _ ∧ _ ∧ _ ∧ (_ ∧ _ ∧ _ ≠ _) ∧ _).2.2.2.2.2.2.2.2.1.2.2 | exact (by assumption : _ ∧ _ ∧ _ ∧ _ ∧ _ ∧ _ ∧ _ ∧ _ ∧ (_ ≠ _ ∧ _)).2.2.2.2.2.2.2.2.1 | exact Ne.symm (by assumption : _ ∧ _ ∧ _ ∧ _ ∧ _ ∧ _ ∧ _ ∧ _ ∧ (_ ≠ _ ∧ _)).2.2.2.2.2.2.2.2.1 | exact (by assumption : _ ∧ _ ∧ _ ∧ _ ∧ _ ∧ _ ∧ _ ∧ _ ∧ (_ ∧ _ ≠ _ ∧ _)).2.2.2.2.2.2.2.2.2.1 | exact Ne.symm (by assumption : _ ∧ _ ∧ _ ∧ _ ∧ _ ∧ _ ∧ _ ∧ _ ∧ (_ ∧ _ ≠ _ ∧ _)).2.2.2.2.2.2.2.2.2.1 | exact (by assumption : _ ∧ _ ∧ _ ∧ _ ∧ _ ∧ _ ∧ _ ∧ _ ∧ (_ ∧ _ ∧ _ ≠ _)).2.2.2.2.2.2.2.2.2.2 | exact Ne.symm (by assumption : _ ∧ _ ∧ _ ∧ _ ∧ _ ∧ _ ∧ _ ∧ _ ∧ (_ ∧ _ ∧ _ ≠ _)).2.2.2.2.2.2.2.2.2.2 | exact (by assumption : _ ∧ _ ∧ _ ∧ _ ∧ _ ∧ _ ∧ _ ∧ _ ∧ _ ∧ (_ ≠ _ ∧ _) ∧ _).2.2.2.2.2.2.2.2.2.1.1 | exact Ne.symm (by assumption : _ ∧ _ ∧ _ ∧ _ ∧ _ ∧ _ ∧ _ ∧ _ ∧ _ ∧ (_ ≠ _ ∧ _) ∧ _).2.2.2.2.2.2.2.2.2.1.1 | exact (by assumption : _ ∧ _ ∧ _ ∧ _ ∧ _ ∧ _ ∧ _ ∧ _ ∧ _ ∧ (_ ∧ _ ≠ _ ∧ _) ∧ _).2.2.2.2.2.2.2.2.2.1.2.1 | exact Ne.symm (by assumption : _ ∧ _ ∧ _ ∧ _ ∧ _ ∧ _ ∧ _ ∧ _ ∧ _ ∧ (_ ∧ _ ≠ _ ∧ _) ∧ _).2.2.2.2.2.2.2.2.2.1.2.1 | exact (by assumption : _ ∧ _ ∧ _ ∧ _ ∧ _ ∧ _ ∧ _ ∧ _ ∧ _ ∧ (_ ∧ _ ∧ _ ≠ _) ∧ _).2.2.2.2.2.2.2.2.2.1.2.2 | exact Ne.symm (by assumption : _ ∧ _ ∧ _ ∧ _ ∧ _ ∧ _ ∧ _ ∧ _ ∧ _ ∧ (_ ∧ _ ∧ _ ≠ _) ∧ _).2.2.2.2.2.2.2.2.2.1.2.2 | exact (by assumption : _ ∧ _ ∧ _ ∧ _ ∧ _ ∧ _ ∧ _ ∧ _ ∧ _ ∧ (_ ≠ _ ∧ _)).2.2.2.2.2.2.2.2.2.1 | exact Ne.symm (by assumption : _ ∧ _ ∧ _ ∧ _ ∧ _ ∧ _ ∧ _ ∧ _ ∧ _ ∧ (_ ≠ _ ∧ _)).2.2.2.2.2.2.2.2.2.1 | exact (by assumption : _ ∧ _ ∧ _ ∧ _ ∧ _ ∧ _ ∧ _ ∧ _ ∧ _ ∧ (_ ∧ _ ≠ _ ∧ _)).2.2.2.2.2.2.2.2.2.2.1 | exact Ne.symm (by assumption : _ ∧ _ ∧ _ ∧ _ ∧ _ ∧ _ ∧ _ ∧ _ ∧ _ ∧ (_ ∧ _ ≠ _ ∧ _)).2.2.2.2.2.2.2.2.2.2.1 | exact (by assumption : _ ∧ _ ∧ _ ∧ _ ∧ _ ∧ _ ∧ _ ∧ _ ∧ _ ∧ (_ ∧ _ ∧ _ ≠ _)).2.2.2.2.2.2.2.2.2.2.2 | exact Ne.symm (by assumption : _ ∧ _ ∧ _ ∧ _ ∧ _ ∧ _ ∧ _ ∧ _ ∧ _ ∧ (_ ∧ _ ∧ _ ≠ _)).2.2.2.2.2.2.2.2.2.2.2) | fail "no"
  k_with "mine pick" => first | (first | exact (LCg.Off3.mem (by assumption) (_, _) (by k_mem)).2.2 | exact Ne.symm (LCg.Off3.mem (by assumption) (_, _) (by k_mem)).2.2 | exact (LCg.Off3.mem (by assumption) (_, _) (by k_mem)).1 | exact Ne.symm (LCg.Off3.mem (by assumption) (_, _) (by k_mem)).1 | exact (LCg.Off3.mem (by assumption) (_, _) (by k_mem)).2.1 | exact Ne.symm (LCg.Off3.mem (by assumption) (_, _) (by k_mem)).2.1) | fail "no"
  k_with "mine pick" => first | (first | (with_reducible assumption) | exact Ne.symm (by assumption) | exact Nat.ne_of_lt (by assumption : @LT.lt Nat _ _ _ ∧ _).1 | exact Nat.ne_of_gt (by assumption : @LT.lt Nat _ _ _ ∧ _).1 | exact Nat.ne_of_lt (by assumption : _ ∧ @LT.lt Nat _ _ _ ∧ _).2.1 | exact Nat.ne_of_gt (by assumption : _ ∧ @LT.lt Nat _ _ _ ∧ _).2.1 | exact Nat.ne_of_lt (by assumption : _ ∧ _ ∧ @LT.lt Nat _ _ _ ∧ _).2.2.1 | exact Nat.ne_of_gt (by assumption : _ ∧ _ ∧ @LT.lt Nat _ _ _ ∧ _).2.2.1 | exact Nat.ne_of_lt (by assumption : _ ∧ _ ∧ _ ∧ @LT.lt Nat _ _ _ ∧ _).2.2.2.1 | exact Nat.ne_of_gt (by assumption : _ ∧ _ ∧ _ ∧ @LT.lt Nat _ _ _ ∧ _).2.2.2.1 | exact Nat.ne_of_lt (by assumption : _ ∧ _ ∧ _ ∧ _ ∧ @LT.lt Nat _ _ _ ∧ _).2.2.2.2.1 | exact Nat.ne_of_gt (by assumption : _ ∧ _ ∧ _ ∧ _ ∧ @LT.lt Nat _ _ _ ∧ _).2.2.2.2.1 | exact Nat.ne_of_lt (by assumption : _ ∧ _ ∧ _ ∧ _ ∧ _ ∧ @LT.lt Nat _ _ _ ∧ _).2.2.2.2.2.1 | exact Nat.ne_of_gt (by assumption : _ ∧ _ ∧ _ ∧ _ ∧ _ ∧ @LT.lt Nat _ _ _ ∧ _).2.2.2.2.2.1 | exact Nat.ne_of_lt (by assumption : _ ∧ _ ∧ _ ∧ _ ∧ _ ∧ _ ∧ @LT.lt Nat _ _ _ ∧ _).2.2.2.2.2.2.1 | exact Nat.ne_of_gt (by assumption : _ ∧ _ ∧ _ ∧ _ ∧ _ ∧ _ ∧ @LT.lt Nat _ _ _ ∧ _).2.2.2.2.2.2.1 | exact Nat.ne_of_lt (by assumption : _ ∧ _ ∧ _ ∧ _ ∧ _ ∧ _ ∧ _ ∧ @LT.lt Nat _ _ _ ∧ _).2.2.2.2.2.2.2.1 | exact Nat.ne_of_gt (by assumption : _ ∧ _ ∧ _ ∧ _ ∧ _ ∧ _ ∧ _ ∧ @LT.lt Nat _ _ _ ∧ _).2.2.2.2.2.2.2.1 | exact Nat.ne_of_lt (by assumption : _ ∧ _ ∧ _ ∧ _ ∧ _ ∧ _ ∧ _ ∧ _ ∧ @LT.lt Nat _ _ _ ∧ _).2.2.2.2.2.2.2.2.1 | exact Nat.ne_of_gt (by assumption : _ ∧ _ ∧ _ ∧ _ ∧ _ ∧ _ ∧ _ ∧ _ ∧ @LT.lt Nat _ _ _ ∧ _).2.2.2.2.2.2.2.2.1 | exact Nat.ne_of_lt (by assumption : _ ∧ _ ∧ _ ∧ _ ∧ _ ∧ _ ∧ _ ∧ _ ∧ _ ∧ @LT.lt Nat _ _ _ ∧ _).2.2.2.2.2.2.2.2.2.1 | exact Nat.ne_of_gt (by assumption : _ ∧ _ ∧ _ ∧ _ ∧ _ ∧ _ ∧ _ ∧ _ ∧ _ ∧ @LT.lt Nat _ _ _ ∧ _).2.2.2.2.2.2.2.2.2.1 | exact Nat.ne_of_lt (by assumption : _ ∧ _ ∧ _ ∧ _ ∧ _ ∧ _ ∧ _ ∧ _ ∧ _ ∧ _ ∧ @LT.lt Nat _ _ _ ∧ _).2.2.2.2.2.2.2.2.2.2.1 | exact Nat.ne_of_gt (by assumption : _ ∧ _ ∧ _ ∧ _ ∧ _ ∧ _ ∧ _ ∧ _ ∧ _ ∧ _ ∧ @LT.lt Nat _ _ _ ∧ _).2.2.2.2.2.2.2.2.2.2.1 | exact Nat.ne_of_lt (by assumption : _ ∧ _ ∧ _ ∧ _ ∧ _ ∧ _ ∧ _ ∧ _ ∧ _ ∧ _ ∧ _ ∧ @LT.lt Nat _ _ _ ∧ _).2.2.2.2.2.2.2.2.2.2.2.1 | exact Nat.ne_of_gt (by assumption : _ ∧ _ ∧ _ ∧ _ ∧ _ ∧ _ ∧ _ ∧ _ ∧ _ ∧ _ ∧ _ ∧ @LT.lt Nat _ _ _ ∧ _).2.2.2.2.2.2.2.2.2.2.2.1 | exact Nat.ne_of_lt (by assumption : _ ∧ _ ∧ _ ∧ _ ∧ _ ∧ _ ∧ _ ∧ _ ∧ _ ∧ _ ∧ _ ∧ _ ∧ @LT.lt Nat _ _ _ ∧ _).2.2.2.2.2.2.2.2.2.2.2.2.1 | exact Nat.ne_of_gt (by assumption : _ ∧ _ ∧ _ ∧ _ ∧ _ ∧ _ ∧ _ ∧ _ ∧ _ ∧ _ ∧ _ ∧ _ ∧ @LT.lt Nat _ _ _ ∧ _).2.2.2.2.2.2.2.2.2.2.2.2.1 | exact Nat.ne_of_lt (by assumption : _ ∧ _ ∧ _ ∧ _ ∧ _ ∧ _ ∧ _ ∧ _ ∧ _ ∧ _ ∧ _ ∧ _ ∧ _ ∧ @LT.lt Nat _ _ _ ∧ _).2.2.2.2.2.2.2.2.2.2.2.2.2.1 | exact Nat.ne_of_gt (by assumption : _ ∧ _ ∧ _ ∧ _ ∧ _ ∧ _ ∧ _ ∧ _ ∧ _ ∧ _ ∧ _ ∧ _ ∧ _ ∧ @LT.lt Nat _ _ _ ∧ _).2.2.2.2.2.2.2.2.2.2.2.2.2.1 | exact Nat.ne_of_lt (by assumption : _ ∧ _ ∧ _ ∧ _ ∧ _ ∧ _ ∧ _ ∧ _ ∧ _ ∧ _ ∧ _ ∧ _ ∧ _ ∧ _ ∧ @LT.lt Nat _ _ _ ∧ _).2.2.2.2.2.2.2.2.2.2.2.2.2.2.1 | exact Nat.ne_of_gt (by assumption : _ ∧ _ ∧ _ ∧ _ ∧ _ ∧ _ ∧ _ ∧ _ ∧ _ ∧ _ ∧ _ ∧ _ ∧ _ ∧ _ ∧ @LT.lt Nat _ _ _ ∧ _).2.2.2.2.2.2.2.2.2.2.2.2.2.2.1 | exact Nat.ne_of_lt (by assumption : _ ∧ _ ∧ _ ∧ _ ∧ _ ∧ _ ∧ _ ∧ _ ∧ _ ∧ _ ∧ _ ∧ _ ∧ _ ∧ _ ∧ _ ∧ @LT.lt Nat _ _ _ ∧ _).2.2.2.2.2.2.2.2.2.2.2.2.2.2.2.1 | exact Nat.ne_of_gt (by assumption : _ ∧ _ ∧ _ ∧ _ ∧ _ ∧ _ ∧ _ ∧ _ ∧ _ ∧ _ ∧ _ ∧ _ ∧ _ ∧ _ ∧ _ ∧ @LT.lt Nat _ _ _ ∧ _).2.2.2.2.2.2.2.2.2.2.2.2.2.2.2.1) | fail "no"
  trivial
local macro_rules | `(tactic| k_ne) => `(tactic| (refine neN ?_; (try dsimp only); walk_at "mine pick"))

/-- place_by_half, as a function -/
def pbhGo (ns : List Int) (x : Int) : Nat → Int → Int → Int
  | 0, low, _ => low - 1
  | k + 1, low, high => if low < high then (if ns.getD ((low + high).fdiv 2).toNat 0 ≤ x then pbhGo ns x k ((low + high).fdiv 2 + 1) high else pbhGo ns x k low ((low + high).fdiv 2)) else low - 1
def pbh (ns : List Int) (x : Int) : Int := pbhGo ns x ns.length 0 ns.length

theorem fdiv2 (a : Int) : a.fdiv 2 = a / 2 := by rw [Int.fdiv_eq_ediv_of_nonneg _ (by decide)]
theorem mid_hi {low high : Int} {k : Nat} (h : low < high) (hk : (high - low).toNat ≤ k + 1) : (high - ((low + high) / 2 + 1)).toNat ≤ k := by omega
theorem mid_lo {low high : Int} {k : Nat} (h : low < high) (hk : (high - low).toNat ≤ k + 1) : ((low + high) / 2 - low).toNat ≤ k := by omega
theorem mid_ex {low high : Int} (h : low < high) : ∃ j, (high - low).toNat = j + 1 := ⟨(high - low).toNat - 1, by omega⟩
theorem no_mid {low high : Int} (h : (high - low).toNat ≤ 0) : ¬ low < high := by omega
theorem pbh_same (ns : List Int) (x : Int) : ∀ (k k' : Nat) (low high : Int), (high - low).toNat ≤ k → (high - low).toNat ≤ k' → pbhGo ns x k low high = pbhGo ns x k' low high
  | 0, 0, _, _, _, _ => rfl
  | 0, k' + 1, low, high, h, _ => by simp only [pbhGo, if_neg (no_mid h)]
  | k + 1, 0, low, high, _, h => by simp only [pbhGo, if_neg (no_mid h)]
  | k + 1, k' + 1, low, high, h, h' => by
    by_cases hl : low < high
    · simp only [pbhGo, if_pos hl, fdiv2]
      rw [pbh_same ns x k k' _ _ (mid_hi hl h) (mid_hi hl h'), pbh_same ns x k k' _ _ (mid_lo hl h) (mid_lo hl h')]
    · simp only [pbhGo, if_neg hl]
theorem pbh_more (ns : List Int) (x : Int) (k : Nat) (low high : Int) (h : (high - low).toNat ≤ k) : pbhGo ns x (high - low).toNat low high = pbhGo ns x k low high := pbh_same ns x _ _ _ _ (Nat.le_refl _) h
abbrev PlP (ns : List Int) (n low high : Int) : Prop := 0 ≤ low ∧ low ≤ high ∧ high ≤ (ns.length : Int) ∧ pbhGo ns n (high - low).toNat low high = pbh ns n
theorem pl_start (ns : List Int) (n : Int) : PlP ns n 0 ns.length := ⟨by omega, by omega, by omega, by simp only [pbh, Int.sub_zero, Int.toNat_natCast]⟩
theorem pl_up {ns : List Int} {n low high : Int} (h1 : 0 ≤ low) (_ : low ≤ high) (h3 : high ≤ (ns.length : Int)) (h4 : pbhGo ns n (high - low).toNat low high = pbh ns n) (hlt : low < high) (hle : ns.getD ((low + high).fdiv 2).toNat 0 ≤ n) :
    PlP ns n ((low + high).fdiv 2 + 1) high := by
  obtain ⟨j, hj⟩ := mid_ex hlt
  rw [hj] at h4
  simp only [pbhGo, if_pos hlt, if_pos hle] at h4
  refine ⟨by rw [fdiv2]; omega, by rw [fdiv2]; omega, h3, ?_⟩
  rw [pbh_more _ _ j _ _ (by rw [fdiv2]; exact mid_hi hlt (Nat.le_of_eq hj))]
  exact h4
theorem pl_down {ns : List Int} {n low high : Int} (h1 : 0 ≤ low) (_ : low ≤ high) (h3 : high ≤ (ns.length : Int)) (h4 : pbhGo ns n (high - low).toNat low high = pbh ns n) (hlt : low < high) (hle : ¬ ns.getD ((low + high).fdiv 2).toNat 0 ≤ n) :
    PlP ns n low ((low + high).fdiv 2) := by
  obtain ⟨j, hj⟩ := mid_ex hlt
  rw [hj] at h4
  simp only [pbhGo, if_pos hlt, if_neg hle] at h4
  refine ⟨h1, by rw [fdiv2]; omega, by rw [fdiv2]; omega, ?_⟩
  rw [pbh_more _ _ j _ _ (by rw [fdiv2]; exact mid_lo hlt (Nat.le_of_eq hj))]
  exact h4
theorem pl_end {ns : List Int} {n low high : Int} (h2 : low ≤ high) (h4 : pbhGo ns n (high - low).toNat low high = pbh ns n) (hlt : ¬ low < high) : low - 1 = pbh ns n := by
  have : (high - low).toNat = 0 := by omega
  rw [this] at h4
  exact h4

set_option maxHeartbeats 4000000 in
theorem c_place (w : World) (s : Shared) (l : Addr) (vs : List Value) (ns : List Int) (n : Int) (t : Tok) (hl : s.heap.IsList l vs.toArray) (hi : IntsAre vs ns) (hn : ns.length < 2 ^ 20) :
    Callee w 61 [.ref l, .int n t] 1 s (Ext s fun v _ => ∃ t', v = .int (pbh ns n) t') := by
  have tg_c_place : True := trivial
  walk_at "mine enter"
  walk_at "mine body"
  k_with "exec While Compare cons nil" => ((fail_if_success (fail_if_success (clear tg_c_place))); first | (k_while (fun script low high => 0 ≤ low ∧ low ≤ high ∧ high ≤ (script.length : Int) ∧ pbhGo script n (high - low).toNat low high = pbh script n) (fun _ low high => (high - low).toNat) "low" "high") | fail "no")
  k_with "state" => first | (first | exact pl_start _ _ | exact pl_up (by assumption) (by assumption) (by assumption) (by assumption) (by assumption) (by assumption) | exact pl_down (by assumption) (by assumption) (by assumption) (by assumption) (by assumption) (by assumption)) | fail "no"
  k_with "measure" => first | (simp only [fdiv2]; omega) | fail "no"
  walk_at "mine steps"
  all_goals exact Ext.intro (Fr.keep (by assumption)) ⟨_, congrArg (Value.int · _) (pl_end (by assumption) (by assumption) (by assumption))⟩

/-- an object x of class C, its fields in a dict -/
structure Inst (h : Heap) (x C : Addr) (es : List DictEntry) (n : Nat) : Prop where
  ex : ∃ dx, h.get? x = some (instObj C dx) ∧ h.get? dx = some (dictOf es n)
theorem Inst.keeps {h h' : Heap} {x C : Addr} {es : List DictEntry} {n : Nat} (I : Inst h x C es n) (k : h.StaysIn h') : Inst h' x C es n := by
  obtain ⟨dx, h1, h2⟩ := I.ex
  exact ⟨dx, k _ _ h1, k _ _ h2⟩
theorem inst_of_base {g h : Heap} {x C dx : Addr} {od : Obj} (h1 : g.get? x = some (instObj C dx)) (h2 : g.get? dx = some od) (F : g.StaysIn h) : PySem.W.InstAt h x (instObj C dx) C (some od) := ⟨F _ _ h1, rfl, rfl, F _ _ h2⟩
theorem isList_keeps {h h' : Heap} {l : Addr} {xs : Array Value} (I : h.IsList l xs) (k : h.StaysIn h') : h'.IsList l xs := let ⟨o, a, b⟩ := I; ⟨o, k _ _ a, b⟩
theorem isList_fr {g h : Heap} {l L : Addr} {xs : Array Value} {m : Str → Option Value} (F : Fr g L h m) (I : g.IsList l xs) : h.IsList l xs := isList_keeps I F.keep
theorem item_base {prog : Program} {w : World} {A : Around} {E : Value → Shared → Prop} {s : Shared} {g : Heap} {l : Addr} {value slice : PySem.Expr} {xs : List Value} {k : Int} {u : Tok} {v : Value} {Q : Value → Shared → Prop}
    (hl : g.IsList l xs.toArray) (F : g.StaysIn s.heap) (h0 : 0 ≤ k) (hhi : k < 2 ^ 63) (hx : xs[k.toNat]? = some v) (h : Q v s)
    (hs : subscripted slice false (.ref l) (.int k u) = operate [.ref l, .int k u] (getItem (.ref l) (.int k u)) := by with_unfolding_all rfl) :
    wpAny (model prog w) A (subscriptTail value slice (.ref l) (.int k u)) Q E s :=
  have hl' := isList_keeps hl F
  tail_any hl'.typeIs slot_list_getitem.lookup (wpAny_getItem_list hl' h0 hhi (by simpa using hx) h) hs
theorem kw_03_1 : True := by
  k_with "mine keep" => first | (exact Fr.keep (by k_asm)) | fail "no"
  trivial
local macro_rules | `(tactic| k_inst) => `(tactic| (refine' inst_of_base ?h1 ?h2 ?F; (case h1 => assumption); (case h2 => assumption); (case F => walk_at "mine keep")))
theorem kw_03_2 : True := by
  k_with "mine item" => first | ((with_unfolding_all refine' item_base (by assumption) (by walk_at "mine keep") (by first | assumption | omega) (by first | assumption | omega) (by assumption) ?_ (by with_unfolding_all rfl)); k_whole) | fail "no"
  k_with "subscriptTail" => first | (k_here; (with_reducible show wpAny _ _ (subscriptTail _ _ (Value.ref _) (Value.int _ _)) _ _ _); walk_at "mine item") | fail "no"
  trivial
abbrev rmEs (w : World) (t1 t2 t3 : Tok) (dv : Value) (ls lv : Addr) : List DictEntry := [⟨PyData.keyHash w.params (Str.ofString "default"), .str (Str.ofString "default") t1, dv⟩, ⟨PyData.keyHash w.params (Str.ofString "starts"), .str (Str.ofString "starts") t2, .ref ls⟩, ⟨PyData.keyHash w.params (Str.ofString "values"), .str (Str.ofString "values") t3, .ref lv⟩]
/-- a RangeMap at r: what it holds -/
inductive RMap (w : World) (h : Heap) (r dx : Addr) (dv : Value) (ns : List Int) (xs : List Value) : Prop
  | mk (ls lv : Addr) (vs : List Value) (t1 t2 t3 : Tok) : h.get? r = some (instObj 346 dx) → h.get? dx = some (dictOf (rmEs w t1 t2 t3 dv ls lv) 3) → h.IsList ls vs.toArray → IntsAre vs ns → h.IsList lv xs.toArray → RMap w h r dx dv ns xs

set_option maxHeartbeats 4000000 in
theorem c_rget (w : World) (s : Shared) (r dx : Addr) (dv : Value) (ns : List Int) (xs : List Value) (n : Int) (t : Tok) (x : Value) (R : RMap w s.heap r dx dv ns xs) (hn : ns.length < 2 ^ 20) (h0 : 0 ≤ pbh ns n) (h63 : pbh ns n < 2 ^ 63) (hx : xs[(pbh ns n).toNat]? = some x) :
    Callee w 324 [.ref r, .int n t] 2 s (Ext s fun v _ => v = x) := by
  have tg_c_rget : True := trivial
  obtain ⟨ls, lv, vs, t1, t2, t3, hr, hdx, hs, hi, hv⟩ := R
  walk_at "mine enter"
  walk_at "mine body"
  k_with "call ref" => ((fail_if_success (fail_if_success (clear tg_c_rget))); first | k_dflt ((refine' Callee.ext (c_place w _ ls vs ns n _ (by exact isList_fr (by k_asm) hs) hi hn) (by k_asm) (by k_asm) (by k_asm) (by k_asm) (by k_asm) (by first | exact rfl | assumption) (by walk_at "mine room") (by walk_at "mine room") ?_; rintro v' h' tk' F' N' - ⟨t', rfl⟩)) | fail "no")
  walk_at "mine steps"
  all_goals exact Ext.intro (Fr.keep (by assumption)) rfl

section
variable {w : World} {A : Around} {E : Value → Shared → Prop} {s : Shared} {g : Heap} {d : Addr} {kvs : List (Str × Value)} {x : Str} {t : Tok} {v : Value} {Q : Value → Shared → Prop}
theorem dict_fr (F : g.StaysIn s.heap) (hm : g.DictOf (strKind PR w) d kvs) : s.heap.DictOf (strKind PR w) d kvs := hm.keep F
theorem in_yes (hm : g.DictOf (strKind PR w) d kvs) (F : g.StaysIn s.heap) (hd : (d == sysModules) = false) (hv : valueAt kvs x = some v) (h : Q (.bool true) { s with toks := s.toks + 1 }) : wpAny (model PR w) A (compareOp .In (.str x t) (.ref d)) Q E s :=
  wpAny_in_of (strKind_is PR w x t) hd (dict_fr F hm).mapOf (by rw [hv]; exact h)
theorem in_no (hm : g.DictOf (strKind PR w) d kvs) (F : g.StaysIn s.heap) (hd : (d == sysModules) = false) (hv : valueAt kvs x = none) (h : Q (.bool false) { s with toks := s.toks + 1 }) : wpAny (model PR w) A (compareOp .In (.str x t) (.ref d)) Q E s :=
  wpAny_in_of (strKind_is PR w x t) hd (dict_fr F hm).mapOf (by rw [hv]; exact h)
theorem notin_yes (hm : g.DictOf (strKind PR w) d kvs) (F : g.StaysIn s.heap) (hd : (d == sysModules) = false) (hv : valueAt kvs x = some v) (h : Q (.bool false) { s with toks := s.toks + 1 }) : wpAny (model PR w) A (compareOp .NotIn (.str x t) (.ref d)) Q E s :=
  wpAny_notIn_of (strKind_is PR w x t) hd (dict_fr F hm).mapOf (by rw [hv]; exact h)
theorem notin_no (hm : g.DictOf (strKind PR w) d kvs) (F : g.StaysIn s.heap) (hd : (d == sysModules) = false) (hv : valueAt kvs x = none) (h : Q (.bool true) { s with toks := s.toks + 1 }) : wpAny (model PR w) A (compareOp .NotIn (.str x t) (.ref d)) Q E s :=
  wpAny_notIn_of (strKind_is PR w x t) hd (dict_fr F hm).mapOf (by rw [hv]; exact h)
theorem key_base {value slice : PySem.Expr} (hm : g.DictOf (strKind PR w) d kvs) (F : g.StaysIn s.heap) (hv : valueAt kvs x = some v) (h : Q v { s with toks := s.toks + 1 })
    (hs : subscripted slice false (.ref d) (.str x t) = operate [.ref d, .str x t] (getItem (.ref d) (.str x t)) := by with_unfolding_all rfl) :
    wpAny (model PR w) A (subscriptTail value slice (.ref d) (.str x t)) Q E s :=
  have hm' := (dict_fr F hm).mapOf
  tail_any hm'.typeIs slot_dict_getitem.lookup (wpAny_getItem_of (strKind_is PR w x t) hm' hv h) hs
end
theorem kw_04_1 : True := by
  k_with "compareOp In str ref" => first | (k_here; k_dflt (first | (refine' in_yes (by assumption) (by walk_at "mine keep") (by assumption) (by assumption) ?_; k_whole) | (refine' in_no (by assumption) (by walk_at "mine keep") (by assumption) (by assumption) ?_; k_whole))) | fail "no"
  k_with "compareOp NotIn str ref" => first | (k_here; k_dflt (first | (refine' notin_yes (by assumption) (by walk_at "mine keep") (by assumption) (by assumption) ?_; k_whole) | (refine' notin_no (by assumption) (by walk_at "mine keep") (by assumption) (by assumption) ?_; k_whole))) | fail "no"
  k_with "subscriptTail" => first | (k_here; (with_reducible show wpAny _ _ (subscriptTail _ _ (Value.ref _) (Value.str _ _)) _ _ _); (with_unfolding_all refine' key_base (by assumption) (by walk_at "mine keep") (by assumption) ?_ (by with_unfolding_all rfl)); k_whole) | fail "no"
  trivial
abbrev daEs (w : World) (t1 t2 t3 t4 : Tok) (dd mm : Addr) (v3 v4 : Value) : List DictEntry := [⟨PyData.keyHash w.params (Str.ofString "defaults"), .str (Str.ofString "defaults") t1, .ref dd⟩, ⟨PyData.keyHash w.params (Str.ofString "maps"), .str (Str.ofString "maps") t2, .ref mm⟩, ⟨PyData.keyHash w.params (Str.ofString "properties"), .str (Str.ofString "properties") t3, v3⟩, ⟨PyData.keyHash w.params (Str.ofString "words"), .str (Str.ofString "words") t4, v4⟩]
/-- a Data at d: its defaults and its maps -/
inductive DataAt (w : World) (h : Heap) (d dx dd mm : Addr) (dkv mkv : List (Str × Value)) : Prop
  | mk (v3 v4 : Value) (t1 t2 t3 t4 : Tok) : h.get? d = some (instObj 402 dx) → h.get? dx = some (dictOf (daEs w t1 t2 t3 t4 dd mm v3 v4) 4) →
    h.DictOf (strKind PR w) dd dkv → (dd == sysModules) = false → h.DictOf (strKind PR w) mm mkv → (mm == sysModules) = false → DataAt w h d dx dd mm dkv mkv

theorem RMap.keeps {w : World} {h h' : Heap} {r dx : Addr} {dv : Value} {ns : List Int} {xs : List Value} (R : RMap w h r dx dv ns xs) (k : h.StaysIn h') : RMap w h' r dx dv ns xs := by
  obtain ⟨ls, lv, vs, t1, t2, t3, a, b, c, d, e⟩ := R
  exact ⟨ls, lv, vs, t1, t2, t3, k _ _ a, k _ _ b, isList_keeps c k, d, isList_keeps e k⟩
theorem DataAt.keeps {w : World} {h h' : Heap} {d dx dd mm : Addr} {dkv mkv : List (Str × Value)} (D : DataAt w h d dx dd mm dkv mkv) (k : h.StaysIn h') : DataAt w h' d dx dd mm dkv mkv := by
  obtain ⟨v3, v4, t1, t2, t3, t4, a, b, c, e, f, i⟩ := D
  exact ⟨v3, v4, t1, t2, t3, t4, k _ _ a, k _ _ b, c.keep k, e, f.keep k, i⟩

set_option maxHeartbeats 4000000 in
theorem c_dget (w : World) (s : Shared) (d ddx dd mm : Addr) (dkv mkv : List (Str × Value)) (name : Str) (tn : Tok) (r rx : Addr) (dv : Value) (ns : List Int) (xs : List Value) (n : Int) (t : Tok) (x : Value)
    (D : DataAt w s.heap d ddx dd mm dkv mkv) (hM : valueAt mkv name = some (.ref r)) (R : RMap w s.heap r rx dv ns xs) (hn : ns.length < 2 ^ 20) (h0 : 0 ≤ pbh ns n) (h63 : pbh ns n < 2 ^ 63) (hx : xs[(pbh ns n).toNat]? = some x) :
    Callee w 392 [.ref d, .str name tn, .int n t] 3 s (Ext s fun v _ => v = x) := by
  have tg_c_dget : True := trivial
  obtain ⟨v3, v4, t1, t2, t3, t4, hd, hdx, hdd, hdd', hmm, hmm'⟩ := D
  obtain ⟨ls, lv, vs, t5, t6, t7, hr, hrx, -, -, -⟩ := id R
  walk_at "mine enter"
  walk_at "mine body"
  k_with "call ref" => ((fail_if_success (fail_if_success (clear tg_c_dget))); first | k_dflt ((refine' Callee.ext (c_rget w _ r rx dv ns xs n _ x (by exact R.keeps (Fr.keep (by k_asm))) hn h0 h63 hx) (by k_asm) (by k_asm) (by k_asm) (by k_asm) (by k_asm) (by first | exact rfl | assumption) (by walk_at "mine room") (by walk_at "mine room") ?_; rintro v' h' tk' F' N' - rfl)) | fail "no")
  walk_at "mine steps"
  all_goals exact Ext.intro (Fr.keep (by assumption)) rfl

/-- a datum whose type is not bool -/
def plainK : PyData → Bool
  | .none => true
  | .int _ => true
  | .str _ => true
  | .tuple _ => true
  | _ => false
theorem isi_not_bool {prog : Program} {w : World} {A : Around} {E : Value → Shared → Prop} {s : Shared} {v : Value} {d : PyData} {as : List Addr} {Q : Value → Shared → Prop} (R : Reads s.heap v d as) (hk : plainK d = true) (h : ∀ tk, Q (.bool false) { s with toks := tk }) :
    wpAny (model prog w) A (call (.builtin "isinstance") [v, .type "bool"]) Q E s :=
  Reads.casesOn (motive_1 := fun v d _ _ => plainK d = true → wpAny (model prog w) A (call (.builtin "isinstance") [v, .type "bool"]) Q E s) R (fun _ => PySem.IsiPair.NoneType_bool (h _)) (fun _ hk => nomatch hk) (fun _ _ _ => PySem.IsiPair.int_bool (h _)) (fun _ _ _ => PySem.IsiPair.str_bool (h _)) (fun _ _ _ _ hk => nomatch hk) (fun h1 h2 _ _ _ => PySem.IsiPair.tuple_bool h1 h2 (h _)) (fun _ _ _ _ _ hk => nomatch hk) hk

set_option maxHeartbeats 4000000 in
theorem c_like (w : World) (s : Shared) (v1 v2 : Value) (d1 d2 : PyData) (a1 a2 : List Addr) (R1 : Reads s.heap v1 d1 a1) (R2 : Reads s.heap v2 d2 a2) (h1 : PySem.SeqAt.shaped d1 = true) (h2 : PySem.SeqAt.shaped d2 = true) (k1 : plainK d1 = true) (k2 : plainK d2 = true) :
    Callee w 303 [v1, v2] 3 s (Ext s fun v _ => v = .bool (PyData.eqv d1 d2)) := by
  have tg_c_like : True := trivial
  walk_at "mine enter"
  walk_at "mine body"
  k_with "compareOp Eq" => ((fail_if_success (fail_if_success (clear tg_c_like))); first | ((refine' eq_dataH (Reads.keeps (Fr.keep (by k_asm)) R1) (Reads.keeps (Fr.keep (by k_asm)) R2) h1 h2 (by dsimp only [ktrTop, Around.in1, cLine]; omega) ?_)) | fail "no")
  k_with "call builtin:isinstance" => ((fail_if_success (fail_if_success (clear tg_c_like))); first | (first | (refine' isi_not_bool (Reads.keeps (Fr.keep (by k_asm)) R1) k1 ?_; intro tk) | (refine' isi_not_bool (Reads.keeps (Fr.keep (by k_asm)) R2) k2 ?_; intro tk)) | fail "no")
  walk_at "mine steps"
  all_goals exact Ext.intro (Fr.keep (by k_asm)) (by simp [*])

/-- a call that may turn the objects of `news` (the caller's own), and no other -/
def CalleeN (w : World) (f : Addr) (vs : List Value) (d : Nat) (s : Shared) (news : List (Addr × Obj)) (post : Value → Shared → Prop) : Prop :=
  ∀ (p : Program) (loose : List Str) (mean : ExcName → Option Value) (mg mb : Str → Option Value) (dp un : Nat) (gd : Option (List Code)) (cn : Str) (cs : Scope) (L a : Addr) (ccd : Value) (cl : List (Str × Addr)) (outer : List Env) (A₀ : Around) (base h₀ : Heap) (m : Str → Option Value),
    Below A₀ base outer h₀ → Fr h₀ L s.heap m → News h₀ L s.heap news → (Tp.heap_1 w.params).In h₀ → Top p loose mean mg mb h₀ → cs.kind = .function → dp + d < 1000 → un + 40 * d < 9900 →
    wpAny (model PR w) (ktrTop dp un gd cn cs L a ccd cl outer) (call (.ref f) vs) post NoE s

def BodyN (w : World) (qual : Str) (scope : Scope) (f : Addr) (cdv : Value) (body : List Stmt) (d : Nat) (s : Shared) (news : List (Addr × Obj)) (binds : List (Str × Value)) (post : Value → Shared → Prop) : Prop :=
  ∀ (p : Program) (loose : List Str) (mean : ExcName → Option Value) (mg mb : Str → Option Value) (dp un : Nat) (gd : Option (List Code)) (outer : List Env) (A₀ : Around) (base g : Heap) (L' : Addr) (h₁ : Heap) (tk : Nat),
    Below A₀ base outer g → Fr g L' h₁ (fun y => binds.reverse.lookup y) → News g L' h₁ news → GSub s.heap g (news.map (·.1)) → (∀ p ∈ news, s.heap.get? p.1 = some p.2) → (∀ p ∈ news, p.1 < L') → (Tp.heap_1 w.params).In g → Top p loose mean mg mb g → dp + d ≤ 1000 → un + 40 * d ≤ 9936 →
    wpAny (model PR w) (ktrTop dp un gd qual scope L' f cdv [] outer) (execs body (envOf qual scope L' f cdv)) (fun fl s' => post (match fl with | .ret v => v | _ => .none) s') NoE { s with heap := h₁, toks := tk }

theorem enterN {w : World} {f : Addr} {vs : List Value} {d : Nat} {s : Shared} {news : List (Addr × Obj)} {post : Value → Shared → Prop} {name qual : Str} {params : Arguments} {body : List Stmt} {scope : Scope} {dV kV doc pm cdv ct oc : Value} {an od : Option Addr} {osl : Array (Option Value)} {binds : List (Str × Value)}
    (ho : (Tp.heap_1 w.params).lookup f = some ⟨oc, od, .func (fnOf name qual params body scope dV kV doc pm an cdv ct), osl⟩) (hcd : codeIn (Tp.heap_1 w.params) cdv qual = true)
    (hbind : (Tp.heap_1 w.params).In s.heap → BindsTo s (fnOf name qual params body scope dV kV doc pm an cdv ct) ⟨vs, []⟩ binds) (hloc : ∀ y ∈ binds, scope.names.lookup y.1 = some .local)
    (h : BodyN w qual scope f cdv body d s news binds post)
    (hcell : ∀ x ∈ scope.names, x.2 ≠ .cell) (hco : scope.isCoroutine = false := by rfl) (hgen : scope.isGenerator = false := by rfl) (hk : scope.kind = .function := by rfl) : CalleeN w f vs d s news post := by
  intro p loose mean mg mb dp un gd cn cs L a ccd cl outer A₀ base h₀ m B F N X T hck hdp hun
  have X' : (Tp.heap_1 w.params).In s.heap := Frag.In.keeps X F.keep
  refine wpAny_call ?_
  refine codeAny_call_def (fd := fnOf name qual params body scope dV kV doc pm an cdv ct) (body := body) (binds := binds) (by show dp < recursionLimit; unfold recursionLimit; omega) (X' _ _ ho) rfl (T.nolimit.keeps F.keep) (codeRec_of X' hcd) rfl (hbind X') hcell hloc (fun h₁ hns hk₁ => ?_) hco hgen hk
  obtain ⟨FG, BG, st, _⟩ := groundX (A := ktrTop dp un gd cn cs L a ccd cl outer) (env := envX cn cs L a ccd cl) (R := fun _ _ => True) B F N rfl rfl hck
  have st' : ∀ b o, h₀.get? b = some o → (hideAll s.heap (news.map (·.1))).get? b = some o := st
  refine wpAny_mono (h p loose mean mg mb (dp + 1) (un + 3) gd (envX cn cs L a ccd cl :: outer) _ base (hideAll s.heap (news.map (·.1))) s.heap.objs.size h₁ _ BG ⟨hns, fun b o e => hk₁ b o (of_hideAll _ e), Nat.le_of_eq (hideAll_size _ _)⟩
    (fun p hp => ⟨hk₁ _ _ (N p hp).1, Nat.ne_of_lt (Heap.lt_size (N p hp).1), hideAll_none _ (List.mem_map_of_mem hp)⟩) (fun b o e n => hideAll_get _ e n) (fun p hp => (N p hp).1) (fun p hp => Heap.lt_size (N p hp).1) (X.keeps st') (T.keeps st') (by omega) (by omega)) (fun fl s' hp => hp) (fun _ _ x => x.elim)

/-- what such a call leaves: the objects of `news` turned into `news'`, all else as it was -/
inductive ExtN (s : Shared) (news : List (Addr × Obj)) (P : Value → List (Addr × Obj) → Heap → Prop) (v : Value) (s' : Shared) : Prop
  | mk (h' : Heap) (tk : Nat) (news' : List (Addr × Obj)) : s' = { s with heap := h', toks := tk } → (∀ b o, s.heap.get? b = some o → b ∉ news.map (·.1) → h'.get? b = some o) → news'.map (·.1) = news.map (·.1) → (∀ p ∈ news', h'.get? p.1 = some p.2) → P v news' h' → ExtN s news P v s'

theorem ExtN.intro {s : Shared} {news news' nn : List (Addr × Obj)} {P : Value → List (Addr × Obj) → Heap → Prop} {v : Value} {g h' : Heap} {L : Addr} {m : Str → Option Value} {tk : Nat} (G : GSub s.heap g (news.map (·.1))) (F : Fr g L h' m) (N : News g L h' nn) (hs : ∀ p ∈ news', p ∈ nn) (e : news'.map (·.1) = news.map (·.1)) (p : P v news' h') :
    ExtN s news P v { s with heap := h', toks := tk } := ⟨h', tk, news', rfl, fun b o q n => F.keep b o (G b o q n), e, fun p hp => (N p (hs p hp)).1, p⟩

theorem stays_now {H g h : Heap} {L : Addr} {m : Str → Option Value} {news nn : List (Addr × Obj)} (G : GSub H g (news.map (·.1))) (Z : ∀ p ∈ news, H.get? p.1 = some p.2) (F : Fr g L h m) (N : News g L h nn) (hs : ∀ p ∈ news, p ∈ nn) : H.StaysIn h := fun b o e => by
  by_cases q : b ∈ news.map (·.1)
  · obtain ⟨p, hp, rfl⟩ := List.mem_map.mp q
    have := Z p hp
    rw [this] at e; cases e
    exact (N p (hs p hp)).1
  · exact F.keep b o (G b o e q)
theorem gsub_list {H g : Heap} {news : List (Addr × Obj)} {l : Addr} {xs : Array Value} (G : GSub H g (news.map (·.1))) (Z : ∀ p ∈ news, H.get? p.1 = some p.2) (hc : ∀ p ∈ news, p.2.cls ≠ .type "list") (hl : H.IsList l xs) : g.IsList l xs := by
  obtain ⟨o, ho, hcl, r⟩ := hl
  refine ⟨o, G l o ho fun q => ?_, hcl, r⟩
  obtain ⟨p, hp, rfl⟩ := List.mem_map.mp q
  have := Z p hp
  rw [this] at ho; cases ho
  exact hc p hp hcl
theorem reads_stay {h h' : Heap} {v : Value} {d : PyData} {as : List Addr} (R : Reads h v d as) (k : h.StaysIn h') : Reads h' v d as := Reads.keeps k R
/-- the caller's side -/
theorem CalleeN.ext {w : World} {f : Addr} {vs : List Value} {d : Nat} {s : Shared} {news rest : List (Addr × Obj)} {P : Value → List (Addr × Obj) → Heap → Prop} (C : CalleeN w f vs d s news (ExtN s news P))
    {p : Program} {loose : List Str} {mean : ExcName → Option Value} {mg mb : Str → Option Value} {dp un : Nat} {gd : Option (List Code)} {cn : Str} {cs : Scope} {L a : Addr} {ccd : Value} {cl : List (Str × Addr)} {outer : List Env} {A₀ : Around} {base h₀ : Heap} {m : Str → Option Value} {Q E : Value → Shared → Prop}
    (B : Below A₀ base outer h₀) (F : Fr h₀ L s.heap m) (N : News h₀ L s.heap (news ++ rest)) (X : (Tp.heap_1 w.params).In h₀) (T : Top p loose mean mg mb h₀) (hk : cs.kind = .function) (hdp : dp + d < 1000) (hun : un + 40 * d < 9900)
    (hoff : ∀ q ∈ rest, ∀ b ∈ news.map (·.1), q.1 ≠ b)
    (k : ∀ v h' tk news', Fr h₀ L h' m → News h₀ L h' (news' ++ rest) → (∀ b o, s.heap.get? b = some o → b ∉ news.map (·.1) → h'.get? b = some o) → news'.map (·.1) = news.map (·.1) → P v news' h' → Q v { s with heap := h', toks := tk }) : wpAny (model PR w) (ktrTop dp un gd cn cs L a ccd cl outer) (call (.ref f) vs) Q E s := by
  refine wpAny_mono (C p loose mean mg mb dp un gd cn cs L a ccd cl outer A₀ base h₀ m B F (fun p hp => N p (List.mem_append_left _ hp)) X T hk hdp hun) ?_ (fun _ _ h => h.elim)
  rintro v s' ⟨h', tk, news', rfl, hk', he, hn, hP⟩
  have off : ∀ b o, h₀.get? b = some o → b ∉ news.map (·.1) := fun b o e q => by
    obtain ⟨p, hp, rfl⟩ := List.mem_map.mp q
    have := (N p (List.mem_append_left _ hp)).2.2
    rw [this] at e; cases e
  have offL : L ∉ news.map (·.1) := fun q => by
    obtain ⟨p, hp, e⟩ := List.mem_map.mp q
    exact (N p (List.mem_append_left _ hp)).2.1 e
  obtain ⟨⟨oL, a1, a2, hL, a3⟩, k1, k2⟩ := id F
  refine k v h' tk news' ⟨⟨oL, a1, a2, hk' _ _ hL offL, a3⟩, fun b o e => hk' b o (k1 b o e) (off b o e), k2⟩ ?_ hk' he hP
  intro p hp
  rcases List.mem_append.mp hp with hp | hp
  · have hm : p.1 ∈ news.map (·.1) := he ▸ List.mem_map_of_mem hp
    obtain ⟨q, hq, e⟩ := List.mem_map.mp hm
    have := N q (List.mem_append_left _ hq)
    exact ⟨hn p hp, e ▸ this.2.1, e ▸ this.2.2⟩
  · have := N p (List.mem_append_right _ hp)
    exact ⟨hk' _ _ this.1 fun q => hoff p hp _ q rfl, this.2⟩

theorem kw_06_1 : True := by
  k_with "mine enterN" => first | (refine' enterN (by k_is) (by k_is) (by (intro X9_k; first | exact BindsTo.of_eq rfl | exact binds_K X9_k rfl (by k_is) rfl rfl rfl)) (by exact locs rfl) ?_ (by decide) (by exact rfl) (by exact rfl) (by exact rfl)) | fail "no"
  k_with "mine bodyN" => first | (intro p_k loose_k mean_k mg_k mb_k dp_k un_k gd_k outer_k A₀_k base_k g_k L'_k h₁_k tk_k B_k F_k N_k G_k Z_k l1_k X_k T_k hdp_k hun_k; (try k_lt l1_k); (try dsimp only); (try k_fold); refine wpAny_gen ?_; intro Q_k hQ_k) | fail "no"
  trivial
theorem pick_take (xs : List Value) {y : Int} (h : 0 ≤ y) : (slicePick xs.toArray none (some y) none).toList = xs.take y.toNat := by
  obtain ⟨k, rfl⟩ := Int.eq_ofNat_of_zero_le h
  rw [slicePick_upto']
  rfl
theorem pick_drop (xs : List Value) {x : Int} (h : 0 ≤ x) : (slicePick xs.toArray (some x) none none).toList = xs.drop x.toNat := by
  obtain ⟨k, rfl⟩ := Int.eq_ofNat_of_zero_le h
  rw [slicePick_from']
  rfl
theorem add_any {prog : Program} {w : World} {A : Around} {E : Value → Shared → Prop} {s : Shared} {h₀ : Heap} {L a b : Addr} {m : Str → Option Value} {news : List (Addr × Obj)} {xs ys : List Value} {Q : Value → Shared → Prop} (F : Fr h₀ L s.heap m) (N : News h₀ L s.heap news) (ha : s.heap.IsList a xs.toArray) (hb : s.heap.IsList b ys.toArray)
    (h : ∀ D h', Fr h₀ L h' m → News h₀ L h' ((D, PySem.W.listOf (xs ++ ys).toArray 0) :: news) → (∀ p ∈ news, p.1 < D) → Q (.ref D) { s with heap := h' })
    (hz : xs.length + ys.length ≤ sizeLine) : wpAny (model prog w) A (binaryOp .Add (.ref a) (.ref b)) Q E s := kmk_add_lit F N ha hb rfl h hz
theorem kw_06_2 : True := by
  k_with "mine slice" => first | (k_here; (with_reducible show wpAny _ _ (subscriptTail _ (PySem.Expr.Slice _ _ none _) (Value.ref _) (Value.ref _)) _ _ _); k_dflt (refine' kmk_slice_lit (by k_asm) (by k_asm) (by exact isList_fr (by k_asm) (by assumption)) (by kmk_part) (by kmk_part) (by first | (with_reducible refine pick_take _ ?_; assumption) | (with_reducible refine pick_drop _ ?_; assumption)) ?_ (by with_unfolding_all rfl) (by kmk_pure) (by assumption)); intro D'_k h'_k F'_k N'_k l1_k; (try k_lt l1_k); (try k_sweep)) | fail "no"
  trivial
theorem add_any2 {prog : Program} {w : World} {A : Around} {E : Value → Shared → Prop} {s : Shared} {h₀ : Heap} {L a b : Addr} {m : Str → Option Value} {news : List (Addr × Obj)} {xs ys : Array Value} {Q : Value → Shared → Prop} (F : Fr h₀ L s.heap m) (N : News h₀ L s.heap news) (ha : s.heap.IsList a xs) (hb : s.heap.IsList b ys)
    (h : ∀ D h', Fr h₀ L h' m → News h₀ L h' ((D, PySem.W.listOf (xs.toList ++ ys.toList).toArray 0) :: news) → (∀ p ∈ news, p.1 < D) → Q (.ref D) { s with heap := h' })
    (hz : xs.toList.length + ys.toList.length ≤ sizeLine) : wpAny (model prog w) A (binaryOp .Add (.ref a) (.ref b)) Q E s := kmk_add_lit F N ha hb rfl h hz
theorem sz_a {zs a : List Value} {k : Nat} (h : zs.length < 2 ^ 20) (h2 : a.length ≤ 2) : (zs.take k).length + a.length ≤ sizeLine := by rw [List.length_take, sizeLine_eq]; omega
theorem sz_b {zs a : List Value} {k j : Nat} (h : zs.length < 2 ^ 20) (h2 : a.length ≤ 2) : (zs.take k ++ a).length + (zs.drop j).length ≤ sizeLine := by rw [List.length_append, List.length_take, List.length_drop, sizeLine_eq]; omega
theorem kw_06_3 : True := by
  k_with "mine add" => first | (k_here; (with_reducible show wpAny _ _ (binaryOp _ (Value.ref _) (Value.ref _)) _ _ _); k_dflt (first | (refine' add_any (by k_asm) (by k_asm) (by first | kmk_list | exact isList_fr (by k_asm) (by assumption)) (by first | kmk_list | exact isList_fr (by k_asm) (by assumption)) ?_ (by first | exact sz_a (by assumption) (by assumption) | exact sz_b (by assumption) (by assumption) | (simp only [List.length_append, List.length_take, List.length_drop, List.length_cons, List.length_nil, Array.length_toList, Array.size_push, List.size_toArray, sizeLine_eq]; omega))) | (refine' add_any2 (by k_asm) (by k_asm) (by first | kmk_list | exact isList_fr (by k_asm) (by assumption)) (by first | kmk_list | exact isList_fr (by k_asm) (by assumption)) ?_ (by first | exact sz_a (by assumption) (by assumption) | exact sz_b (by assumption) (by assumption) | (simp only [List.length_append, List.length_take, List.length_drop, List.length_cons, List.length_nil, Array.length_toList, Array.size_push, List.size_toArray, sizeLine_eq]; omega)))); intro D'_k h'_k F'_k N'_k l1_k; (try k_lt l1_k); (try k_sweep)) | fail "no"
  k_with "subscriptTail Name Slice ref ref" => first | walk_at "mine slice" | fail "no"
  k_with "binaryOp Add ref ref" => first | walk_at "mine add" | fail "no"
  trivial
/-- a goal that the walk leaves alone -/
structure Frozen (P : Prop) : Prop where
  h : P
theorem frozen {P : Prop} (h : Frozen P) : P := h.h
/-- what put makes of a list of its map's -/
def putG {α : Type} (zs : List α) (low high : Nat) (two drop1 : Bool) (x b : α) : List α := zs.take low ++ ((if two then [x, b] else [x]).drop (if drop1 then 1 else 0)) ++ zs.drop high

theorem kw_07_1 : True := by
  k_with "mine stays" => first | (refine' stays_now (by assumption) (by assumption) (by k_asm) (by k_asm) (by simp)) | fail "no"
  k_with "mine item" => first | ((with_unfolding_all refine' item_base (by assumption) (by walk_at "mine keep") (by first | assumption | omega) (by first | assumption | omega) (by first | assumption | (rw [Int.add_sub_cancel]; assumption)) ?_ (by with_unfolding_all rfl)); k_whole) | fail "no"
  trivial
inductive PutPost (w : World) (H : Heap) (r dx : Addr) (dv : Value) (t1 t2 t3 : Tok) (xs : List Value) (ns : List Int) (n : Int) (v vb : Value) (two drop1 : Bool) (v' : Value) (news' : List (Addr × Obj)) (h' : Heap) : Prop
  | mk : v' = .none → ∀ ls' lv' vs', news' = [(r, instObj 346 dx), (dx, dictOf (rmEs w t1 t2 t3 dv ls' lv') 3)] → h'.IsList ls' vs'.toArray → IntsAre vs' (putG ns (pbh ns (n - 1) + 1).toNat (pbh ns (n + 1) + 1).toNat two drop1 n (n + 1)) → h'.IsList lv' (putG xs (pbh ns (n - 1) + 1).toNat (pbh ns (n + 1) + 1).toNat two drop1 v vb).toArray → H.get? ls' = none → H.get? lv' = none → PutPost w H r dx dv t1 t2 t3 xs ns n v vb two drop1 v' news' h'
theorem fresh_in {w : World} {H g h' : Heap} {r dx L ls lv ls' lv' l : Addr} {dv : Value} {t1 t2 t3 : Tok} {nn : List (Addr × Obj)} {xs : Array Value} (G : GSub H g (([(r, instObj 346 dx), (dx, dictOf (rmEs w t1 t2 t3 dv ls lv) 3)] : List (Addr × Obj)).map (·.1))) (N : News g L h' nn) (m1 : (r, instObj 346 dx) ∈ nn) (m2 : (dx, dictOf (rmEs w t1 t2 t3 dv ls' lv') 3) ∈ nn) (m : (l, PySem.W.listOf xs 0) ∈ nn) : H.get? l = none := by
  cases q : H.get? l with
  | none => rfl
  | some o =>
    have n := (N _ m).1
    by_cases e1 : l = r
    · subst e1
      have := (N _ m1).1
      have e : Value.type "list" = Value.ref 346 := congrArg Obj.cls (Option.some.inj (n.symm.trans this))
      cases e
    · by_cases e2 : l = dx
      · subst e2
        have := (N _ m2).1
        have e : Value.type "list" = Value.type "dict" := congrArg Obj.cls (Option.some.inj (n.symm.trans this))
        exact absurd e (by decide)
      · have := G l o q (by simp [e1, e2])
        have z := (N _ m).2.2
        exact absurd (this.symm.trans z) (by simp)
theorem put_end {w : World} {s : Shared} {r dx L ls lv ls' lv' : Addr} {dv : Value} {t1 t2 t3 : Tok} {vs' xs' xs : List Value} {ns : List Int} {n : Int} {v vb : Value} {two drop1 : Bool} {g h' : Heap} {m : Str → Option Value} {nn : List (Addr × Obj)} {tk : Nat}
    (G : GSub s.heap g (([(r, instObj 346 dx), (dx, dictOf (rmEs w t1 t2 t3 dv ls lv) 3)] : List (Addr × Obj)).map (·.1))) (F : Fr g L h' m) (N : News g L h' nn) (m1 : (r, instObj 346 dx) ∈ nn) (m2 : (dx, dictOf (rmEs w t1 t2 t3 dv ls' lv') 3) ∈ nn) (m3 : (ls', PySem.W.listOf vs'.toArray 0) ∈ nn) (m4 : (lv', PySem.W.listOf xs'.toArray 0) ∈ nn)
    (hi : IntsAre vs' (putG ns (pbh ns (n - 1) + 1).toNat (pbh ns (n + 1) + 1).toNat two drop1 n (n + 1))) (hx : xs' = putG xs (pbh ns (n - 1) + 1).toNat (pbh ns (n + 1) + 1).toNat two drop1 v vb) :
    ExtN s [(r, instObj 346 dx), (dx, dictOf (rmEs w t1 t2 t3 dv ls lv) 3)] (PutPost w s.heap r dx dv t1 t2 t3 xs ns n v vb two drop1) .none { s with heap := h', toks := tk } :=
  ExtN.intro (news' := [(r, instObj 346 dx), (dx, dictOf (rmEs w t1 t2 t3 dv ls' lv') 3)]) G F N (List.forall_mem_cons.mpr ⟨m1, List.forall_mem_cons.mpr ⟨m2, fun _ h => nomatch h⟩⟩) rfl ⟨rfl, ls', lv', vs', rfl, News.isList N m3, hi, hx ▸ News.isList N m4, fresh_in G N m1 m2 m3, fresh_in G N m1 m2 m4⟩

abbrev lstO (xs : List Value) (k : Nat) : Obj := { cls := .type "list", data := .seq xs.toArray k }
structure NoIfB : Prop where
  here : True
abbrev canonP (S V : Option Value) (m : Str → Option Value) : Str → Option Value := fun y => if y = Str.ofString "starts" then S else if y = Str.ofString "values" then V else m y
theorem canonP_twice {V S V' S' : Option Value} {m : Str → Option Value} : canonP S V (canonP S' V' m) = canonP S V m := by
  funext y
  unfold canonP
  by_cases e1 : y = Str.ofString "starts"
  · simp only [if_pos e1]
  by_cases e2 : y = Str.ofString "values"
  · simp only [if_neg e1, if_pos e2]
  · simp only [if_neg e1, if_neg e2]
/-- what an if of put leaves: the two lists, under their names -/
inductive PutIf (g : Heap) (L r dx : Addr) (m : Str → Option Value) (o1 o2 : Obj) (A : List Int) (B : List Value) (s : Shared) (fl : Flow) (s' : Shared) : Prop
  | mk : fl = .next → ∀ h' tk D1 D2 a k1 k2, s' = { s with heap := h', toks := tk } → Fr g L h' (canonP (some (.ref D1)) (some (.ref D2)) m) → News g L h' [(D2, lstO B k2), (D1, lstO a k1), (r, o1), (dx, o2)] → IntsAre a A → PutIf g L r dx m o1 o2 A B s fl s'
theorem putif_intro {s : Shared} {g h' : Heap} {L r dx D1 D2 : Addr} {m : Str → Option Value} {o1 o2 : Obj} {A : List Int} {a b B : List Value} {k1 k2 tk : Nat} {nn : List (Addr × Obj)} (F : Fr g L h' (canonP (some (.ref D1)) (some (.ref D2)) m)) (N : News g L h' nn) (h1 : (D2, lstO b k2) ∈ nn) (h2 : (D1, lstO a k1) ∈ nn) (h3 : (r, o1) ∈ nn) (h4 : (dx, o2) ∈ nn) (ia : IntsAre a A) (eb : b = B) :
    PutIf g L r dx m o1 o2 A B s .next { s with heap := h', toks := tk } :=
  ⟨rfl, h', tk, D1, D2, a, k1, k2, rfl, F, eb ▸ (fun p hp => by
    simp only [List.mem_cons, List.not_mem_nil, or_false] at hp
    rcases hp with rfl | rfl | rfl | rfl
    · exact N _ h1
    · exact N _ h2
    · exact N _ h3
    · exact N _ h4), ia⟩
theorem merge_put {M : Model} {A₀ : Around} {t : Sem Flow} {s : Shared} {g : Heap} {L r dx : Addr} {m : Str → Option Value} {o1 o2 : Obj} {Q : Flow → Shared → Prop} {E : Value → Shared → Prop} {S0 V0 : Option Value} {nn : List (Addr × Obj)} (A : List Int) (B : List Value) (hA : A.length ≤ 2) (hB : B.length ≤ 2) (_ : Fr g L s.heap (canonP S0 V0 m)) (_ : News g L s.heap nn) (c1 : o1.cls ≠ .type "list") (d2 : ∀ xs k, o2.data ≠ .seq xs k)
    (h : wpAny M A₀ t (PutIf g L r dx m o1 o2 A B s) E s) (k : ∀ h' tk D1 D2 a k1 k2, Fr g L h' (canonP (some (.ref D1)) (some (.ref D2)) m) → News g L h' [(D2, lstO B k2), (D1, lstO a k1), (r, o1), (dx, o2)] → @Ne Nat D1 dx → @Ne Nat D2 dx → @Ne Nat D1 r → @Ne Nat D2 r → IntsAre a A → a.length ≤ 2 → B.length ≤ 2 → Q .next { s with heap := h', toks := tk }) : wpAny M A₀ t Q E s :=
  wpAny_mono h (by
    rintro _ _ ⟨rfl, h', tk, D1, D2, a, k1, k2, rfl, F', N', ok⟩
    have n1 := (N' _ (.head _)).1
    have n2 := (N' _ (.tail _ (.head _))).1
    have n3 := (N' _ (.tail _ (.tail _ (.head _)))).1
    have n4 := (N' _ (.tail _ (.tail _ (.tail _ (.head _))))).1
    exact k h' tk D1 D2 a k1 k2 F' N' (fun e => d2 _ _ (congrArg Obj.data (Option.some.inj (n4.symm.trans (e ▸ n2))))) (fun e => d2 _ _ (congrArg Obj.data (Option.some.inj (n4.symm.trans (e ▸ n1))))) (fun e => c1 (congrArg Obj.cls (Option.some.inj (n3.symm.trans (e ▸ n2))))) (fun e => c1 (congrArg Obj.cls (Option.some.inj (n3.symm.trans (e ▸ n1))))) ok (ok.length ▸ hA) hB) fun _ _ x => x
def pA (two : Bool) {α : Type} (x b : α) : List α := if two then [x, b] else [x]
def pD (two drop1 : Bool) {α : Type} (x b : α) : List α := (pA two x b).drop (if drop1 then 1 else 0)
theorem pA_len {α : Type} (two : Bool) (x b : α) : (pA two x b).length ≤ 2 := by cases two <;> simp [pA]
theorem pD_len {α : Type} (two drop1 : Bool) (x b : α) : (pD two drop1 x b).length ≤ 2 := by unfold pD; rw [List.length_drop]; have := pA_len two x b; omega
theorem kw_07_2 : True := by
  k_with "exec If BoolOp" => first | (k_here; (have nf9 : NoIfB := by assumption); refine frozen ?_) | fail "no"
  k_with "mine noifB" => repeat (rename NoIfB => zz9; clear zz9)
  trivial
set_option maxHeartbeats 8000000 in
theorem c_put (w : World) (s : Shared) (r dx : Addr) (dv : Value) (ls lv : Addr) (t1 t2 t3 : Tok) (vs xs : List Value) (ns : List Int) (hls : s.heap.IsList ls vs.toArray) (hi : IntsAre vs ns) (hlv : s.heap.IsList lv xs.toArray) (hne : @LT.lt Nat _ dx r) (hn : ns.length < 2 ^ 20) (hxn : xs.length = ns.length)
    (n : Int) (u1 u2 : Tok) (v va vb : Value) (d da db : PyData) (a1 a2 a3 : List Addr) (Rv : Reads s.heap v d a1) (Ra : Reads s.heap va da a2) (Rb : Reads s.heap vb db a3) (s1 : PySem.SeqAt.shaped d = true) (s2 : PySem.SeqAt.shaped da = true) (s3 : PySem.SeqAt.shaped db = true) (k1 : plainK d = true) (k2 : plainK da = true) (k3 : plainK db = true)
    (hmax : n < 1114111) (hl1 : 0 ≤ pbh ns (n - 1)) (hh1 : 0 ≤ pbh ns (n + 1)) (hl2 : pbh ns (n - 1) < 2 ^ 62) (hh2 : pbh ns (n + 1) < 2 ^ 62) (hxa : xs[(pbh ns (n - 1)).toNat]? = some va) (hxb : xs[(pbh ns (n + 1)).toNat]? = some vb) :
    CalleeN w 331 [.ref r, .int n u1, .int n u2, v] 5 s [(r, instObj 346 dx), (dx, dictOf (rmEs w t1 t2 t3 dv ls lv) 3)] (ExtN s [(r, instObj 346 dx), (dx, dictOf (rmEs w t1 t2 t3 dv ls lv) 3)] (PutPost w s.heap r dx dv t1 t2 t3 xs ns n v vb (!PyData.eqv db d) (PyData.eqv da d))) := by
  have tg_c_put : True := trivial
  walk_at "mine enterN"
  walk_at "mine bodyN"
  have hls' := gsub_list (by assumption) (by assumption) (by simp) hls
  have hlv' := gsub_list (by assumption) (by assumption) (by simp) hlv
  k_with "call ref" => ((fail_if_success (fail_if_success (clear tg_c_put))); first | (first
    | (refine Callee.ext (c_place w _ ls vs ns _ _ (isList_fr (by k_asm) hls') hi hn) (by k_asm) (by k_asm) (by k_asm) (by k_asm) (by k_asm) (by first | exact rfl | assumption) (by walk_at "mine room") (by walk_at "mine room") ?_; rintro v' h' tk' F' N' - ⟨t', rfl⟩)
    | (refine Callee.ext (c_like w _ vb v db d a3 a1 (reads_stay Rb (by walk_at "mine stays")) (reads_stay Rv (by walk_at "mine stays")) s3 s1 k3 k1) (by k_asm) (by k_asm) (by k_asm) (by k_asm) (by k_asm) (by first | exact rfl | assumption) (by walk_at "mine room") (by walk_at "mine room") ?_; rintro v' h' tk' F' N' - rfl)
    | (refine Callee.ext (c_like w _ va v da d a2 a1 (reads_stay Ra (by walk_at "mine stays")) (reads_stay Rv (by walk_at "mine stays")) s2 s1 k2 k1) (by k_asm) (by k_asm) (by k_asm) (by k_asm) (by k_asm) (by first | exact rfl | assumption) (by walk_at "mine room") (by walk_at "mine room") ?_; rintro v' h' tk' F' N' - rfl)) | fail "no")
  have hA : 0 ≤ pbh ns (n - 1) + 1 := by omega
  have hB : 0 ≤ pbh ns (n + 1) + 1 := by omega
  have hz1 : vs.toArray.size ≤ sizeLine := by rw [List.size_toArray, hi.length, sizeLine_eq]; omega
  have hz2 : xs.toArray.size ≤ sizeLine := by rw [List.size_toArray, hxn, sizeLine_eq]; omega
  have hvn := hi.length
  have hvl : vs.length < 2 ^ 20 := by rw [hi.length]; exact hn
  have hxl : xs.length < 2 ^ 20 := by rw [hxn]; exact hn
  have ni : NoIfB := ⟨trivial⟩
  walk_at "mine steps"
  refine Frozen.mk ?_
  rename News _ _ _ (_ :: _ :: _ :: _ :: _) => NN
  refine merge_put (r := r) (dx := dx) (o1 := instObj 346 dx) (o2 := dictOf (rmEs w t1 t2 t3 dv ls lv) 3) (pA (!PyData.eqv db d) n (n + 1)) (pA (!PyData.eqv db d) v vb) (pA_len _ _ _) (pA_len _ _ _) (by k_asm) NN (by intro e; cases e) (by intro _ _ e; cases e) ?_ ?_
  · walk_at "mine noifB"
    walk_at "mine gen"
    walk_at "mine steps"
    all_goals
      refine putif_intro (by k_asm) (by k_asm) (by k_mem) (by k_mem) (by k_mem) (by k_mem) ?_ ?_
      · simp only [pA, *, Bool.not_true, Bool.not_false, if_true, Bool.false_eq_true, if_false]
        first | exact .cons _ _ .nil | exact .cons _ _ (.cons _ _ .nil)
      · simp only [pA, *, Bool.not_true, Bool.not_false, if_true, Bool.false_eq_true, if_false] <;> rfl
  intro h2 tk2 D1 D2 a kk1 kk2 F2 N2 dn1 dn2 dn3 dn4 ia la lb
  clear NN
  (try k_fold)
  walk_at "mine steps"
  refine Frozen.mk ?_
  refine merge_put (r := r) (dx := dx) (o1 := instObj 346 dx) (o2 := dictOf (rmEs w t1 t2 t3 dv ls lv) 3) (pD (!PyData.eqv db d) (PyData.eqv da d) n (n + 1)) (pD (!PyData.eqv db d) (PyData.eqv da d) v vb) (pD_len _ _ _ _) (pD_len _ _ _ _) (by k_asm) N2 (by intro e; cases e) (by intro _ _ e; cases e) ?_ ?_
  · walk_at "mine noifB"
    walk_at "mine gen"
    walk_at "mine steps"
    · rename Fr _ _ _ _ => FF
      replace FF : Fr _ _ _ (canonP _ _ (canonP _ _ _)) := FF
      rw [canonP_twice] at FF
      rename News _ _ _ (_ :: _ :: _) => NN
      refine putif_intro FF NN (by k_mem) (by k_mem) (by k_mem) (by k_mem) ?_ ?_
      · rw [(by assumption : PyData.eqv da d = true)]; exact (by assumption : IntsAre _ (List.drop _ _))
      · rw [(by assumption : PyData.eqv da d = true)]; exact pick_drop _ (by decide)
    · refine putif_intro (by k_asm) (by k_asm) (by k_mem) (by k_mem) (by k_mem) (by k_mem) ?_ ?_
      · rw [(by assumption : PyData.eqv da d = false)]; exact ia
      · rw [(by assumption : PyData.eqv da d = false)]; rfl
  intro h3 tk3 D3 D4 a3 kk3 kk4 F3 N3 dn5 dn6 dn7 dn8 ia3 la3 lb3
  clear N2 F2 dn1 dn2 dn3 dn4 ia la lb
  (try k_fold)
  walk_at "mine steps"
  refine put_end (by assumption) (by k_asm) (by k_asm) (by k_mem) (by k_mem) (by k_mem) (by k_mem) ?_ ?_
  · exact ((hi.take _).append ia3).append (hi.drop _)
  · rfl

/-- a part of a heap as a ledger -/
def led (hD : Heap) : List (Addr × Obj) := (List.range hD.objs.size).filterMap fun b => (hD.get? b).map fun o => (b, o)
theorem mem_led {hD : Heap} {b : Addr} {o : Obj} : (b, o) ∈ led hD ↔ hD.get? b = some o := by
  unfold led
  rw [List.mem_filterMap]
  constructor
  · rintro ⟨a, _, ha⟩
    obtain ⟨o', h1, h2⟩ := Option.map_eq_some_iff.mp ha
    cases h2
    exact h1
  · intro h
    exact ⟨b, List.mem_range.mpr (Heap.lt_size h), by rw [h]; rfl⟩
/-- the part of a heap where p holds of the address -/
def keepOn (h : Heap) (p : Addr → Bool) : Heap := hideAll h ((List.range h.objs.size).filter fun b => !p b)
theorem keepOn_get {h : Heap} {p : Addr → Bool} {b : Addr} {o : Obj} : (keepOn h p).get? b = some o ↔ h.get? b = some o ∧ p b = true := by
  constructor
  · intro e
    have e' := of_hideAll _ e
    refine ⟨e', ?_⟩
    cases q : p b with
    | true => rfl
    | false =>
      have hb : b ∈ (List.range h.objs.size).filter fun b => !p b := List.mem_filter.mpr ⟨List.mem_range.mpr (Heap.lt_size e'), by rw [q]; rfl⟩
      have : (keepOn h p).get? b = none := hideAll_none _ hb
      rw [this] at e; cases e
  · rintro ⟨e, hp⟩
    refine hideAll_get _ e fun q => ?_
    have := (List.mem_filter.mp q).2
    rw [hp] at this; cases this
theorem keepOn_sub (h : Heap) (p : Addr → Bool) : (keepOn h p).StaysIn h := fun _ _ e => (keepOn_get.mp e).1

/-- hD' lies on what hD lay on, and on what is new since H -/
def Foot (H hD hD' : Heap) : Prop := ∀ b o, hD'.get? b = some o → (∃ o', hD.get? b = some o') ∨ H.get? b = none

/-- nothing goes -/
def Dom (h h' : Heap) : Prop := ∀ b o, h.get? b = some o → ∃ o', h'.get? b = some o'
theorem Dom.trans {a b c : Heap} (x : Dom a b) (y : Dom b c) : Dom a c := fun p o e => let ⟨_, e'⟩ := x p o e; y p _ e'
theorem Dom.of {a b : Heap} (x : a.StaysIn b) : Dom a b := fun p o e => ⟨o, x p o e⟩
theorem Foot.trans {H H1 hD hD1 hD2 : Heap} (f : Foot H hD hD1) (k : Foot H1 hD1 hD2) (d : Dom H H1) : Foot H hD hD2 := fun b o e => by
  rcases k b o e with ⟨o', e'⟩ | e'
  · exact f b o' e'
  · cases z : H.get? b with
    | none => exact .inr rfl
    | some o' => obtain ⟨_, q⟩ := d b o' z; rw [q] at e'; cases e'
theorem dom_now {H h' hD hD1 : Heap} (k : ∀ b o, H.get? b = some o → hD.get? b = none → h'.get? b = some o) (d : Dom hD hD1) (s : hD1.StaysIn h') : Dom H h' := fun b o e => by
  cases z : hD.get? b with
  | none => exact ⟨o, k b o e z⟩
  | some o' => obtain ⟨o2, q⟩ := d b o' z; exact ⟨o2, s b o2 q⟩
/-- what a call that turns the part hD leaves -/
inductive DPost (s : Shared) (hD : Heap) (Φ : Value → Heap → Prop) (v : Value) (s' : Shared) : Prop
  | mk (h' : Heap) (tk : Nat) (hD' : Heap) : s' = { s with heap := h', toks := tk } → (∀ b o, s.heap.get? b = some o → hD.get? b = none → h'.get? b = some o) → hD'.StaysIn h' → Foot s.heap hD hD' → Dom hD hD' → Φ v hD' → DPost s hD Φ v s'

theorem CalleeN.sub {w : World} {f : Addr} {vs : List Value} {d : Nat} {s : Shared} {n1 n2 : List (Addr × Obj)} {post : Value → Shared → Prop} (C : CalleeN w f vs d s n1 post) (h : ∀ p ∈ n1, p ∈ n2) : CalleeN w f vs d s n2 post :=
  fun p loose mean mg mb dp un gd cn cs L a ccd cl outer A₀ base h₀ m B F N X T hk hdp hun => C p loose mean mg mb dp un gd cn cs L a ccd cl outer A₀ base h₀ m B F (fun q hq => N q (h q hq)) X T hk hdp hun
theorem CalleeN.mono {w : World} {f : Addr} {vs : List Value} {d d' : Nat} {s : Shared} {n : List (Addr × Obj)} {post post' : Value → Shared → Prop} (C : CalleeN w f vs d s n post) (h : ∀ v s', post v s' → post' v s') (hd : d ≤ d') : CalleeN w f vs d' s n post' :=
  fun p loose mean mg mb dp un gd cn cs L a ccd cl outer A₀ base h₀ m B F N X T hk hdp hun => wpAny_mono (C p loose mean mg mb dp un gd cn cs L a ccd cl outer A₀ base h₀ m B F N X T hk (by omega) (by omega)) h (fun _ _ x => x)

/-- the caller's side of a call that turns the part hD -/
theorem CalleeN.dext {w : World} {f : Addr} {vs : List Value} {d : Nat} {s : Shared} {hD : Heap} {rest : List (Addr × Obj)} {Φ : Value → Heap → Prop} (C : CalleeN w f vs d s (led hD) (DPost s hD Φ))
    {p : Program} {loose : List Str} {mean : ExcName → Option Value} {mg mb : Str → Option Value} {dp un : Nat} {gd : Option (List Code)} {cn : Str} {cs : Scope} {L a : Addr} {ccd : Value} {cl : List (Str × Addr)} {outer : List Env} {A₀ : Around} {base h₀ : Heap} {m : Str → Option Value} {Q E : Value → Shared → Prop}
    (B : Below A₀ base outer h₀) (F : Fr h₀ L s.heap m) (N : News h₀ L s.heap (led hD)) (Nr : News h₀ L s.heap rest) (X : (Tp.heap_1 w.params).In h₀) (T : Top p loose mean mg mb h₀) (hk : cs.kind = .function) (hdp : dp + d < 1000) (hun : un + 40 * d < 9900)
    (hoff : ∀ q ∈ rest, hD.get? q.1 = none)
    (k : ∀ v h' tk hD', Fr h₀ L h' m → News h₀ L h' (led hD') → News h₀ L h' rest → (∀ b o, s.heap.get? b = some o → hD.get? b = none → h'.get? b = some o) → Foot s.heap hD hD' → Dom hD hD' → Φ v hD' → Q v { s with heap := h', toks := tk }) : wpAny (model PR w) (ktrTop dp un gd cn cs L a ccd cl outer) (call (.ref f) vs) Q E s := by
  refine wpAny_mono (C p loose mean mg mb dp un gd cn cs L a ccd cl outer A₀ base h₀ m B F N X T hk hdp hun) ?_ (fun _ _ h => h.elim)
  rintro v s' ⟨h', tk, hD', rfl, hk', hs', hft, hdm, hΦ⟩
  have off : ∀ b o, h₀.get? b = some o → hD.get? b = none := fun b o e => by
    cases q : hD.get? b with
    | none => rfl
    | some o' => have := (N (b, o') (mem_led.mpr q)).2.2; rw [e] at this; cases this
  have offL : hD.get? L = none := by
    cases q : hD.get? L with
    | none => rfl
    | some o' => exact absurd rfl (N (L, o') (mem_led.mpr q)).2.1
  obtain ⟨⟨oL, a1, a2, hL, a3⟩, k1, k2⟩ := id F
  refine k v h' tk hD' ⟨⟨oL, a1, a2, hk' _ _ hL offL, a3⟩, fun b o e => hk' b o (k1 b o e) (off b o e), k2⟩ ?_ ?_ hk' hft hdm hΦ
  · rintro ⟨b, o⟩ hp
    have hb := mem_led.mp hp
    refine ⟨hs' b o hb, ?_, ?_⟩
    · rintro rfl
      rcases hft _ _ hb with ⟨o', e⟩ | e
      · rw [offL] at e; cases e
      · rw [hL] at e; cases e
    · rcases hft _ _ hb with ⟨o', e⟩ | e
      · exact (N (b, o') (mem_led.mpr e)).2.2
      · cases q : h₀.get? b with
        | none => rfl
        | some o' => have := k1 b o' q; rw [e] at this; cases this
  · intro q hq
    exact ⟨hk' _ _ (Nr q hq).1 (hoff q hq), (Nr q hq).2⟩
/-- out of the walk's own end -/
theorem DPost.of_ext {s : Shared} {hD : Heap} {news : List (Addr × Obj)} {P : Value → List (Addr × Obj) → Heap → Prop} {Φ : Value → Heap → Prop} {v : Value} {s' : Shared} (hn : ∀ p ∈ news, ∃ o, hD.get? p.1 = some o) (hs : hD.StaysIn s.heap)
    (x : ExtN s news P v s') (h : ∀ h' hD' news', (∀ b o, hD.get? b = some o → b ∉ news.map (·.1) → hD'.get? b = some o) → (∀ p ∈ news', hD'.get? p.1 = some p.2) → hD'.StaysIn h' → (∀ b o, h'.get? b = some o → s.heap.get? b = none → hD'.get? b = some o) → (∀ b o o', h'.get? b = some o → hD.get? b = some o' → hD'.get? b = some o) → P v news' h' → Φ v hD') : DPost s hD Φ v s' := by
  obtain ⟨h', tk, news', rfl, k1, e, k2, hP⟩ := x
  refine ⟨h', tk, keepOn h' (fun b => (hD.get? b).isSome || (s.heap.get? b).isNone), rfl, fun b o q n => k1 b o q fun hb => ?_, keepOn_sub _ _, fun b o q => ?_, fun b o q => ?_, h h' _ news' (fun b o q n => keepOn_get.mpr ⟨k1 b o (hs b o q) n, by rw [q]; rfl⟩) (fun p hp => keepOn_get.mpr ⟨k2 p hp, ?_⟩) (keepOn_sub _ _) (fun b o q n => keepOn_get.mpr ⟨q, by rw [n]; simp⟩) (fun b o o' q n => keepOn_get.mpr ⟨q, by rw [n]; rfl⟩) hP⟩
  · obtain ⟨p, hp, rfl⟩ := List.mem_map.mp hb
    obtain ⟨o', q'⟩ := hn p hp
    rw [n] at q'; cases q'
  · have := (keepOn_get.mp q).2
    rcases Bool.or_eq_true_iff.mp this with q' | q'
    · exact .inl (Option.isSome_iff_exists.mp q')
    · exact .inr (Option.isNone_iff_eq_none.mp q')
  · by_cases hb : b ∈ news.map (·.1)
    · obtain ⟨p, hp, rfl⟩ := List.mem_map.mp (e ▸ hb : b ∈ news'.map (·.1))
      exact ⟨p.2, keepOn_get.mpr ⟨k2 p hp, by rw [q]; rfl⟩⟩
    · exact ⟨o, keepOn_get.mpr ⟨k1 b o (hs b o q) hb, by rw [q]; rfl⟩⟩
  · have : p.1 ∈ news.map (·.1) := e ▸ List.mem_map_of_mem hp
    obtain ⟨p', hp', e'⟩ := List.mem_map.mp this
    obtain ⟨o', q'⟩ := hn p' hp'
    rw [← e', q']; rfl

theorem led_stays {hD g h : Heap} {L : Addr} {nn : List (Addr × Obj)} (N : News g L h nn) (hs : ∀ p ∈ led hD, p ∈ nn) : hD.StaysIn h := fun b o e => (N (b, o) (hs _ (mem_led.mpr e))).1
theorem news_less {g h : Heap} {L : Addr} {n1 nn : List (Addr × Obj)} (N : News g L h nn) (hs : ∀ p ∈ n1, p ∈ nn) : News g L h n1 := fun p hp => N p (hs p hp)
theorem kw_08_1 : True := by
  k_with "mine sub" => first | (first | exact List.forall_mem_nil _ | (refine' List.forall_mem_cons.mpr ⟨(by k_mem), (by walk_at "mine sub")⟩)) | fail "no"
  k_with "mine sub" => first | (intro p_k hp_k; first | exact hp_k | (simp only [List.mem_cons, List.mem_append]; simp only [hp_k, or_true, true_or])) | fail "no"
  k_with "mine keep" => first | (exact led_stays (by k_asm) (by walk_at "mine sub")) | fail "no"
  trivial
theorem DPost.of_body {s : Shared} {hD hD' g h' : Heap} {L : Addr} {m : Str → Option Value} {Φ : Value → Heap → Prop} {v : Value} {tk : Nat} (G : GSub s.heap g ((led hD).map (·.1))) (F : Fr g L h' m) (N : News g L h' (led hD')) (ft : Foot s.heap hD hD') (dm : Dom hD hD') (hΦ : Φ v hD') : DPost s hD Φ v { s with heap := h', toks := tk } :=
  ⟨h', tk, hD', rfl, fun b o e n => F.keep b o (G b o e fun q => by
    obtain ⟨⟨b', o'⟩, hp, rfl⟩ := List.mem_map.mp q
    rw [mem_led.mp hp] at n; cases n), led_stays N fun _ hp => hp, ft, dm, hΦ⟩
theorem Foot.of {H H' hD hD' : Heap} (k : H.StaysIn H') (f : Foot H' hD hD') : Foot H hD hD' := fun b o e => (f b o e).imp id fun q => by
  cases z : H.get? b with
  | none => rfl
  | some o' => rw [k b o' z] at q; cases q

mutual
/-- no dict within -/
def noD : PyData → Bool
  | .list xs => noDAll xs
  | .tuple xs => noDAll xs
  | .dict _ => false
  | _ => true
def noDAll : List PyData → Bool
  | [] => true
  | d :: r => noD d && noDAll r
end
theorem noD_list {xs : List PyData} (n : noD (.list xs) = true) : noDAll xs = true := by rw [noD] at n; exact n
theorem noD_tuple {xs : List PyData} (n : noD (.tuple xs) = true) : noDAll xs = true := by rw [noD] at n; exact n
theorem noD_dict {kvs : List (PyData × PyData)} (n : noD (.dict kvs) = true) : False := by rw [noD] at n; cases n
theorem noDAll_cons {d : PyData} {ds : List PyData} (n : noDAll (d :: ds) = true) : noD d = true ∧ noDAll ds = true := by rw [noDAll] at n; exact Bool.and_eq_true_iff.mp n
theorem cls_list {o : Obj} (b : o.cls = .type "list") : o.cls ≠ .type "dict" := by rw [b]; decide
theorem cls_tuple {o : Obj} (b : o.cls = .type "tuple") : o.cls ≠ .type "dict" := by rw [b]; decide
theorem reads_but {h h' : Heap} (hk : ∀ b o, h.get? b = some o → o.cls ≠ .type "dict" → h'.get? b = some o) {v : Value} {d : PyData} {as : List Addr} (r : Reads h v d as) : noD d = true → Reads h' v d as :=
  Reads.rec (motive_1 := fun v d as _ => noD d = true → Reads h' v d as) (motive_2 := fun vs ds as _ => noDAll ds = true → ReadsAll h' vs ds as) (fun _ => .none) (fun b _ => .bool b) (fun i t _ => .int i t) (fun x t _ => .str x t)
    (fun a b c _ ih n => .list (hk _ _ a (cls_list b)) b c (ih (noD_list n))) (fun a b c _ ih n => .tuple (hk _ _ a (cls_tuple b)) b c (ih (noD_tuple n))) (fun _ _ _ _ _ _ _ n => (noD_dict n).elim)
    (fun _ => .nil) (fun _ _ i1 i2 n => .cons (i1 (noDAll_cons n).1) (i2 (noDAll_cons n).2)) r

/-- each value reads its datum -/
inductive RL (h : Heap) : List Value → List PyData → Prop
  | nil : RL h [] []
  | cons {v : Value} {d : PyData} {xs : List Value} {ds : List PyData} : (∃ a, Reads h v d a) → RL h xs ds → RL h (v :: xs) (d :: ds)
theorem RL.take {h : Heap} {xs : List Value} {ds : List PyData} (r : RL h xs ds) : ∀ k, RL h (xs.take k) (ds.take k) := by
  induction r with
  | nil => intro k; cases k <;> exact .nil
  | cons a _ ih =>
    intro k
    cases k with
    | zero => exact .nil
    | succ k => exact .cons a (ih k)
theorem RL.drop {h : Heap} {xs : List Value} {ds : List PyData} (r : RL h xs ds) : ∀ k, RL h (xs.drop k) (ds.drop k) := by
  induction r with
  | nil => intro k; cases k <;> exact .nil
  | cons a r ih =>
    intro k
    cases k with
    | zero => exact .cons a r
    | succ k => exact ih k
theorem RL.append {h : Heap} {xs ys : List Value} {ds es : List PyData} (r : RL h xs ds) (b : RL h ys es) : RL h (xs ++ ys) (ds ++ es) := by
  induction r with
  | nil => exact b
  | cons a _ ih => exact .cons a ih
theorem RL.length {h : Heap} {xs : List Value} {ds : List PyData} (r : RL h xs ds) : xs.length = ds.length := by
  induction r with
  | nil => rfl
  | cons _ _ ih => exact congrArg (· + 1) ih
theorem RL.get {h : Heap} {xs : List Value} {ds : List PyData} (r : RL h xs ds) : ∀ {k : Nat} {d : PyData}, ds[k]? = some d → ∃ v a, xs[k]? = some v ∧ Reads h v d a := by
  induction r with
  | nil => intro k d e; cases e
  | cons a _ ih =>
    intro k d e
    cases k with
    | zero => exact a.elim fun a ha => ⟨_, a, rfl, Option.some.inj e ▸ ha⟩
    | succ k => exact ih e
theorem RL.map {h h' : Heap} {P : PyData → Prop} (hk : ∀ v d, P d → (∃ a, Reads h v d a) → ∃ a, Reads h' v d a) {xs : List Value} {ds : List PyData} (r : RL h xs ds) : (∀ d ∈ ds, P d) → RL h' xs ds := by
  induction r with
  | nil => exact fun _ => .nil
  | cons a _ ih => exact fun n => .cons (hk _ _ (n _ (.head _)) a) (ih fun d hd => n d (.tail _ hd))
theorem RL.mono {h h' : Heap} (hk : h.StaysIn h') {xs : List Value} {ds : List PyData} (r : RL h xs ds) : RL h' xs ds :=
  r.map (P := fun _ => True) (fun _ _ _ a => a.imp fun _ ha => reads_stay ha hk) fun _ _ => trivial
theorem noDAll_mem {ds : List PyData} : noDAll ds = true ↔ ∀ d ∈ ds, noD d = true := by
  induction ds with
  | nil => exact ⟨fun _ _ h => (nomatch h), fun _ => rfl⟩
  | cons d r ih => exact ⟨fun h => List.forall_mem_cons.mpr ⟨(noDAll_cons h).1, ih.mp (noDAll_cons h).2⟩, fun h => by rw [noDAll]; exact Bool.and_eq_true_iff.mpr ⟨h _ (.head _), ih.mpr fun d hd => h d (.tail _ hd)⟩⟩
theorem RL.but {h h' : Heap} (hk : ∀ b o, h.get? b = some o → o.cls ≠ .type "dict" → h'.get? b = some o) {xs : List Value} {ds : List PyData} (r : RL h xs ds) (n : noDAll ds = true) : RL h' xs ds :=
  r.map (fun _ _ n a => a.imp fun _ ha => reads_but hk ha n) (noDAll_mem.mp n)
theorem RL.putG {h : Heap} {xs : List Value} {ds : List PyData} (r : RL h xs ds) (lo hi : Nat) (two dr : Bool) {v vb : Value} {d db : PyData} (a : ∃ a, Reads h v d a) (b : ∃ a, Reads h vb db a) : RL h (putG xs lo hi two dr v vb) (putG ds lo hi two dr d db) := by
  refine ((r.take lo).append ?_).append (r.drop hi)
  refine RL.drop ?_ _
  cases two with
  | true => exact .cons a (.cons b .nil)
  | false => exact .cons a .nil
/-- a RangeMap's state -/
structure MapSt where
  r : Addr
  rx : Addr
  d0 : PyData
  ns : List Int
  ds : List PyData
def okD (d : PyData) : Bool := PySem.SeqAt.shaped d && plainK d && noD d
inductive MapOk (w : World) (h : Heap) (M : MapSt) : Prop
  | mk (dv : Value) (ls lv : Addr) (vs xs : List Value) (t1 t2 t3 : Tok) (a0 : List Addr) : h.get? M.r = some (instObj 346 M.rx) → h.get? M.rx = some (dictOf (rmEs w t1 t2 t3 dv ls lv) 3) → h.IsList ls vs.toArray → IntsAre vs M.ns → h.IsList lv xs.toArray → RL h xs M.ds → Reads h dv M.d0 a0 → @LT.lt Nat _ M.rx M.r → okD M.d0 = true → M.ds.all okD = true → MapOk w h M
/-- what put wants of a map -/
def okPut (ns : List Int) (ds : List PyData) (n : Int) (d : PyData) : Bool :=
  decide (0 ≤ pbh ns (n - 1)) && decide (pbh ns (n - 1) < ns.length) && decide (0 ≤ pbh ns (n + 1)) && decide (pbh ns (n + 1) < ns.length) && decide (ns.length < 1000) && decide (ns.length = ds.length) && decide (n < 1114111) && okD d && ds.all okD
def putTwo (ns : List Int) (ds : List PyData) (n : Int) (d : PyData) : Bool := !PyData.eqv (ds.getD (pbh ns (n + 1)).toNat .none) d
def putDrop (ns : List Int) (ds : List PyData) (n : Int) (d : PyData) : Bool := PyData.eqv (ds.getD (pbh ns (n - 1)).toNat .none) d
def putNs (ns : List Int) (ds : List PyData) (n : Int) (d : PyData) : List Int := putG ns (pbh ns (n - 1) + 1).toNat (pbh ns (n + 1) + 1).toNat (putTwo ns ds n d) (putDrop ns ds n d) n (n + 1)
def putDs (ns : List Int) (ds : List PyData) (n : Int) (d : PyData) : List PyData := putG ds (pbh ns (n - 1) + 1).toNat (pbh ns (n + 1) + 1).toNat (putTwo ns ds n d) (putDrop ns ds n d) d (ds.getD (pbh ns (n + 1)).toNat .none)
def putM (M : MapSt) (n : Int) (d : PyData) : MapSt := { M with ns := putNs M.ns M.ds n d, ds := putDs M.ns M.ds n d }

theorem putG_all {α : Type} {q : α → Bool} {zs : List α} {lo hi : Nat} {two dr : Bool} {x b : α} (h : zs.all q = true) (hx : q x = true) (hb : q b = true) : (putG zs lo hi two dr x b).all q = true := by
  rw [List.all_eq_true] at h ⊢
  intro y hy
  unfold putG at hy
  rcases List.mem_append.mp hy with hy | hy
  · rcases List.mem_append.mp hy with hy | hy
    · exact h y (List.mem_of_mem_take hy)
    · have := List.mem_of_mem_drop hy
      cases two <;> simp only [if_true, if_false, Bool.false_eq_true, List.mem_cons, List.not_mem_nil, or_false] at this
      · rw [this]; exact hx
      · rcases this with rfl | rfl
        · exact hx
        · exact hb
  · exact h y (List.mem_of_mem_drop hy)
theorem isList_but {h h' : Heap} (hk : ∀ b o, h.get? b = some o → o.cls ≠ .type "dict" → h'.get? b = some o) {l : Addr} {xs : Array Value} (I : h.IsList l xs) : h'.IsList l xs := by
  obtain ⟨o, a, b, c⟩ := I
  exact ⟨o, hk _ _ a (by rw [b]; decide), b, c⟩
theorem getD_at {α : Type} {ds : List α} {k : Nat} {d0 : α} (h : k < ds.length) : ds[k]? = some (ds.getD k d0) := by
  rw [List.getD_eq_getElem?_getD, List.getElem?_eq_getElem h]
  rfl

theorem c_putM (w : World) (s : Shared) (hD : Heap) (M : MapSt) (O : MapOk w hD M) (hS : hD.StaysIn s.heap) (n : Int) (u1 u2 : Tok) (v : Value) (d : PyData) (Rv : ∃ a, Reads hD v d a) (ok : okPut M.ns M.ds n d = true) :
    CalleeN w 331 [.ref M.r, .int n u1, .int n u2, v] 5 s (led hD) (DPost s hD fun v' hD' => v' = .none ∧ MapOk w hD' (putM M n d) ∧ ∀ b o, hD.get? b = some o → b ≠ M.rx → hD'.get? b = some o) := by
  obtain ⟨dv, ls, lv, vs, xs, t1, t2, t3, a0, hr, hrx, hls, hi, hlv, hx, h0, hlt, hk0, hka⟩ := O
  obtain ⟨a1, Rv⟩ := Rv
  simp only [okPut, Bool.and_eq_true, decide_eq_true_eq, okD, List.all_eq_true] at ok
  obtain ⟨⟨⟨⟨⟨⟨⟨⟨o1, o2⟩, o3⟩, o4⟩, o5⟩, o6⟩, o7⟩, ⟨o8, o9⟩, o10⟩, o11⟩ := ok
  have ea : M.ds[(pbh M.ns (n - 1)).toNat]? = some (M.ds.getD (pbh M.ns (n - 1)).toNat .none) := getD_at (by omega)
  have eb : M.ds[(pbh M.ns (n + 1)).toNat]? = some (M.ds.getD (pbh M.ns (n + 1)).toNat .none) := getD_at (by omega)
  obtain ⟨va, a2, hva, Ra⟩ := hx.get ea
  obtain ⟨vb, a3, hvb, Rb⟩ := hx.get eb
  obtain ⟨⟨pa1, pa2⟩, pa3⟩ := o11 _ (List.mem_of_getElem? ea)
  obtain ⟨⟨pb1, pb2⟩, pb3⟩ := o11 _ (List.mem_of_getElem? eb)
  have C := c_put w s M.r M.rx dv ls lv t1 t2 t3 vs xs M.ns (isList_keeps hls hS) hi (isList_keeps hlv hS) hlt (by omega) (by rw [hx.length]; exact o6.symm) n u1 u2 v va vb d _ _ a1 a2 a3 (reads_stay Rv hS) (reads_stay Ra hS) (reads_stay Rb hS) o8 pa1 pb1 o9 pa2 pb2 o7 o1 o3 (by omega) (by omega) hva hvb
  refine (C.sub fun p hp => ?_).mono (fun v' s' x => ?_) (Nat.le_refl _)
  · exact (List.forall_mem_cons (p := fun p => p ∈ led hD)).mpr ⟨mem_led.mpr hr, List.forall_mem_cons.mpr ⟨mem_led.mpr hrx, List.forall_mem_nil _⟩⟩ p hp
  · refine DPost.of_ext (fun p hp => ?_) hS x ?_
    · exact (List.forall_mem_cons (p := fun p : Addr × Obj => ∃ o, hD.get? p.1 = some o)).mpr ⟨⟨_, hr⟩, List.forall_mem_cons.mpr ⟨⟨_, hrx⟩, List.forall_mem_nil _⟩⟩ p hp
    · rintro h' hD' news' k1 k2 k3 k4 k5 ⟨rfl, ls', lv', vs', rfl, q1, q2, q3, q4, q5⟩
      have ne : ∀ b o, hD.get? b = some o → b ≠ M.rx → hD'.get? b = some o := fun b o e hb => by
        by_cases hb' : b = M.r
        · rw [hb'] at e ⊢
          rw [hr] at e
          cases e
          exact k2 (M.r, instObj 346 M.rx) (.head _)
        · exact k1 b o e (by simp [hb, hb'])
      have nc : ∀ b o, hD.get? b = some o → o.cls ≠ .type "dict" → hD'.get? b = some o := fun b o e hc => ne b o e fun z => by
        rw [z, hrx] at e
        cases e
        exact hc rfl
      have fl : ∀ {l : Addr} {zs : Array Value}, h'.IsList l zs → s.heap.get? l = none → hD'.IsList l zs := fun ⟨o, a, b⟩ e => ⟨o, k4 _ _ a e, b⟩
      refine ⟨rfl, ⟨dv, ls', lv', vs', _, t1, t2, t3, a0, k2 (M.r, _) (.head _), k2 (M.rx, _) (.tail _ (.head _)), fl q1 q4, q2, fl q3 q5, ?_, ?_, hlt, hk0, ?_⟩, ne⟩
      · exact (hx.but nc (noDAll_mem.mpr fun d hd => (o11 d hd).2)).putG _ _ _ _ ⟨_, reads_but nc Rv o10⟩ ⟨_, reads_but nc Rb pb3⟩
      · exact reads_but nc h0 (Bool.and_eq_true_iff.mp hk0).2
      · exact putG_all hka (by simp only [okD, Bool.and_eq_true]; exact ⟨⟨o8, o9⟩, o10⟩) (by simp only [okD, Bool.and_eq_true]; exact ⟨⟨pb1, pb2⟩, pb3⟩)

theorem noDAll_of {ds : List PyData} (h : ds.all okD = true) : noDAll ds = true := noDAll_mem.mpr fun d hd => (Bool.and_eq_true_iff.mp (List.all_eq_true.mp h d hd)).2
theorem MapOk.keeps {w : World} {h h' : Heap} {M : MapSt} (O : MapOk w h M) (k : h.StaysIn h') : MapOk w h' M := by
  obtain ⟨dv, ls, lv, vs, xs, t1, t2, t3, a0, hr, hrx, hls, hi, hlv, hx, h0, r1, r2, r3⟩ := O
  exact ⟨dv, ls, lv, vs, xs, t1, t2, t3, a0, k _ _ hr, k _ _ hrx, isList_keeps hls k, hi, isList_keeps hlv k, hx.mono k, reads_stay h0 k, r1, r2, r3⟩
/-- a map whose dict is not the one turned -/
theorem MapOk.but {w : World} {h h' : Heap} {M : MapSt} {x : Addr} (O : MapOk w h M) (hx : ∀ o, h.get? x = some o → o.cls = .type "dict") (k : ∀ b o, h.get? b = some o → b ≠ x → h'.get? b = some o) (ne : M.rx ≠ x) : MapOk w h' M := by
  obtain ⟨dv, ls, lv, vs, xs, t1, t2, t3, a0, hr, hrx, hls, hi, hlv, hxs, h0, hlt, hk0, hka⟩ := O
  have nc : ∀ b o, h.get? b = some o → o.cls ≠ .type "dict" → h'.get? b = some o := fun b o e hc => k b o e fun z => hc (hx o (z ▸ e))
  exact ⟨dv, ls, lv, vs, xs, t1, t2, t3, a0, nc _ _ hr (fun e => nomatch e), k _ _ hrx ne, isList_but nc hls, hi, isList_but nc hlv, hxs.but nc (noDAll_of hka), reads_but nc h0 (Bool.and_eq_true_iff.mp hk0).2, hlt, hk0, hka⟩

/-- a Data's state -/
structure DSt where
  d : Addr
  dx : Addr
  dd : Addr
  mm : Addr
  dkv : List (Str × Value)
  dfl : List (Str × PyData)
  ms : List (Str × MapSt)
abbrev DSt.refs (S : DSt) : List (Str × Value) := S.ms.map fun p => (p.1, Value.ref p.2.r)
inductive DefAt (h : Heap) (dkv : List (Str × Value)) (k : Str) (d : PyData) : Prop
  | mk (v : Value) (a : List Addr) : valueAt dkv k = some v → Reads h v d a → okD d = true → DefAt h dkv k d
theorem DefAt.keeps {h h' : Heap} {dkv : List (Str × Value)} {k : Str} {d : PyData} (D : DefAt h dkv k d) (q : h.StaysIn h') : DefAt h' dkv k d := let ⟨v, a, h1, h2, h3⟩ := D; ⟨v, a, h1, reads_stay h2 q, h3⟩
theorem DefAt.but {h h' : Heap} {dkv : List (Str × Value)} {k : Str} {d : PyData} (D : DefAt h dkv k d) (q : ∀ b o, h.get? b = some o → o.cls ≠ .type "dict" → h'.get? b = some o) : DefAt h' dkv k d := let ⟨v, a, h1, h2, h3⟩ := D; ⟨v, a, h1, reads_but q h2 (Bool.and_eq_true_iff.mp h3).2, h3⟩
/-- the dicts of a Data are apart -/
structure Ap (dx dd mm : Addr) (ms : List (Str × MapSt)) : Prop where
  a1 : dx ≠ dd
  a2 : dx ≠ mm
  a3 : dd ≠ mm
  b1 : ∀ p ∈ ms, p.2.rx ≠ dx
  b2 : ∀ p ∈ ms, p.2.rx ≠ dd
  b3 : ∀ p ∈ ms, p.2.rx ≠ mm
  c : (ms.map (·.2.rx)).Nodup
structure DataOk (w : World) (h : Heap) (S : DSt) : Prop where
  at_ : DataAt w h S.d S.dx S.dd S.mm S.dkv S.refs
  maps : ∀ p ∈ S.ms, MapOk w h p.2
  defs : ∀ p ∈ S.dfl, DefAt h S.dkv p.1 p.2
  apart : Ap S.dx S.dd S.mm S.ms
def DSt.put (S : DSt) (name : Str) (n : Int) (d : PyData) : DSt := { S with ms := S.ms.map fun p => if p.1 = name then (p.1, putM p.2 n d) else p }
theorem DataOk.keeps {w : World} {h h' : Heap} {S : DSt} (D : DataOk w h S) (k : h.StaysIn h') : DataOk w h' S := ⟨D.at_.keeps k, fun p hp => (D.maps p hp).keeps k, fun p hp => (D.defs p hp).keeps k, D.apart⟩
section
variable {w : World} {h h' : Heap} {a : Addr} {kvs : List (Str × Value)} {o : Obj}
theorem dict_move (hm : h.DictOf (strKind PR w) a kvs) (k : ∀ o, h.get? a = some o → h'.get? a = some o) : h'.DictOf (strKind PR w) a kvs := let ⟨o, es, ep, ho, r⟩ := hm; ⟨o, es, ep, k o ho, r⟩
theorem dict_get (hm : h.DictOf (strKind PR w) a kvs) : ∃ o, h.get? a = some o := let ⟨o, _, _, ho, _⟩ := hm; ⟨o, ho⟩
theorem dict_cls (hm : h.DictOf (strKind PR w) a kvs) (e : h.get? a = some o) : o.cls = .type "dict" := let ⟨_, _, _, ho, c, _⟩ := hm; Option.some.inj (ho.symm.trans e) ▸ c.1
theorem dict_nodup (hm : h.DictOf (strKind PR w) a kvs) : (kvs.map (·.1)).Nodup := let ⟨_, _, _, _, _, _, _, _, n⟩ := hm; n
end
theorem MapOk.get {w : World} {h : Heap} {M : MapSt} (O : MapOk w h M) : ∃ o, h.get? M.rx = some o ∧ o.cls = .type "dict" := let ⟨_, _, _, _, _, _, _, _, _, _, q, _, _, _, _, _, _, _, _⟩ := O; ⟨_, q, rfl⟩
theorem MapOk.cls {w : World} {h : Heap} {M : MapSt} (O : MapOk w h M) (o : Obj) (e : h.get? M.rx = some o) : o.cls = .type "dict" := let ⟨_, q, c⟩ := O.get; Option.some.inj (q.symm.trans e) ▸ c
theorem DSt.put_refs (S : DSt) (name : Str) (n : Int) (d : PyData) : (S.put name n d).refs = S.refs := by
  unfold DSt.refs DSt.put
  simp only [List.map_map]
  refine List.map_congr_left fun p _ => ?_
  simp only [Function.comp]
  split <;> rfl
theorem put_mem {S : DSt} {name : Str} {n : Int} {d : PyData} {q : Str × MapSt → Prop} (h : ∀ p ∈ S.ms, p.1 ≠ name → q p) (k : ∀ p ∈ S.ms, p.1 = name → q (p.1, putM p.2 n d)) : ∀ p ∈ (S.put name n d).ms, q p := fun p hp => by
  obtain ⟨r, hr, rfl⟩ := List.mem_map.mp hp
  by_cases e : r.1 = name
  · rw [if_pos e]; exact k r hr e
  · rw [if_neg e]; exact h r hr e
theorem DSt.put_rx (S : DSt) (name : Str) (n : Int) (d : PyData) : (S.put name n d).ms.map (·.2.rx) = S.ms.map (·.2.rx) := by
  unfold DSt.put
  rw [List.map_map]
  refine List.map_congr_left fun p _ => ?_
  show (if p.1 = name then (p.1, putM p.2 n d) else p).2.rx = _
  split <;> rfl
theorem Ap.put {S : DSt} (D : Ap S.dx S.dd S.mm S.ms) (name : Str) (n : Int) (d : PyData) : Ap S.dx S.dd S.mm (S.put name n d).ms :=
  ⟨D.a1, D.a2, D.a3, put_mem (fun p hp _ => D.b1 p hp) (fun p hp _ => D.b1 p hp), put_mem (fun p hp _ => D.b2 p hp) (fun p hp _ => D.b2 p hp), put_mem (fun p hp _ => D.b3 p hp) (fun p hp _ => D.b3 p hp), (DSt.put_rx S name n d).symm ▸ D.c⟩
theorem DataAt.nodup {w : World} {h : Heap} {d dx dd mm : Addr} {dkv mkv : List (Str × Value)} (D : DataAt w h d dx dd mm dkv mkv) : (mkv.map (·.1)).Nodup := let ⟨_, _, _, _, _, _, _, _, _, _, q, _⟩ := D; dict_nodup q
theorem valueAt_mem {K : Type} [DecidableEq K] {kvs : List (K × Value)} {k : K} {v : Value} (hn : (kvs.map (·.1)).Nodup) (h : (k, v) ∈ kvs) : valueAt kvs k = some v := by
  obtain ⟨i, hi⟩ := List.mem_iff_getElem?.mp h
  exact valueAt_of_get hn hi
theorem DataOk.ref {w : World} {h : Heap} {S : DSt} (D : DataOk w h S) {name : Str} {M : MapSt} (hm : (name, M) ∈ S.ms) : valueAt S.refs name = some (.ref M.r) :=
  valueAt_mem D.at_.nodup (List.mem_map.mpr ⟨_, hm, rfl⟩)
theorem fst_unique {α β : Type} {l : List (α × β)} {a : α} {b b' : β} : (l.map (·.1)).Nodup → (a, b) ∈ l → (a, b') ∈ l → b = b' := by
  induction l with
  | nil => intro _ h; cases h
  | cons x l ih =>
    intro hn h1 h2
    have hn := List.nodup_cons.mp hn
    rcases List.mem_cons.mp h1 with e1 | k1
    · rcases List.mem_cons.mp h2 with e2 | k2
      · exact congrArg Prod.snd (e1.trans e2.symm)
      · exact absurd (e1 ▸ List.mem_map.mpr ⟨_, k2, rfl⟩) hn.1
    · rcases List.mem_cons.mp h2 with e2 | k2
      · exact absurd (e2 ▸ List.mem_map.mpr ⟨_, k1, rfl⟩) hn.1
      · exact ih hn.2 k1 k2
theorem DataOk.unique {w : World} {h : Heap} {S : DSt} (D : DataOk w h S) {name : Str} {M M' : MapSt} (hm : (name, M) ∈ S.ms) (hm' : (name, M') ∈ S.ms) : M = M' := by
  refine fst_unique (l := S.ms) ?_ hm hm'
  have := D.at_.nodup
  rw [List.map_map] at this
  exact this
theorem nodup_map_ne {α β : Type} {f : α → β} {l : List α} {a b : α} : (l.map f).Nodup → a ∈ l → b ∈ l → a ≠ b → f a ≠ f b := by
  induction l with
  | nil => intro _ h; cases h
  | cons x l ih =>
    intro hn ha hb ne
    have hn := List.nodup_cons.mp hn
    rcases List.mem_cons.mp ha with e1 | ka
    · rcases List.mem_cons.mp hb with e2 | kb
      · exact absurd (e1.trans e2.symm) ne
      · exact fun e => hn.1 (e1 ▸ e ▸ List.mem_map_of_mem kb)
    · rcases List.mem_cons.mp hb with e2 | kb
      · exact fun e => hn.1 (e2 ▸ e ▸ List.mem_map_of_mem ka)
      · exact ih hn.2 ka kb ne

/-- the step of a put, out of what c_putM leaves -/
theorem DataOk.put {w : World} {h h' : Heap} {S : DSt} (D : DataOk w h S) {name : Str} {M : MapSt} (hm : (name, M) ∈ S.ms) {n : Int} {d : PyData} (O : MapOk w h' (putM M n d)) (k : ∀ b o, h.get? b = some o → b ≠ M.rx → h'.get? b = some o) : DataOk w h' (S.put name n d) := by
  have ap := D.apart
  have hrx := (D.maps _ hm).cls
  have nc : ∀ b o, h.get? b = some o → o.cls ≠ .type "dict" → h'.get? b = some o := fun b o e hc => k b o e fun z => hc (hrx o (z ▸ e))
  refine ⟨?_, put_mem (fun p hp ne => ?_) (fun p hp e => ?_), fun p hp => (D.defs p hp).but nc, ap.put ..⟩
  · rw [DSt.put_refs]
    obtain ⟨v3, v4, t1, t2, t3, t4, q1, q2, q5, q6, q7, q8⟩ := D.at_
    exact ⟨v3, v4, t1, t2, t3, t4, nc _ _ q1 (fun e => nomatch e), k _ _ q2 (ap.b1 _ hm).symm, dict_move q5 fun _ e => k _ _ e (ap.b2 _ hm).symm, q6, dict_move q7 fun _ e => k _ _ e (ap.b3 _ hm).symm, q8⟩
  · exact (D.maps p hp).but hrx k (nodup_map_ne (f := fun p : Str × MapSt => p.2.rx) ap.c hp hm fun z => ne (congrArg Prod.fst z))
  · obtain ⟨nm, M'⟩ := p
    cases e
    exact D.unique hm hp ▸ O

set_option maxHeartbeats 4000000 in
theorem c_mapold (w : World) (s : Shared) (S : DSt) (D : DataOk w s.heap S) (name : Str) (M : MapSt) (hm : (name, M) ∈ S.ms) (t : Tok) : Callee w 399 [.ref S.d, .str name t] 2 s (Ext s fun v _ => v = .ref M.r) := by
  obtain ⟨v3, v4, t1, t2, t3, t4, hd, hdx, hdd, hdd', hmm, hmm'⟩ := D.at_
  have hv := D.ref hm
  walk_at "mine enter"
  walk_at "mine body"
  walk_at "mine steps"
  all_goals exact Ext.intro (Fr.keep (by k_asm)) rfl

set_option maxHeartbeats 4000000 in
theorem c_dput (w : World) (s : Shared) (hD : Heap) (S : DSt) (D : DataOk w hD S) (hS : hD.StaysIn s.heap) (name : Str) (M : MapSt) (hm : (name, M) ∈ S.ms) (n : Int) (t u1 u2 : Tok) (v : Value) (d : PyData) (Rv : ∃ a, Reads hD v d a) (ok : okPut M.ns M.ds n d = true) :
    CalleeN w 385 [.ref S.d, .str name t, .int n u1, .int n u2, v] 7 s (led hD) (DPost s hD fun v' hD' => v' = .none ∧ DataOk w hD' (S.put name n d)) := by
  have tg_c_dput : True := trivial
  obtain ⟨v3, v4, t1, t2, t3, t4, hd, hdx, -, -, -, -⟩ := D.at_
  obtain ⟨dv, ls, lv, vs, xs, t5, t6, t7, a0, hr, hrx, -, -, -, -, -, -, -, -⟩ := D.maps _ hm
  walk_at "mine enterN"
  walk_at "mine bodyN"
  k_with "call ref" => ((fail_if_success (fail_if_success (clear tg_c_dput))); first | k_dflt (first
    | (refine Callee.ext (c_mapold w _ S (D.keeps (by walk_at "mine keep")) name M hm _) (by k_asm) (by k_asm) (by k_asm) (by k_asm) (by k_asm) (by first | exact rfl | assumption) (by walk_at "mine room") (by walk_at "mine room") ?_; rintro v' h' tk' F' N' - rfl)
    | (refine CalleeN.dext (rest := []) (c_putM w _ hD M (D.maps _ hm) (by walk_at "mine keep") n _ _ v d Rv ok) (by k_asm) (by k_asm) (news_less (by k_asm) (by walk_at "mine sub")) News.nil (by k_asm) (by k_asm) (by first | exact rfl | assumption) (by walk_at "mine room") (by walk_at "mine room") (by intro q hq; cases hq) ?_; rintro v' h' tk' hD' F' N' - - ft' dm' ⟨rfl, hO, hK⟩)) | fail "no")
  walk_at "mine steps"
  all_goals exact DPost.of_body (by assumption) (by k_asm) (by k_asm) (ft'.of (stays_now (by assumption) (by assumption) (by assumption) (by assumption) (by walk_at "mine sub"))) dm' ⟨rfl, D.put hm hO hK⟩

section
variable {w : World} {A : Around} {E : Value → Shared → Prop} {s : Shared} {g : Heap} {d : Addr} {kvs : List (Str × Value)} {x : Str} {t : Tok}
theorem get_meth {pl : Sem Bool} {Q : Value × List Value → Shared → Prop} (hm : g.DictOf (strKind PR w) d kvs) (F : g.StaysIn s.heap) (h : Q (.builtin "dict.get", [.ref d]) s) : wpAny (model PR w) A (getMethod (.ref d) "get" pl) Q E s :=
  getMethod_builtin (dict_fr F hm).typeIs PySem.F.plainAttrs_dict PySem.F.slot_dict_get PySem.F.type_dict_get (dict_fr F hm).mapOf.noDict h
theorem get_call1 {Q : Value → Shared → Prop} (hm : g.DictOf (strKind PR w) d kvs) (F : g.StaysIn s.heap) (lo : (d == sysModules) = false) {v : Value} (hv : valueAt kvs x = some v) (h : Q v { s with toks := s.toks + 1 }) : wpAny (model PR w) A (call (.builtin "dict.get") [.ref d, .str x t]) Q E s :=
  call_meetsIn PySem.F.slot_dict_get (dict_fr F hm).typeIs PySem.F.entry_dict_get (PySem.F.args_dict_get_2 _ _) (meets_dict_get (strKind PR w) d (strKind_is PR w x t) lo) ⟨_, (dict_fr F hm).mapOf, by rw [hv]; exact h⟩
end
theorem kw_11_1 : True := by
  k_with "getMethod ref" => first | (k_here; (with_reducible show wpAny _ _ (getMethod (Value.ref _) "get" _) _ _ _); k_dflt (refine' get_meth (by assumption) (by walk_at "mine keep") ?_; k_whole)) | fail "no"
  k_with "call builtin:dict.get" => first | (k_here; k_dflt (refine' get_call1 (by assumption) (by walk_at "mine keep") (by assumption) (by assumption) ?_; k_whole)) | fail "no"
  trivial
local macro_rules | `(tactic| k_room) => `(tactic| ((try simp only [depth_under_make, depth_under_kw, depth_in1, depth_deeper]); (show _ < 1000); (try dsimp only [ktrTop]); omega))
theorem stored_new {kvs : List (Str × Value)} {k : Str} (h : k ∉ kvs.map (·.1)) (v : Value) : stored kvs k v = kvs ++ [(k, v)] := by
  unfold stored
  rw [if_neg]
  intro hc
  obtain ⟨p, hp, e⟩ := List.any_eq_true.mp hc
  exact h (of_decide_eq_true e ▸ List.mem_map_of_mem hp)
theorem valueAt_none {kvs : List (Str × Value)} {k : Str} (h : k ∉ kvs.map (·.1)) : valueAt kvs k = none := by
  unfold valueAt
  rw [List.find?_eq_none.mpr]
  · rfl
  · intro p hp hc
    exact h (of_decide_eq_true hc ▸ List.mem_map_of_mem hp)
theorem allLt_mem {a : Addr} {l : List (Addr × Obj)} (h : AllLt a l) : ∀ p ∈ l, @LT.lt Nat _ p.1 a := by
  induction l with
  | nil => intro p hp; cases hp
  | cons q r ih =>
    intro p hp
    rcases List.mem_cons.mp hp with rfl | hp
    · exact h.1
    · exact ih h.2 p hp
/-- a dict of the part hD gets an item -/
theorem set_led {w : World} {A : Around} {E : Value → Shared → Prop} {s : Shared} {g hD : Heap} {L mm : Addr} {m : Str → Option Value} {pre : List (Addr × Obj)} {kvs : List (Str × Value)} {name : Str} {t : Tok} {v : Value} {Q : Unit → Shared → Prop} (hm : hD.DictOf (strKind PR w) mm kvs) (F : Fr g L s.heap m) (N : News g L s.heap (pre ++ led hD)) (hlen : kvs.length < 1000) (hoff : ∀ q ∈ pre, q.1 ≠ mm)
    (k : ∀ h' hD', Fr g L h' m → News g L h' (pre ++ led hD') → hD'.DictOf (strKind PR w) mm (stored kvs name v) → (∀ b o, b ≠ mm → hD.get? b = some o → hD'.get? b = some o) → (∀ b o, hD'.get? b = some o → ∃ o', hD.get? b = some o') → Q () { s with heap := h', toks := s.toks + 1 }) : wpAny (model PR w) A (setItem (.ref mm) (.str name t) v) Q E s := by
  have hs : hD.StaysIn s.heap := led_stays N fun p hp => List.mem_append_right _ hp
  have hm' := hm.keep hs
  obtain ⟨om, esm, epm, hom, -⟩ := id hm
  have hsz : kvs.length ≤ sizeLine := by rw [sizeLine_eq]; omega
  have hkey : (strKind PR w).is name (.str name t) = true := strKind_is PR w name t
  refine wpAny_setItem_pairs hkey hm' (fun h' d' sb => ?_) hsz
  have hmN := N (mm, om) (List.mem_append_right _ (mem_led.mpr hom))
  obtain ⟨⟨oL, a1, a2, hL, a3⟩, k1, k2⟩ := id F
  refine k h' (keepOn h' fun b => (hD.get? b).isSome) ⟨⟨oL, a1, a2, (sb.2 L (Ne.symm hmN.2.1)).trans hL, a3⟩, fun b o e => (sb.2 b fun z => ?_).trans (k1 b o e), k2⟩ ?_ ?_ ?_ ?_
  · have := hmN.2.2
    rw [← z] at this
    exact absurd (e.symm.trans this) (by simp)
  · intro p hp
    rcases List.mem_append.mp hp with hp | hp
    · have := N p (List.mem_append_left _ hp)
      exact ⟨(sb.2 p.1 (hoff p hp)).trans this.1, this.2⟩
    · obtain ⟨b, o⟩ := p
      obtain ⟨e1, e2⟩ := keepOn_get.mp (mem_led.mp hp)
      obtain ⟨o', e3⟩ := Option.isSome_iff_exists.mp e2
      have := N (b, o') (List.mem_append_right _ (mem_led.mpr e3))
      exact ⟨e1, this.2⟩
  · obtain ⟨o', es', ep', ho', r⟩ := d'
    exact ⟨o', es', ep', keepOn_get.mpr ⟨ho', by rw [hom]; rfl⟩, r⟩
  · intro b o ne e
    exact keepOn_get.mpr ⟨(sb.2 b ne).trans (hs b o e), by rw [e]; rfl⟩
  · intro b o e
    exact Option.isSome_iff_exists.mp (keepOn_get.mp e).2
theorem DPost.of_news {s : Shared} {hD g h' : Heap} {L : Addr} {m : Str → Option Value} {nn : List (Addr × Obj)} {Φ : Value → Heap → Prop} {v : Value} {tk : Nat} (G : GSub s.heap g ((led hD).map (·.1))) (F : Fr g L h' m) (N : News g L h' nn) (dm : ∀ b o, hD.get? b = some o → ∃ o', (b, o') ∈ nn) (hΦ : ∀ hD', (∀ p ∈ nn, hD'.get? p.1 = some p.2) → Φ v hD') : DPost s hD Φ v { s with heap := h', toks := tk } := by
  refine ⟨h', tk, keepOn h' (fun b => (hD.get? b).isSome || (s.heap.get? b).isNone), rfl, fun b o e n => F.keep b o (G b o e fun q => ?_), keepOn_sub _ _, fun b o q => ?_, fun b o q => ?_, hΦ _ fun p hp => keepOn_get.mpr ⟨(N p hp).1, ?_⟩⟩
  · obtain ⟨⟨b', o'⟩, hp, rfl⟩ := List.mem_map.mp q
    rw [mem_led.mp hp] at n; cases n
  · rcases Bool.or_eq_true_iff.mp (keepOn_get.mp q).2 with q' | q'
    · exact .inl (Option.isSome_iff_exists.mp q')
    · exact .inr (Option.isNone_iff_eq_none.mp q')
  · obtain ⟨o', hp⟩ := dm b o q
    exact ⟨o', keepOn_get.mpr ⟨(N _ hp).1, by rw [q]; rfl⟩⟩
  · cases z : s.heap.get? p.1 with
    | none => simp
    | some o =>
      cases y : hD.get? p.1 with
      | some o' => rfl
      | none =>
        have := G p.1 o z fun q => by
          obtain ⟨⟨b', o'⟩, hp', e⟩ := List.mem_map.mp q
          simp only at e
          rw [← e, mem_led.mp hp'] at y; cases y
        have n := (N p hp).2.2
        exact absurd (this.symm.trans n) (by simp)

theorem dict_ne {w : World} {h : Heap} {a b : Addr} {kvs : List (Str × Value)} {o : Obj} (hm : h.DictOf (strKind PR w) a kvs) (e : h.get? b = some o) (hc : o.cls ≠ .type "dict") : b ≠ a := fun z => hc (dict_cls hm (z ▸ e))
theorem mem_snoc {α : Type} {l : List α} {x : α} {q : α → Prop} (h : ∀ p ∈ l, q p) (k : q x) : ∀ p ∈ l ++ [x], q p := fun p hp => (List.mem_append.mp hp).elim (h p) fun e => List.mem_singleton.mp e ▸ k
theorem DSt.add_refs (S : DSt) (name : Str) (M : MapSt) : ({ S with ms := S.ms ++ [(name, M)] } : DSt).refs = S.refs ++ [(name, .ref M.r)] := List.map_append
theorem Ap.add {dx dd mm : Addr} {ms : List (Str × MapSt)} (A : Ap dx dd mm ms) {name : Str} {M : MapSt} (n1 : dx ≠ M.rx) (n2 : dd ≠ M.rx) (n3 : mm ≠ M.rx) (n4 : ∀ p ∈ ms, p.2.rx ≠ M.rx) : Ap dx dd mm (ms ++ [(name, M)]) :=
  ⟨A.a1, A.a2, A.a3, mem_snoc A.b1 n1.symm, mem_snoc A.b2 n2.symm, mem_snoc A.b3 n3.symm, by
    rw [List.map_append, List.nodup_append]
    exact ⟨A.c, List.nodup_cons.mpr ⟨fun h => (nomatch h), List.nodup_nil⟩, fun a ha b hb => List.mem_singleton.mp hb ▸ (let ⟨p, hp, e⟩ := List.mem_map.mp ha; e ▸ n4 p hp)⟩⟩
theorem DataOk.add {w : World} {h h2 : Heap} {S : DSt} (D : DataOk w h S) {name : Str} {r rx ls lv : Addr} {d0 : PyData} {v0 : Value} {t1 t2 t3 u : Tok} (hd0 : (name, d0) ∈ S.dfl)
    (k1 : ∀ b o, b ≠ S.mm → h.get? b = some o → h2.get? b = some o) (dm : h2.DictOf (strKind PR w) S.mm (S.refs ++ [(name, .ref r)])) (e1 : h2.get? r = some (instObj 346 rx)) (e2 : h2.get? rx = some (dictOf (rmEs w t1 t2 t3 v0 ls lv) 3))
    (e3 : h2.get? ls = some (PySem.W.listOf #[.int 0 u] 0)) (e4 : h2.get? lv = some (PySem.W.listOf #[v0] 0)) (hv0 : valueAt S.dkv name = some v0) (hlt : @LT.lt Nat _ rx r) (hfr : ∀ b o, h.get? b = some o → b ≠ rx) :
    DataOk w h2 { S with ms := S.ms ++ [(name, ⟨r, rx, d0, [0], [d0]⟩)] } := by
  obtain ⟨v3, v4, q1, q2, q3, q4, a1, a2, a3, a4, a5, a6⟩ := D.at_
  have ap := D.apart
  have nc : ∀ b o, h.get? b = some o → o.cls ≠ .type "dict" → h2.get? b = some o := fun b o e hc => k1 b o (dict_ne a5 e hc) e
  have hf : ∀ {b : Addr}, (∃ o, h.get? b = some o) → b ≠ rx := fun ⟨o, e⟩ => hfr _ o e
  refine ⟨?_, mem_snoc (fun p hp => ?_) ?_, fun p hp => (D.defs p hp).but nc, ap.add (hfr _ _ a2) (hf (dict_get a3)) (hf (dict_get a5)) fun p hp => hf ((D.maps p hp).get.imp fun _ x => x.1)⟩
  · rw [DSt.add_refs]
    exact ⟨v3, v4, q1, q2, q3, q4, nc _ _ a1 (fun e => nomatch e), k1 _ _ ap.a2 a2, dict_move a3 fun _ e => k1 _ _ ap.a3 e, a4, dm, a6⟩
  · exact (D.maps p hp).but (fun _ e => dict_cls a5 e) (fun b o e hb => k1 b o hb e) (ap.b3 p hp)
  · obtain ⟨v', a', f1, f2, f3⟩ := D.defs _ hd0
    have e0 : v' = v0 := Option.some.inj (f1.symm.trans hv0)
    have R := reads_but nc (e0 ▸ f2) (Bool.and_eq_true_iff.mp f3).2
    exact ⟨v0, ls, lv, [.int 0 u], [v0], t1, t2, t3, a', e1, e2, ⟨_, e3, rfl, 0, rfl⟩, .cons _ _ .nil, ⟨_, e4, rfl, 0, rfl⟩, .cons ⟨a', R⟩ .nil, R, hlt, f3, (Bool.and_true _).trans f3⟩
theorem valueAt_last {kvs : List (Str × Value)} {k : Str} (h : k ∉ kvs.map (·.1)) (v : Value) : valueAt (kvs ++ [(k, v)]) k = some v := by
  unfold valueAt
  rw [List.find?_append, List.find?_eq_none.mpr]
  · simp
  · intro p hp hc
    exact h (of_decide_eq_true hc ▸ List.mem_map_of_mem hp)
abbrev oneO (v : Value) (k : Nat) : Obj := { cls := .type "list", data := .seq [v].toArray k }
/-- what a new map leaves -/
inductive NewMap (w : World) (hD : Heap) (S : DSt) (name : Str) (d0 : PyData) (v : Value) (hD' : Heap) : Prop
  | mk (r rx ls lv : Addr) (u : Tok) (v0 : Value) (t1 t2 t3 : Tok) : v = .ref r → DataOk w hD' { S with ms := S.ms ++ [(name, ⟨r, rx, d0, [0], [d0]⟩)] } → (∀ b o, b ≠ S.mm → hD.get? b = some o → hD'.get? b = some o) → hD'.get? r = some (instObj 346 rx) → hD'.get? rx = some (dictOf (rmEs w t1 t2 t3 v0 ls lv) 3) → hD'.get? ls = some (oneO (.int 0 u) 0) → hD'.get? lv = some (oneO v0 0) → valueAt S.dkv name = some v0 → NewMap w hD S name d0 v hD'
theorem newmap_of {w : World} {hD hD2 hD' : Heap} {S : DSt} (D : DataOk w hD S) {name : Str} {d0 : PyData} (hd0 : (name, d0) ∈ S.dfl) {r rx ls lv : Addr} {u : Tok} {v0 : Value} {t1 t2 t3 : Tok} {nn : List (Addr × Obj)} (e0 : valueAt S.dkv name = some v0) (hlt : @LT.lt Nat _ rx r) (hfr : ∀ b o, hD.get? b = some o → b ≠ rx)
    (hs : ∀ p ∈ led hD', p ∈ nn) (m1 : (r, instObj 346 rx) ∈ nn) (m2 : (rx, dictOf (rmEs w t1 t2 t3 v0 ls lv) 3) ∈ nn) (m3 : (ls, oneO (.int 0 u) 0) ∈ nn) (m4 : (lv, oneO v0 0) ∈ nn) (dd : hD'.DictOf (strKind PR w) S.mm (S.refs ++ [(name, .ref r)])) (q1 : ∀ b o, b ≠ S.mm → hD.get? b = some o → hD'.get? b = some o) (hn : ∀ p ∈ nn, hD2.get? p.1 = some p.2) : NewMap w hD S name d0 (.ref r) hD2 :=
  have k : ∀ b o, b ≠ S.mm → hD.get? b = some o → hD2.get? b = some o := fun b o nb e => hn (b, o) (hs _ (mem_led.mpr (q1 b o nb e)))
  ⟨r, rx, ls, lv, u, v0, t1, t2, t3, rfl, D.add hd0 k (dict_move dd fun o e => hn (S.mm, o) (hs _ (mem_led.mpr e))) (hn _ m1) (hn _ m2) (hn _ m3) (hn _ m4) e0 hlt hfr, k, hn _ m1, hn _ m2, hn _ m3, hn _ m4, e0⟩
theorem newmap_dm {w : World} {hD hD' : Heap} {S : DSt} {kvs : List (Str × Value)} {nn : List (Addr × Obj)} (hs : ∀ p ∈ led hD', p ∈ nn) (dd : hD'.DictOf (strKind PR w) S.mm kvs) (q1 : ∀ b o, b ≠ S.mm → hD.get? b = some o → hD'.get? b = some o) (b : Addr) (o : Obj) (e : hD.get? b = some o) : ∃ o', (b, o') ∈ nn := by
  by_cases hb : b = S.mm
  · exact (dict_get dd).imp fun o' e' => hs (b, o') (mem_led.mpr (hb ▸ e'))
  · exact ⟨o, hs _ (mem_led.mpr (q1 b o hb e))⟩
set_option maxHeartbeats 4000000 in
theorem c_mapnewX (w : World) (s : Shared) (hD : Heap) (S : DSt) (D : DataOk w hD S) (name : Str) (hm : name ∉ S.ms.map (·.1)) (d0 : PyData) (hd0 : (name, d0) ∈ S.dfl) (hlen : S.ms.length < 1000) (t : Tok) :
    CalleeN w 399 [.ref S.d, .str name t] 4 s (led hD) (DPost s hD (NewMap w hD S name d0)) := by
  have tg_c_mapnewX : True := trivial
  obtain ⟨v3, v4, t1, t2, t3, t4, hd, hdx, hdd, hdd', hmm, hmm'⟩ := D.at_
  have hk : name ∉ S.refs.map (·.1) := by rw [List.map_map]; exact hm
  have hv : valueAt S.refs name = none := valueAt_none hk
  obtain ⟨v0, a0, e0, R0, k0⟩ := D.defs _ hd0
  walk_at "mine enterN"
  walk_at "mine bodyN"
  walk_at "mine steps"
  obtain ⟨om, hom⟩ := dict_get hmm
  have h1 := ltN ((by assumption : ∀ p ∈ led hD, p.1 < _) (S.mm, om) (mem_led.mpr hom))
  have hfr : ∀ b o, hD.get? b = some o → b ≠ _ := fun b o e => Nat.ne_of_lt ((by assumption : ∀ p ∈ led hD, p.1 < _) (b, o) (mem_led.mpr e))
  have ap := D.apart
  refine set_led (pre := [_, _, _, _]) hmm (by k_asm) (by k_asm) (by rw [List.length_map]; exact hlen) ?_ ?_
  · exact List.forall_mem_cons.mpr ⟨by k_ne, List.forall_mem_cons.mpr ⟨by k_ne, List.forall_mem_cons.mpr ⟨by k_ne, List.forall_mem_cons.mpr ⟨by k_ne, List.forall_mem_nil _⟩⟩⟩⟩
  · intro h' hD' F' N' d' q1 q2
    rw [stored_new hk] at d'
    have hd2 := q1 _ _ (dict_ne hmm hd (fun e => nomatch e)) hd
    have hdx2 := q1 _ _ ap.a2 hdx
    have hv2 := valueAt_last hk
    clear hd hdx hmm hv
    (try dsimp only [List.cons_append, List.nil_append] at N')
    k_with "subscriptTail" => ((fail_if_success (fail_if_success (clear tg_c_mapnewX))); first | (((with_unfolding_all refine' key_base d' (by walk_at "mine keep") (hv2 _) ?_ (by with_unfolding_all rfl)))) | fail "no")
    walk_at "mine steps"
    refine DPost.of_news (by assumption) (by k_asm) (by k_asm) (newmap_dm ?_ d' q1) fun hD2 hn => newmap_of D hd0 e0 (by assumption) hfr ?_ (by k_mem) (by k_mem) (by k_mem) (by k_mem) d' q1 hn
    · walk_at "mine sub"
    · walk_at "mine sub"
theorem DPost.mono {s : Shared} {hD : Heap} {Φ Φ' : Value → Heap → Prop} {v : Value} {s' : Shared} (h : ∀ v hD, Φ v hD → Φ' v hD) (x : DPost s hD Φ v s') : DPost s hD Φ' v s' := by
  obtain ⟨h', tk, hD', q1, q2, q3, q4, q5, q6⟩ := x
  exact ⟨h', tk, hD', q1, q2, q3, q4, q5, h _ _ q6⟩

abbrev DSt.add (S : DSt) (name : Str) (M : MapSt) : DSt := { S with ms := S.ms ++ [(name, M)] }
theorem DataOk.mm_dict {w : World} {h : Heap} {S : DSt} (D : DataOk w h S) (o : Obj) (e : h.get? S.mm = some o) : o.cls = .type "dict" := let ⟨_, _, _, _, _, _, _, _, _, _, q, _⟩ := D.at_; dict_cls q e
theorem foot_of2 {H H1 hD hD1 : Heap} (f : Foot H1 hD hD1) (k : H.StaysIn H1) : Foot H hD hD1 ∧ Dom H H1 := ⟨f.of k, Dom.of k⟩
set_option maxHeartbeats 4000000 in
theorem c_dputnew (w : World) (s : Shared) (hD : Heap) (S : DSt) (D : DataOk w hD S) (name : Str) (hm : name ∉ S.ms.map (·.1)) (d0 : PyData) (hd0 : (name, d0) ∈ S.dfl) (hlen : S.ms.length < 1000) (n : Int) (t u1 u2 : Tok) (v : Value) (d : PyData) (Rv : ∃ a, Reads hD v d a) (ok : okPut [0] [d0] n d = true) :
    CalleeN w 385 [.ref S.d, .str name t, .int n u1, .int n u2, v] 7 s (led hD) (DPost s hD fun v' hD' => v' = .none ∧ ∃ r rx, DataOk w hD' ((S.add name ⟨r, rx, d0, [0], [d0]⟩).put name n d)) := by
  have tg_c_dputnew : True := trivial
  obtain ⟨v3, v4, t1, t2, t3, t4, hd, hdx, -, -, -, -⟩ := D.at_
  obtain ⟨a, Rv⟩ := Rv
  have nd : noD d = true := (Bool.and_eq_true_iff.mp (Bool.and_eq_true_iff.mp (Bool.and_eq_true_iff.mp ok).1).2).2
  walk_at "mine enterN"
  walk_at "mine bodyN"
  k_with "call ref" => ((fail_if_success (fail_if_success (clear tg_c_dputnew))); first | (k_dflt (first
    | (k_dflt (refine CalleeN.dext (rest := []) (c_mapnewX w _ hD S D name hm d0 hd0 hlen _) (by k_asm) (by k_asm) (news_less (by k_asm) (by walk_at "mine sub")) News.nil (by k_asm) (by k_asm) (by first | exact rfl | assumption) (by walk_at "mine room") (by walk_at "mine room") (by intro q hq; cases hq) ?_); rintro v' h' tk' hD1 F1 N1 - hk1 ft1 dm1 ⟨r, rx, -, -, -, -, -, -, -, rfl, D1, hK1, -, -, -, -, -⟩; clear hd hdx; (obtain ⟨dv, ls, lv, vs, xs, t5, t6, t7, a0, hr, hrx, -, -, -, -, -, -, -, -⟩ := D1.maps (name, ⟨r, rx, d0, [0], [d0]⟩) (List.mem_append_right _ (.head _))))
    | (k_dflt (refine CalleeN.dext (rest := []) (c_putM w _ hD1 ⟨r, rx, d0, [0], [d0]⟩ (D1.maps (name, ⟨r, rx, d0, [0], [d0]⟩) (List.mem_append_right _ (.head _))) (by walk_at "mine keep") n _ _ v d ⟨a, reads_but (fun b o e hc => hK1 b o (fun z => hc (D.mm_dict o (z ▸ e))) e) Rv nd⟩ ok) (by k_asm) (by k_asm) (news_less (by k_asm) (by walk_at "mine sub")) News.nil (by k_asm) (by k_asm) (by first | exact rfl | assumption) (by walk_at "mine room") (by walk_at "mine room") (by intro q hq; cases hq) ?_); rintro v' h' tk' hD2 F2 N2 - - ft2 dm2 ⟨rfl, hO, hK⟩))) | fail "no")
  walk_at "mine steps"
  all_goals (
    have z := foot_of2 (H := s.heap) ft1 (stays_now (by assumption) (by assumption) (by assumption) (by assumption) (by walk_at "mine sub"))
    exact DPost.of_body (by assumption) (by k_asm) (by k_asm) (z.1.trans ft2 (z.2.trans (dom_now hk1 dm1 (led_stays N1 fun _ hp => hp)))) (dm1.trans dm2) ⟨rfl, r, rx, D1.put (List.mem_append_right _ (.head _)) hO hK⟩)

/-- a RangeMap's state, no addresses in it -/
structure AMap where
  d0 : PyData
  ns : List Int
  ds : List PyData
def MapSt.abs (M : MapSt) : AMap := ⟨M.d0, M.ns, M.ds⟩
def DSt.abs (S : DSt) : List (Str × AMap) := S.ms.map fun p => (p.1, p.2.abs)
def findA {β : Type} : List (Str × β) → Str → Option β
  | [], _ => none
  | (k, b) :: r, x => if k = x then some b else findA r x
theorem findA_mem {β : Type} {x : Str} {b : β} {l : List (Str × β)} : findA l x = some b → (x, b) ∈ l := by
  induction l with
  | nil => intro h; cases h
  | cons q r ih =>
    intro h
    by_cases e : q.1 = x
    · exact (show q = (x, b) from Prod.ext e (Option.some.inj ((if_pos e).symm.trans h))) ▸ .head _
    · exact .tail _ (ih ((if_neg e).symm.trans h))
theorem findA_none {β : Type} {x : Str} {l : List (Str × β)} : findA l x = none → x ∉ l.map (·.1) := by
  induction l with
  | nil => intro _ h; cases h
  | cons q r ih =>
    intro h
    by_cases e : q.1 = x
    · exact nomatch (if_pos e).symm.trans h
    · exact fun k => (List.mem_cons.mp k).elim (fun z => e z.symm) (ih ((if_neg e).symm.trans h))
def AMap.put (M : AMap) (n : Int) (d : PyData) : AMap := ⟨M.d0, putNs M.ns M.ds n d, putDs M.ns M.ds n d⟩
def updA (A : List (Str × AMap)) (name : Str) (n : Int) (d : PyData) : List (Str × AMap) := A.map fun p => if p.1 = name then (p.1, p.2.put n d) else p
/-- Data.put, on states without addresses -/
def putA (dfl : List (Str × PyData)) (A : List (Str × AMap)) (name : Str) (n : Int) (d : PyData) : Option (List (Str × AMap)) :=
  match findA A name with
  | some M => if okPut M.ns M.ds n d = true then some (updA A name n d) else none
  | none => match findA dfl name with
    | some d0 => if okPut [0] [d0] n d = true then some (updA (A ++ [(name, ⟨d0, [0], [d0]⟩)]) name n d) else none
    | none => none
theorem abs_put (S : DSt) (name : Str) (n : Int) (d : PyData) : (S.put name n d).abs = updA S.abs name n d := by
  unfold DSt.abs DSt.put updA
  simp only [List.map_map]
  refine List.map_congr_left fun p _ => ?_
  simp only [Function.comp]
  by_cases h : p.1 = name
  · simp only [if_pos h]; rfl
  · simp only [if_neg h]

theorem abs_add (S : DSt) (name : Str) (M : MapSt) : (S.add name M).abs = S.abs ++ [(name, M.abs)] := List.map_append
/-- what a put leaves -/
inductive PutOk (w : World) (S : DSt) (A' : List (Str × AMap)) (hD' : Heap) : Prop
  | mk (S' : DSt) : DataOk w hD' S' → S'.d = S.d → S'.dfl = S.dfl → S'.abs = A' → PutOk w S A' hD'
theorem putA_some {dfl : List (Str × PyData)} {A A' : List (Str × AMap)} {name : Str} {n : Int} {d : PyData} {M : AMap} (hM : findA A name = some M) (h : putA dfl A name n d = some A') : okPut M.ns M.ds n d = true ∧ updA A name n d = A' := by
  unfold putA at h
  rw [hM] at h
  by_cases ok : okPut M.ns M.ds n d = true
  · exact ⟨ok, Option.some.inj ((if_pos ok).symm.trans h)⟩
  · exact nomatch (if_neg ok).symm.trans h
theorem putA_none {dfl : List (Str × PyData)} {A A' : List (Str × AMap)} {name : Str} {n : Int} {d : PyData} (hM : findA A name = none) (h : putA dfl A name n d = some A') : ∃ d0, findA dfl name = some d0 ∧ okPut [0] [d0] n d = true ∧ updA (A ++ [(name, ⟨d0, [0], [d0]⟩)]) name n d = A' := by
  unfold putA at h
  rw [hM] at h
  cases hd : findA dfl name with
  | none => rw [hd] at h; cases h
  | some d0 =>
    rw [hd] at h
    by_cases ok : okPut [0] [d0] n d = true
    · exact ⟨d0, rfl, ok, Option.some.inj ((if_pos ok).symm.trans h)⟩
    · exact nomatch (if_neg ok).symm.trans h

theorem c_dputA (w : World) (s : Shared) (hD : Heap) (S : DSt) (D : DataOk w hD S) (hS : hD.StaysIn s.heap) (name : Str) (n : Int) (t u1 u2 : Tok) (v : Value) (d : PyData) (Rv : ∃ a, Reads hD v d a) (A' : List (Str × AMap)) (h : putA S.dfl S.abs name n d = some A') (hlen : S.ms.length < 1000) :
    CalleeN w 385 [.ref S.d, .str name t, .int n u1, .int n u2, v] 7 s (led hD) (DPost s hD fun v' hD' => v' = .none ∧ PutOk w S A' hD') := by
  cases hM : findA S.abs name with
  | some M =>
    obtain ⟨⟨nm, M'⟩, hp, e⟩ := List.mem_map.mp (findA_mem hM)
    cases e
    obtain ⟨ok, rfl⟩ := putA_some hM h
    exact (c_dput w s hD S D hS _ M' hp n t u1 u2 v d Rv ok).mono (fun _ _ x => x.mono fun _ _ q => ⟨q.1, S.put nm n d, q.2, rfl, rfl, abs_put ..⟩) (Nat.le_refl _)
  | none =>
    obtain ⟨d0, hd0, ok, rfl⟩ := putA_none hM h
    have hn : name ∉ S.ms.map (·.1) := fun z => findA_none hM (by unfold DSt.abs; rw [List.map_map]; exact z)
    exact (c_dputnew w s hD S D name hn d0 (findA_mem hd0) hlen n t u1 u2 v d Rv ok).mono (fun _ _ x => x.mono fun _ _ q => ⟨q.1, q.2.elim fun _ q => q.elim fun _ q => ⟨_, q, rfl, rfl, (abs_put ..).trans (by rw [abs_add]; rfl)⟩⟩) (Nat.le_refl _)

section
variable {prog : Program} {w : World} {A : Around} {E : Value → Shared → Prop} {s : Shared} {env : Env} {h₀ : Heap} {x : Str} {body : List Stmt} {Q : Flow → Shared → Prop}
theorem loopAt_of {fp : List Addr} {n : Nat} {P : Nat → Value → Prop} {St : Nat → Heap → Prop} {m₀ : Str → Option Value} {news : List (Addr × Obj)} {io : Obj} (J : Nat → (Str → Option Value) → List (Addr × Obj) → Prop)
    (W : Walks prog w A s.heap.objs.size fp [s.heap.objs.size] n P St) (hL : env.locals ∉ fp) (hst : St 0 (s.heap.push io)) (F : Fr h₀ env.locals s.heap m₀) (N : News h₀ env.locals s.heap news) (hj : J 0 m₀ news)
    (turn : ∀ i v m₁ news₁ h tk own, i < n → P i v → J i m₁ news₁ → (∀ p ∈ news₁, p.1 ≠ s.heap.objs.size) → (∀ p ∈ own, p.1 ∈ fp) → St (i + 1) h → Fr h₀ env.locals h (fun y => if y = x then some v else m₁ y) → News h₀ env.locals h (own ++ news₁) →
      wpAny (model prog w) A (execs body env) (LoopStepV h₀ env.locals [s.heap.objs.size] own (J (i + 1)) { s with heap := h, toks := tk } (fun v s' => Q (.ret v) s') fun s' => Q .next s') E { s with heap := h, toks := tk })
    (done : ∀ m news₁ h tk, J n m news₁ → Fr h₀ env.locals h m → News h₀ env.locals h news₁ → Q .next { s with heap := h, toks := tk }) :
    LoopAtV prog w A h₀ env x body Q E (.ref s.heap.objs.size) { s with heap := s.heap.push io } :=
  ⟨_, _, _, n, P, St, m₀, news, J, rfl, W, hL, fun b hb => (List.mem_singleton.mp hb).symm ▸ next_is_new F, fun p hp hI => absurd (Heap.lt_size (N p hp).1) ((List.mem_singleton.mp hI) ▸ Nat.lt_irrefl _), hst, F.push _, fun p hp => ⟨Heap.get?_push_of_some _ (N p hp).1, (N p hp).2⟩, hj,
    fun i v m₁ news₁ s₁ own e hi hP hJ hoff hown _ _ hst' F₁ N₁ => by
      obtain ⟨h, tk, rfl⟩ := e
      exact turn i v m₁ news₁ h tk own hi hP hJ (fun p hp e => hoff p hp (List.mem_singleton.mpr e)) hown hst' F₁ N₁,
    fun h' tk m' news' F' N' _ hJ => done m' news' h' tk hJ F' N'⟩
theorem off_two {L I T : Addr} (h1 : @LT.lt Nat _ L I) (h2 : T ≠ L) : L ∉ [I, T] := fun hm => (List.mem_cons.mp hm).elim (fun e => Nat.ne_of_lt h1 e) fun hm => h2 (List.mem_singleton.mp hm).symm
theorem own_two {I T : Addr} {own : List (Addr × Obj)} (h : ∀ p ∈ own, p.1 ∈ [I, T]) : ∀ p ∈ own, p.1 = I ∨ p.1 = T := fun p hp => (List.mem_cons.mp (h p hp)).imp id List.mem_singleton.mp
theorem one_self {m : Str → Option Value} {x : Str} : m = fun y => if y = x then m x else m y := by
  funext y
  by_cases h : y = x
  · rw [if_pos h, h]
  · rw [if_neg h]
theorem one_twice {m : Str → Option Value} {x : Str} {u v : Option Value} : (fun y => if y = x then v else (fun y => if y = x then u else m y) y) = fun y => if y = x then v else m y := by
  funext y
  by_cases h : y = x
  · rw [if_pos h, if_pos h]
  · show (if y = x then v else if y = x then u else m y) = _
    rw [if_neg h, if_neg h, if_neg h]
/-- a for, by what holds of the ledger between its turns; its body stores no name -/
theorem lp_walk {T : Addr} {n : Nat} {P : Nat → Value → Prop} {St : Nat → Heap → Prop} {m₀ : Str → Option Value} {news : List (Addr × Obj)} {io : Obj} (J : Nat → List (Addr × Obj) → Prop)
    (W : Walks prog w A s.heap.objs.size [s.heap.objs.size, T] [s.heap.objs.size] n P St) (hTL : T ≠ env.locals) (hst : St 0 (s.heap.push io)) (F : Fr h₀ env.locals s.heap m₀) (N : News h₀ env.locals s.heap news) (hj : J 0 news)
    (turn : ∀ i v news₁ h tk own, i < n → P i v → J i news₁ → (∀ p ∈ news₁, p.1 ≠ s.heap.objs.size) → (∀ p ∈ own, p.1 = s.heap.objs.size ∨ p.1 = T) → St (i + 1) h → Fr h₀ env.locals h (fun y => if y = x then some v else m₀ y) → News h₀ env.locals h (own ++ news₁) →
      wpAny (model prog w) A (execs body env) (LoopStepV h₀ env.locals [s.heap.objs.size] own (fun m nx => (∃ u, m = fun y => if y = x then u else m₀ y) ∧ J (i + 1) nx) { s with heap := h, toks := tk } (fun v s' => Q (.ret v) s') fun s' => Q .next s') E { s with heap := h, toks := tk })
    (done : ∀ u news₁ h tk, J n news₁ → Fr h₀ env.locals h (fun y => if y = x then u else m₀ y) → News h₀ env.locals h news₁ → Q .next { s with heap := h, toks := tk }) :
    LoopAtV prog w A h₀ env x body Q E (.ref s.heap.objs.size) { s with heap := s.heap.push io } :=
  loopAt_of (fun i m nx => (∃ u, m = fun y => if y = x then u else m₀ y) ∧ J i nx) W (off_two F.ns.lt hTL) hst F N ⟨⟨_, one_self⟩, hj⟩
    (fun i v m₁ news₁ h tk own hi hP hJ hoff hown hst' F₁ N₁ => by
      obtain ⟨⟨u, rfl⟩, hJ⟩ := hJ
      rw [one_twice] at F₁
      exact turn i v news₁ h tk own hi hP hJ hoff (own_two hown) hst' F₁ N₁)
    fun m news₁ h tk hJ F' N' => by
      obtain ⟨⟨u, rfl⟩, hJ⟩ := hJ
      exact done u news₁ h tk hJ F' N'
theorem tup_lt {h : Heap} {T : Addr} {items : Array Value} (hT : h.IsTuple T items) : @LT.lt Nat _ T h.objs.size := let ⟨_, ho, _⟩ := hT; Heap.lt_size ho
theorem ns_not_seq {h : Heap} {L T : Addr} {m : Str → Option Value} {o : Obj} {xs : Array Value} {k : Nat} (F : h.Ns L m) (ho : h.get? T = some o) (hd : o.data = .seq xs k) : T ≠ L := fun e => by
  obtain ⟨oL, _, _, hL, hLd, _⟩ := F
  rw [← e, ho] at hL
  cases hL
  exact nomatch hd.symm.trans hLd
theorem step_own {L : Addr} {wr : List Addr} {own own0 : List (Addr × Obj)} {Jn : (Str → Option Value) → List (Addr × Obj) → Prop} {s₁ s₃ : Shared} {Qr : Value → Shared → Prop} {Qb : Shared → Prop} {f : Flow} (ho : ∀ p ∈ own, p ∈ own0) (q : LoopStepV h₀ L wr own0 Jn s₁ Qr Qb f s₃) : LoopStepV h₀ L wr own Jn s₁ Qr Qb f s₃ := by
  have fin : ∀ f s₃, LoopStepU h₀ L wr own0 Jn s₁ f s₃ → LoopStepU h₀ L wr own Jn s₁ f s₃ := fun f s₃ x => ⟨x.1, x.2.imp fun _ x => x.imp fun _ x => x.imp fun _ x => x.imp fun _ x => ⟨x.1, x.2.1, fun p hp => x.2.2.1 p ((List.mem_append.mp hp).elim (fun hp => List.mem_append_left _ (ho p hp)) (List.mem_append_right _)), x.2.2.2⟩⟩
  cases f with
  | ret v => exact q
  | brk => exact q
  | next => exact fin _ _ q
  | cont => exact fin _ _ q
theorem own_one {h : Heap} {L I : Addr} {oI : Obj} {own news₁ : List (Addr × Obj)} (hoI : h.get? I = some oI) (hown : ∀ p ∈ own, p.1 = I) (N : News h₀ L h (own ++ news₁)) : ∀ p ∈ own, p ∈ [(I, oI)] := fun p hp =>
  List.mem_singleton.mpr (Prod.ext (hown p hp) (Option.some.inj ((N p (List.mem_append_left _ hp)).1.symm.trans (hown p hp ▸ hoI))))
theorem lp_tupleI {T : Addr} {items : Array Value} {m₀ : Str → Option Value} {news : List (Addr × Obj)} (J : Nat → List (Addr × Obj) → Prop) (hh : A.handled = none) (hT : s.heap.IsTuple T items) (F : Fr h₀ env.locals s.heap m₀) (N : News h₀ env.locals s.heap news) (hj : J 0 news)
    (turn : ∀ i v news₁ h tk own I, items[i]? = some v → J i news₁ → (∀ p ∈ news₁, p.1 ≠ I) → (∀ p ∈ own, p.1 = I ∨ p.1 = T) → (∃ o, h.get? I = some o) → h.IsTuple T items → Fr h₀ env.locals h (fun y => if y = x then some v else m₀ y) → News h₀ env.locals h (own ++ news₁) →
      wpAny (model prog w) A (execs body env) (LoopStepV h₀ env.locals [I] own (fun m nx => (∃ u, m = fun y => if y = x then u else m₀ y) ∧ J (i + 1) nx) { s with heap := h, toks := tk } (fun v s' => Q (.ret v) s') fun s' => Q .next s') E { s with heap := h, toks := tk })
    (done : ∀ u news₁ h tk, J items.size news₁ → Fr h₀ env.locals h (fun y => if y = x then u else m₀ y) → News h₀ env.locals h news₁ → Q .next { s with heap := h, toks := tk }) :
    wpAny (model prog w) A (pyIter (.ref T)) (fun it s₂ => LoopAtV prog w A h₀ env x body Q E it s₂) E s := by
  have hlt := tup_lt hT
  have hTL : T ≠ env.locals := let ⟨_, ho, _, _, hd⟩ := hT; ns_not_seq F.ns ho hd
  refine wpAny_pyIter_tuple hT ?_
  refine lp_walk J (Walks.tuple hh s.heap.objs.size T (Nat.ne_of_lt hlt) items) hTL ⟨⟨_, Heap.get?_push_size _ rfl, rfl, rfl⟩, hT.at fun o e => Heap.get?_push_of_some _ e⟩ F N hj (fun i v news₁ h tk own _ hP hJ h1 h2 hst F₁ N₁ => turn i v news₁ h tk own _ hP hJ h1 h2 (let ⟨o, ho, _⟩ := hst.1; ⟨o, ho⟩) hst.2 F₁ N₁) done
end
/-- a dict of the ledger gets an item -/
theorem set_any {w : World} {A : Around} {E : Value → Shared → Prop} {s : Shared} {g : Heap} {L D : Addr} {o : Obj} {m : Str → Option Value} {pre post : List (Addr × Obj)} {kvs : List (Str × Value)} {name : Str} {t : Tok} {v : Value} {Q : Unit → Shared → Prop} (F : Fr g L s.heap m) (N : News g L s.heap (pre ++ (D, o) :: post)) (hd : o.IsDictOf (strKind PR w) kvs) (hlen : kvs.length < 1000) (h1 : ∀ p ∈ pre, p.1 ≠ D) (h2 : ∀ p ∈ post, p.1 ≠ D)
    (k : ∀ h' o', Fr g L h' m → News g L h' (pre ++ (D, o') :: post) → o'.IsDictOf (strKind PR w) (stored kvs name v) → Q () { s with heap := h', toks := s.toks + 1 }) : wpAny (model PR w) A (setItem (.ref D) (.str name t) v) Q E s := by
  have hN := N (D, o) (List.mem_append_right _ (.head _))
  have hm : s.heap.DictOf (strKind PR w) D kvs := Heap.dictOf_iff.mpr ⟨o, hN.1, hd⟩
  have hsz : kvs.length ≤ sizeLine := by rw [sizeLine_eq]; omega
  refine wpAny_setItem_pairs (strKind_is PR w name t) hm (fun h' d' sb => ?_) hsz
  obtain ⟨o', ho', hd'⟩ := Heap.dictOf_iff.mp d'
  obtain ⟨⟨oL, a1, a2, hL, a3⟩, k1, k2⟩ := id F
  refine k h' o' ⟨⟨oL, a1, a2, (sb.2 L (Ne.symm hN.2.1)).trans hL, a3⟩, fun b ob e => (sb.2 b fun z => ?_).trans (k1 b ob e), k2⟩ (fun p hp => ?_) hd'
  · have := hN.2.2
    rw [← z] at this
    exact absurd (e.symm.trans this) (by simp)
  · rcases List.mem_append.mp hp with hp | hp
    · have := N p (List.mem_append_left _ hp)
      exact ⟨(sb.2 p.1 (h1 p hp)).trans this.1, this.2⟩
    · rcases List.mem_cons.mp hp with rfl | hp
      · exact ⟨ho', hN.2⟩
      · have := N p (List.mem_append_right _ (.tail _ hp))
        exact ⟨(sb.2 p.1 (h2 p hp)).trans this.1, this.2⟩
theorem not_for {P : Prop} (h : P) : P := h
theorem kw_14_1 : True := by
  k_with "mine stop" => first | (first | (with_reducible show wpAny _ _ (exec (PySem.Stmt.For _ _ _ _ _) _) _ _ _) | (with_reducible show wpAny _ _ (pyIter _) _ _ _)) | fail "no"
  k_with "mine stepsF" => first | (repeat' (first | (k_unfold; (try dsimp only)) | ((fail_if_success (walk_at "mine stop")); first | walk1 | (dsimp only; walk1)) | (with_reducible refine gen_back (by assumption) ?_) | fail "no step")) | fail "no"
  trivial
/-- what is kept in mind of a dict while a loop stores other names -/
def Tracks (kvs : List (Str × Value)) (T : List (Str × (Value → Prop))) : Prop := ∀ p ∈ T, ∃ v, valueAt kvs p.1 = some v ∧ p.2 v
theorem find_put (kvs : List (Str × Value)) (k : Str) (v : Value) (x : Str) : ((kvs.map fun kv => if kv.1 = k then (kv.1, v) else kv).find? fun kv => decide (kv.1 = x)) = (kvs.find? fun kv => decide (kv.1 = x)).map fun kv => if kv.1 = k then (kv.1, v) else kv := by
  induction kvs with
  | nil => rfl
  | cons kv r ih =>
    have e : (if kv.1 = k then (kv.1, v) else kv).1 = kv.1 := by split <;> rfl
    rw [List.map_cons, List.find?_cons, List.find?_cons, e]
    cases h : decide (kv.1 = x) with
    | true => rfl
    | false => exact ih
theorem valueAt_stored (kvs : List (Str × Value)) (k : Str) (v : Value) (x : Str) : valueAt (stored kvs k v) x = if x = k then some v else valueAt kvs x := by
  unfold stored
  split
  · rename_i ha
    unfold valueAt
    rw [find_put]
    cases hf : kvs.find? fun kv => decide (kv.1 = x) with
    | none =>
      by_cases hx : x = k
      · subst hx
        obtain ⟨p, hp, e⟩ := List.any_eq_true.mp ha
        have := List.find?_eq_none.mp hf p hp
        exact absurd e this
      · rw [if_neg hx]
        rfl
    | some kv =>
      have e : kv.1 = x := of_decide_eq_true (List.find?_some (p := fun kv : Str × Value => decide (kv.1 = x)) hf)
      by_cases hx : x = k
      · simp only [Option.map_some, if_pos hx, if_pos (e.trans hx)]
      · simp only [Option.map_some, if_neg hx, if_neg (fun z => hx (e.symm.trans z))]
  · rename_i ha
    unfold valueAt
    rw [List.find?_append]
    by_cases hx : x = k
    · subst hx
      have : kvs.find? (fun kv => decide (kv.1 = x)) = none := List.find?_eq_none.mpr fun p hp e => ha (List.any_eq_true.mpr ⟨p, hp, e⟩)
      rw [this, if_pos rfl]
      simp
    · rw [if_neg hx]
      have : [(k, v)].find? (fun kv => decide (kv.1 = x)) = none := by
        rw [List.find?_cons, decide_eq_false (fun z => hx z.symm)]
        rfl
      rw [this, Option.or_none]
theorem Tracks.stored {kvs : List (Str × Value)} {T : List (Str × (Value → Prop))} (h : Tracks kvs T) {k : Str} (v : Value) (hk : ∀ p ∈ T, p.1 ≠ k) : Tracks (stored kvs k v) T := fun p hp => by
  obtain ⟨u, h1, h2⟩ := h p hp
  exact ⟨u, by rw [valueAt_stored, if_neg (hk p hp)]; exact h1, h2⟩
theorem stored_length (kvs : List (Str × Value)) (k : Str) (v : Value) : (stored kvs k v).length ≤ kvs.length + 1 := by
  unfold stored
  split
  · rw [List.length_map]; omega
  · rw [List.length_append]; exact Nat.le_refl _
theorem newsTuple {g h : Heap} {L a : Addr} {items : Array Value} {n : Nat} {news : List (Addr × Obj)} (N : News g L h news) (hm : (a, ({ cls := .type "tuple", data := .seq items n } : Obj)) ∈ news) : h.IsTuple a items := ⟨_, (N _ hm).1, rfl, n, rfl⟩
abbrev isS (x : String) : Value → Prop := fun v => ∃ t, v = .str (Str.ofString x) t
abbrev isI (i : Int) : Value → Prop := fun v => ∃ t, v = .int i t
abbrev T0 : List (Str × (Value → Prop)) := [(Str.ofString "gc", isS "Cn"), (Str.ofString "ccc", isI 0), (Str.ofString "sc", isS "Zzzz"), (Str.ofString "jt", isS "U")]
abbrev isN : Value → Prop := fun v => v = .none
abbrev T1 : List (Str × (Value → Prop)) := (Str.ofString "dm", isN) :: T0
abbrev dflD : List (Str × PyData) := [(Str.ofString "gc", .str (Str.ofString "Cn")), (Str.ofString "ccc", .int 0), (Str.ofString "sc", .str (Str.ofString "Zzzz")), (Str.ofString "jt", .str (Str.ofString "U")), (Str.ofString "dm", .none), (Str.ofString "idna", .tuple [.str (Str.ofString "disallowed"), .tuple []])]
def DflOk (h : Heap) (dkv : List (Str × Value)) : Prop := ∀ p ∈ dflD, DefAt h dkv p.1 p.2
theorem set_mem {w : World} {A : Around} {E : Value → Shared → Prop} {s : Shared} {g : Heap} {L D : Addr} {o : Obj} {m : Str → Option Value} {nn : List (Addr × Obj)} {kvs : List (Str × Value)} {name : Str} {t : Tok} {v : Value} {Q : Unit → Shared → Prop} (F : Fr g L s.heap m) (N : News g L s.heap nn) (hm : (D, o) ∈ nn) (hd : o.IsDictOf (strKind PR w) kvs) (hlen : kvs.length < 1000)
    (k : ∀ h' o', Fr g L h' m → News g L h' [(D, o')] → (∀ n2, (∀ p ∈ n2, p ∈ nn) → (∀ p ∈ n2, p.1 ≠ D ∨ p.2.cls ≠ .type "dict") → News g L h' n2) → o'.IsDictOf (strKind PR w) (stored kvs name v) → Q () { s with heap := h', toks := s.toks + 1 }) : wpAny (model PR w) A (setItem (.ref D) (.str name t) v) Q E s := by
  have hN := N (D, o) hm
  have hm' : s.heap.DictOf (strKind PR w) D kvs := Heap.dictOf_iff.mpr ⟨o, hN.1, hd⟩
  have hsz : kvs.length ≤ sizeLine := by rw [sizeLine_eq]; omega
  refine wpAny_setItem_pairs (strKind_is PR w name t) hm' (fun h' d' sb => ?_) hsz
  obtain ⟨o', ho', hd'⟩ := Heap.dictOf_iff.mp d'
  obtain ⟨⟨oL, a1, a2, hL, a3⟩, k1, k2⟩ := id F
  refine k h' o' ⟨⟨oL, a1, a2, (sb.2 L (Ne.symm hN.2.1)).trans hL, a3⟩, fun b ob e => (sb.2 b fun z => ?_).trans (k1 b ob e), k2⟩ (fun p hp => ?_) (fun n2 hs hc p hp => ?_) hd'
  · have := hN.2.2
    rw [← z] at this
    exact absurd (e.symm.trans this) (by simp)
  · rw [List.mem_singleton.mp hp]
    exact ⟨ho', hN.2⟩
  · have hp' := N p (hs p hp)
    refine ⟨(sb.2 p.1 fun z => ?_).trans hp'.1, hp'.2⟩
    rcases hc p hp with hc | hc
    · exact hc z
    have e1 := hp'.1
    rw [z, hN.1] at e1
    have e2 : o.cls = p.2.cls := congrArg Obj.cls (Option.some.inj e1)
    obtain ⟨_, _, ⟨c3, _⟩, _⟩ := hd
    exact hc (e2 ▸ c3)
theorem tracks_str {kvs : List (Str × Value)} {T : List (Str × (Value → Prop))} {k x : String} {h : Heap} {v9 : Value} (hT : Tracks kvs T) (hm : (Str.ofString k, isS x) ∈ T) (hk : Str.ofString k ≠ Str.ofString "idna") (ok : okD (.str (Str.ofString x)) = true) : DefAt h (stored kvs (Str.ofString "idna") v9) (Str.ofString k) (.str (Str.ofString x)) := by
  obtain ⟨v, e, t, rfl⟩ := hT _ hm
  exact ⟨_, _, (valueAt_stored ..).trans ((if_neg hk).trans e), .str _ _, ok⟩
theorem dfl_end {h : Heap} {kvs : List (Str × Value)} {v9 : Value} {a9 : List Addr} (hT4 : Tracks kvs T1) (R : Reads h v9 (.tuple [.str (Str.ofString "disallowed"), .tuple []]) a9) : DflOk h (stored kvs (Str.ofString "idna") v9) :=
  List.forall_mem_cons.mpr ⟨tracks_str hT4 (.tail _ (.head _)) (by decide) (by decide +kernel), List.forall_mem_cons.mpr ⟨by
    obtain ⟨v, e, t, rfl⟩ := hT4 (Str.ofString "ccc", isI 0) (.tail _ (.tail _ (.head _)))
    exact ⟨_, _, (valueAt_stored ..).trans ((if_neg (by decide)).trans e), .int _ _, by decide +kernel⟩, List.forall_mem_cons.mpr ⟨tracks_str hT4 (.tail _ (.tail _ (.tail _ (.head _)))) (by decide) (by decide +kernel), List.forall_mem_cons.mpr ⟨tracks_str hT4 (.tail _ (.tail _ (.tail _ (.tail _ (.head _))))) (by decide) (by decide +kernel), List.forall_mem_cons.mpr ⟨by
    obtain ⟨v, e, rfl⟩ := hT4 (Str.ofString "dm", isN) (.head _)
    exact ⟨_, _, (valueAt_stored ..).trans ((if_neg (by decide)).trans e), .none, by decide +kernel⟩, List.forall_mem_cons.mpr ⟨⟨_, _, (valueAt_stored ..).trans (if_pos rfl), R, by decide +kernel⟩, List.forall_mem_nil _⟩⟩⟩⟩⟩⟩
/-- a loop's own objects are off the dict -/
theorem own_off {w : World} {g h : Heap} {L D Tu I : Addr} {o : Obj} {own : List (Addr × Obj)} {kvs : List (Str × Value)} {items : Array Value} (hown : ∀ p ∈ own, p.1 = I ∨ p.1 = Tu) (hoff : ∀ p ∈ [(D, o)], p.1 ≠ I) (hT : h.IsTuple Tu items) (N : News g L h (own ++ [(D, o)])) (hd : o.IsDictOf (strKind PR w) kvs) : ∀ p ∈ own, p.1 ≠ D := fun p hp e => (hown p hp).elim (fun q => hoff _ (.head _) (e.symm.trans q)) fun q => by
  obtain ⟨o2, g2, c2, _⟩ := hT
  obtain ⟨_, _, ⟨c3, _⟩, _⟩ := hd
  have z : o = o2 := Option.some.inj ((N _ (List.mem_append_right _ (.head _))).1.symm.trans ((e.symm.trans q) ▸ g2))
  exact absurd (c3.symm.trans (z ▸ c2)) (by decide)
theorem strs_item {vs : List Value} {N : List Str} (h : StrsAre vs N) : ∀ {i : Nat} {v : Value}, vs[i]? = some v → ∃ nm t, v = .str nm t ∧ N[i]? = some nm := by
  induction h with
  | nil => intro i v e; cases e
  | cons n t _ ih =>
    intro i v e
    cases i with
    | zero => exact ⟨n, t, (Option.some.inj e).symm, rfl⟩
    | succ i => exact ih e
def offT (T : List (Str × (Value → Prop))) (N : List Str) : Bool := N.all fun nm => T.all fun p => !decide (p.1 = nm)
theorem offT_at {T : List (Str × (Value → Prop))} {N : List Str} (h : offT T N = true) {nm : Str} (hm : nm ∈ N) : ∀ p ∈ T, p.1 ≠ nm := fun p hp => by simpa using List.all_eq_true.mp (List.all_eq_true.mp h nm hm) p hp
theorem step_off {T : List (Str × (Value → Prop))} {N : List Str} {P : Value → Prop} (h : offT T N = true) (i : Nat) (nm : Str) (v : Value) (kvs : List (Str × Value)) (hi : N[i]? = some nm) (_ : P v) (hT : Tracks kvs T) : Tracks (stored kvs nm v) T := hT.stored v (offT_at h (List.mem_of_getElem? hi))
section
variable {w : World} {A : Around} {E : Value → Shared → Prop} {s : Shared} {env : Env} {h₀ : Heap} {x : Str} {body : List Stmt} {Q : Flow → Shared → Prop}
/-- a for over a tuple of names; each turn stores under its name into a dict -/
theorem lp_defs {T D : Addr} {items : List Value} {N : List Str} {Tr : Nat → List (Str × (Value → Prop))} {P : Value → Prop} {c : Nat} {o0 : Obj} {kvs0 : List (Str × Value)} {m₀ : Str → Option Value} {nn : List (Addr × Obj)} (hh : A.handled = none) (hT : s.heap.IsTuple T items.toArray) (F : Fr h₀ env.locals s.heap m₀) (Nn : News h₀ env.locals s.heap nn) (hm : (D, o0) ∈ nn) (hd0 : o0.IsDictOf (strKind PR w) kvs0) (hl0 : kvs0.length ≤ c) (hT0 : Tracks kvs0 (Tr 0)) (hs : StrsAre items N) (hc : c + items.length < 1000)
    (hstep : ∀ i nm v kvs, N[i]? = some nm → P v → Tracks kvs (Tr i) → Tracks (stored kvs nm v) (Tr (i + 1)))
    (turn : ∀ nm t o kvs h tk own (Qt : Flow → Shared → Prop), o.IsDictOf (strKind PR w) kvs → kvs.length < 1000 → (∀ p ∈ own, p.1 ≠ D) → Fr h₀ env.locals h (fun y => if y = x then some (.str nm t) else m₀ y) → News h₀ env.locals h (own ++ [(D, o)]) →
      (∀ v o3 h3 tk3, P v → Fr h₀ env.locals h3 (fun y => if y = x then some (.str nm t) else m₀ y) → News h₀ env.locals h3 (own ++ [(D, o3)]) → o3.IsDictOf (strKind PR w) (stored kvs nm v) → Qt .next { s with heap := h3, toks := tk3 }) → wpAny (model PR w) A (execs body env) Qt E { s with heap := h, toks := tk })
    (done : ∀ u o kvs h tk, o.IsDictOf (strKind PR w) kvs → kvs.length ≤ c + items.length → Tracks kvs (Tr items.length) → Fr h₀ env.locals h (fun y => if y = x then u else m₀ y) → News h₀ env.locals h [(D, o)] → Q .next { s with heap := h, toks := tk }) :
    wpAny (model PR w) A (pyIter (.ref T)) (fun it s₂ => LoopAtV PR w A h₀ env x body Q E it s₂) E s := by
  refine lp_tupleI (fun i nx => ∃ o kvs, nx = [(D, o)] ∧ o.IsDictOf (strKind PR w) kvs ∧ kvs.length ≤ c + i ∧ Tracks kvs (Tr i)) hh hT F (news_less (n1 := [(D, o0)]) Nn fun p hp => (List.mem_singleton.mp hp).symm ▸ hm) ⟨o0, kvs0, rfl, hd0, hl0, hT0⟩ ?_ ?_
  · intro i v news₁ h tk own I hi J hoff hown _ hTu F₁ N₁
    obtain ⟨o, kvs, rfl, hd, hl, hTr⟩ := J
    obtain ⟨nm, t, rfl, hn⟩ := strs_item hs (List.getElem?_toArray ▸ hi)
    have hi' : i < items.length := (Array.getElem?_eq_some_iff.mp hi).1
    exact turn nm t o kvs h tk own _ hd (by omega) (own_off hown hoff hTu N₁ hd) F₁ N₁ fun v o3 h3 tk3 hP F₃ N₃ hd₃ => ⟨rfl, h3, tk3, _, [(D, o3)], rfl, F₃, N₃, fun p hp e => hoff (D, o) (.head _) ((List.mem_singleton.mp hp ▸ List.mem_singleton.mp e :)), ⟨_, rfl⟩, o3, _, rfl, hd₃, Nat.le_trans (stored_length _ _ _) (Nat.succ_le_succ hl), hstep i nm v kvs hn hP hTr⟩
  · intro u news₁ h tk J F₁ N₁
    obtain ⟨o, kvs, rfl, hd, hl, hTr⟩ := J
    exact done u o kvs h tk hd hl hTr F₁ N₁
end
theorem step_dm (i : Nat) (nm : Str) (v : Value) (kvs : List (Str × Value)) {N : List Str} (ho : offT T1 N = true) (hi : (Str.ofString "dm" :: N)[i]? = some nm) (hv : v = .none) (hT : Tracks kvs (if i = 0 then T0 else T1)) : Tracks (stored kvs nm v) (if i + 1 = 0 then T0 else T1) := by
  rw [if_neg (Nat.succ_ne_zero _)]
  cases i with
  | zero =>
    cases hi
    exact List.forall_mem_cons.mpr ⟨⟨v, (valueAt_stored ..).trans (if_pos rfl), hv⟩, (Tracks.stored (T := T0) hT _ (by decide))⟩
  | succ i =>
    rw [if_neg (Nat.succ_ne_zero _)] at hT
    exact hT.stored v (offT_at ho (List.mem_of_getElem? (i := i) hi))
/-- the defaults of the law's data -/
inductive NewDfl (s : Shared) (w : World) (v : Value) (hN : Heap) : Prop
  | mk (a : Addr) (dkv : List (Str × Value)) : v = .ref a → hN.DictOf (strKind PR w) a dkv → (a == sysModules) = false → DflOk hN dkv → NewDfl s w v hN
theorem dfl_last {w : World} {s : Shared} {L D : Addr} {h3 : Heap} {m : Str → Option Value} {o3 : Obj} {kvs : List (Str × Value)} {tk : Nat} {ta tb : Addr} {k1 k2 : Nat} {q : Tok} (F3 : Fr s.heap L h3 m) (N3 : News s.heap L h3 [(D, o3)]) (Nt : News s.heap L h3 [(ta, { cls := .type "tuple", data := .seq #[.str (Str.ofString "disallowed") q, .ref tb] k1 }), (tb, { cls := .type "tuple", data := .seq #[] k2 })]) (hT4 : Tracks kvs T1) (hd3 : o3.IsDictOf (strKind PR w) (stored kvs (Str.ofString "idna") (.ref ta))) (lo : (D == sysModules) = false) :
    Ext s (fun v h' => ∃ hN, hN.StaysIn h' ∧ (∀ b o, hN.get? b = some o → s.heap.get? b = none) ∧ NewDfl s w v hN) (.ref D) { s with heap := h3, toks := tk } :=
  have gN : ∀ b o, h3.get? b = some o → s.heap.get? b = none → (keepOn h3 fun b => (s.heap.get? b).isNone).get? b = some o := fun b o e n => keepOn_get.mpr ⟨e, by rw [n]; rfl⟩
  Ext.intro (Fr.keep F3) ⟨keepOn h3 fun b => (s.heap.get? b).isNone, keepOn_sub _ _, fun b o e => Option.isNone_iff_eq_none.mp (keepOn_get.mp e).2, D, _, rfl, Heap.dictOf_iff.mpr ⟨o3, gN _ _ (N3 _ (.head _)).1 (N3 _ (.head _)).2.2, hd3⟩, lo,
    dfl_end hT4 (.tuple (gN _ _ (Nt _ (.head _)).1 (Nt _ (.head _)).2.2) rfl rfl (.cons (.str _ _) (.cons (.tuple (gN _ _ (Nt _ (.tail _ (.head _))).1 (Nt _ (.tail _ (.head _))).2.2) rfl rfl .nil) .nil)))⟩
theorem start_T0 {w : World} {o : Obj} {kvs : List (Str × Value)} {t1 t2 t3 t4 : Tok} (_ : o.IsDictOf (strKind PR w) kvs) (h1 : valueAt kvs (Str.ofString "gc") = some (.str (Str.ofString "Cn") t1)) (h2 : valueAt kvs (Str.ofString "ccc") = some (.int 0 t2)) (h3 : valueAt kvs (Str.ofString "sc") = some (.str (Str.ofString "Zzzz") t3)) (h4 : valueAt kvs (Str.ofString "jt") = some (.str (Str.ofString "U") t4)) : Tracks kvs T0 :=
  List.forall_mem_cons.mpr ⟨⟨_, h1, _, rfl⟩, List.forall_mem_cons.mpr ⟨⟨_, h2, _, rfl⟩, List.forall_mem_cons.mpr ⟨⟨_, h3, _, rfl⟩, List.forall_mem_cons.mpr ⟨⟨_, h4, _, rfl⟩, List.forall_mem_nil _⟩⟩⟩⟩
theorem dict_len {w : World} {o : Obj} {kvs : List (Str × Value)} {n : Nat} (_ : o.IsDictOf (strKind PR w) kvs) (h : kvs.length ≤ n) : kvs.length ≤ n := h
set_option maxHeartbeats 16000000 in
theorem c_dfl (w : World) (s : Shared) : Callee w 364 [] 2 s (Ext s fun v h' => ∃ hN, hN.StaysIn h' ∧ (∀ b o, hN.get? b = some o → s.heap.get? b = none) ∧ NewDfl s w v hN) := by
  walk_at "mine enter"
  intro p loose mean mg mb dp un gd outer A₀ base L' h₁ tk B F X T hdp hun
  refine wpAny_gen ?_
  intro Q_k hQ_k
  have N := news_of F
  (try dsimp only)
  (try k_fold)
  walk_at "mine stepsF"
  dsimp only at *
  rename_i o0 lo0 hd9 hf9 ap9 l19 h9 F9 N9
  have hT0 := start_T0 hd9 rfl rfl rfl rfl
  have hl0 := dict_len hd9 (Nat.le_refl 8)
  clear hf9 ap9 l19
  generalize h₁.objs.size = D at *
  with_reducible refine' For_invV s.heap ?fx1 ?fp1 ?fh1 ?fs1 ?fE1
  case fx1 => rfl
  case fp1 => rfl
  case fs1 => intro _; rfl
  case fE1 => exact PassesOwn.never
  walk_at "mine stepsF"
  refine lp_defs (P := fun _ => True) (Tr := fun _ => T0) (c := 8) rfl (newsTuple (by k_asm) (by k_mem)) (by k_asm) (by k_asm) (by k_mem) hd9 hl0 hT0 (by repeat (first | exact StrsAre.nil | apply StrsAre.cons)) (Nat.le_of_ble_eq_true rfl) (step_off (by decide +kernel)) ?_ ?_
  · intro nm t o kvs h2 tk2 own Qt hd hl hoff F2 N2 hQ
    (try k_fold)
    walk_at "mine stepsF"
    refine set_any (post := []) (by k_asm) (by k_asm) hd hl hoff (fun p hp => nomatch hp) ?_
    intro h3 o3 F3 N3 hd3
    walk_at "mine stepsF"
    exact hQ _ _ _ _ trivial F3 N3 hd3
  clear hd9 hl0 hT0
  intro u1 o1 kvs1 h10 tk10 hd1 hl1 hT1 F1 N1
  replace hl1 : kvs1.length ≤ 11 := hl1
  (try k_fold)
  walk_at "mine stepsF"
  with_reducible refine' For_invV s.heap ?fx2 ?fp2 ?fh2 ?fs2 ?fE2
  case fx2 => rfl
  case fp2 => rfl
  case fs2 => intro _; rfl
  case fE2 => exact PassesOwn.never
  walk_at "mine stepsF"
  refine lp_defs (P := fun _ => True) (Tr := fun _ => T0) (c := 11) rfl (newsTuple (by k_asm) (by k_mem)) (by k_asm) (by k_asm) (by k_mem) hd1 hl1 hT1 (by repeat (first | exact StrsAre.nil | apply StrsAre.cons)) (Nat.le_of_ble_eq_true rfl) (step_off (by decide +kernel)) ?_ ?_
  · intro nm t o kvs h2 tk2 own Qt hd hl hoff F2 N2 hQ
    (try k_fold)
    walk_at "mine stepsF"
    refine set_any (post := []) (by k_asm) (by k_asm) hd hl hoff (fun p hp => nomatch hp) ?_
    intro h3 o3 F3 N3 hd3
    walk_at "mine stepsF"
    exact hQ _ _ _ _ trivial F3 N3 hd3
  clear hd1 hl1 hT1
  intro u2 o2 kvs2 h20 tk20 hd2 hl2 hT2 F2 N2
  replace hl2 : kvs2.length ≤ 24 := hl2
  (try k_fold)
  walk_at "mine stepsF"
  with_reducible refine' For_invV s.heap ?fx3 ?fp3 ?fh3 ?fs3 ?fE3
  case fx3 => rfl
  case fp3 => rfl
  case fs3 => intro _; rfl
  case fE3 => exact PassesOwn.never
  walk_at "mine stepsF"
  refine lp_defs (P := fun v => v = .none) (Tr := fun i => if i = 0 then T0 else T1) (c := 24) rfl (newsTuple (by k_asm) (by k_mem)) (by k_asm) (by k_asm) (by k_mem) hd2 hl2 hT2 (by repeat (first | exact StrsAre.nil | apply StrsAre.cons)) (Nat.le_of_ble_eq_true rfl) (fun i nm v kvs => step_dm i nm v kvs (by decide +kernel)) ?_ ?_
  · intro nm t o kvs h2 tk2 own Qt hd hl hoff F2 N2 hQ
    (try k_fold)
    walk_at "mine stepsF"
    refine set_any (post := []) (by k_asm) (by k_asm) hd hl hoff (fun p hp => nomatch hp) ?_
    intro h3 o3 F3 N3 hd3
    walk_at "mine stepsF"
    exact hQ _ _ _ _ rfl F3 N3 hd3
  clear hd2 hl2 hT2
  intro u3 o3 kvs3 h30 tk30 hd3 hl3 hT3 F3 N3
  replace hl3 : kvs3.length ≤ 37 := hl3
  (try k_fold)
  walk_at "mine stepsF"
  replace hT3 : Tracks kvs3 T1 := hT3
  with_reducible refine' For_invV s.heap ?fx4 ?fp4 ?fh4 ?fs4 ?fE4
  case fx4 => rfl
  case fp4 => rfl
  case fs4 => intro _; rfl
  case fE4 => exact PassesOwn.never
  walk_at "mine stepsF"
  refine lp_defs (P := fun _ => True) (Tr := fun _ => T1) (c := 37) rfl (newsTuple (by k_asm) (by k_mem)) (by k_asm) (by k_asm) (by k_mem) hd3 hl3 hT3 (by repeat (first | exact StrsAre.nil | apply StrsAre.cons)) (Nat.le_of_ble_eq_true rfl) (step_off (by decide +kernel)) ?_ ?_
  · intro nm t o kvs h2 tk2 own Qt hd hl hoff F2 N2 hQ
    (try k_fold)
    walk_at "mine stepsF"
    refine set_mem (by k_asm) (by k_asm) (List.mem_cons_of_mem _ (List.mem_append_right _ (.head _))) hd hl ?_
    intro h3 o3 F3 N3 K3 hd3
    walk_at "mine stepsF"
    exact hQ _ _ _ _ trivial F3 (fun p hp => (List.mem_append.mp hp).elim (fun hp => K3 own (fun p hp => List.mem_cons_of_mem _ (List.mem_append_left _ hp)) (fun p hp => .inl (hoff p hp)) p hp) (N3 p)) hd3
  clear hd3 hl3 hT3
  intro u4 o4 kvs4 h40 tk40 hd4 hl4 hT4 F4 N4
  replace hl4 : kvs4.length ≤ 41 := hl4
  replace hT4 : Tracks kvs4 T1 := hT4
  (try k_fold)
  walk_at "mine stepsF"
  refine set_mem (o := o4) (by k_asm) (by k_asm) (by k_mem) hd4 (Nat.lt_of_le_of_lt hl4 (by decide)) ?_
  intro h3 o3 F3 N3 K3 hd3
  walk_at "mine stepsF"
  exact dfl_last F3 N3 (K3 [_, _] (List.forall_mem_cons.mpr ⟨by exact .head _, List.forall_mem_cons.mpr ⟨by exact List.mem_cons_of_mem _ (.head _), List.forall_mem_nil _⟩⟩) (List.forall_mem_cons.mpr ⟨.inr (fun e : Value.type "tuple" = Value.type "dict" => absurd e (by decide)), List.forall_mem_cons.mpr ⟨.inr (fun e : Value.type "tuple" = Value.type "dict" => absurd e (by decide)), List.forall_mem_nil _⟩⟩)) hT4 hd3 lo0

abbrev lawCodes : List Int := [108, 97, 45, 183, 885, 945, 1523, 1488, 12539, 12354, 19968, 1637, 1777, 8204, 8205, 2381, 2325, 1576, 1583, 1611, 95, 66, 223, 1524, 12450, 1632, 1785]
abbrev rowD (x : String) (told : List Int) : PyData := .tuple [.str (Str.ofString x), .tuple (told.map PyData.int)]
abbrev putsIdna : List (Str × Int × PyData) := lawCodes.map fun c => (Str.ofString "idna", c, rowD "valid" [])
abbrev puts66 : List (Str × Int × PyData) := [(Str.ofString "idna", 66, rowD "mapped" [98])]
abbrev putsDev : List (Str × Int × PyData) := [(Str.ofString "idna", 223, rowD "deviation" [115, 115]), (Str.ofString "idna", 8204, rowD "deviation" []), (Str.ofString "idna", 8205, rowD "deviation" [])]
abbrev putsSc : List (Str × Int × PyData) := [(Str.ofString "sc", 945, .str (Str.ofString "Grek")), (Str.ofString "sc", 1488, .str (Str.ofString "Hebr")), (Str.ofString "sc", 12354, .str (Str.ofString "Hira")), (Str.ofString "sc", 19968, .str (Str.ofString "Hani")), (Str.ofString "sc", 12450, .str (Str.ofString "Kana"))]
abbrev putsJt : List (Str × Int × PyData) := [(Str.ofString "jt", 1576, .str (Str.ofString "D")), (Str.ofString "jt", 1583, .str (Str.ofString "R")), (Str.ofString "jt", 1611, .str (Str.ofString "T")), (Str.ofString "jt", 1600, .str (Str.ofString "C"))]
abbrev putsGc : List (Str × Int × PyData) := [(Str.ofString "gc", 2381, .str (Str.ofString "Mn")), (Str.ofString "gc", 1611, .str (Str.ofString "Mn"))]
abbrev putsCcc : List (Str × Int × PyData) := [(Str.ofString "ccc", 2381, .int 9)]
/-- puts, one behind the other -/
def runA (dfl : List (Str × PyData)) : Option (List (Str × AMap)) → List (Str × Int × PyData) → Option (List (Str × AMap))
  | A, [] => A
  | none, _ => none
  | some A, p :: r => runA dfl (putA dfl A p.1 p.2.1 p.2.2) r
abbrev lawPuts : List (Str × Int × PyData) := putsIdna ++ puts66 ++ putsDev ++ putsSc ++ putsJt ++ putsGc ++ putsCcc
theorem run_ok : (runA dflD (some []) lawPuts).isSome = true := by decide +kernel
def scrOf (n : Int) : String := if n = 945 then "Grek" else if n = 1488 then "Hebr" else if n = 12354 then "Hira" else if n = 19968 then "Hani" else if n = 12450 then "Kana" else "Zzzz"
def jtOf (n : Int) : String := if n = 1576 then "D" else if n = 1583 then "R" else if n = 1611 then "T" else "U"

theorem no_of {α : Type} {x : Option α} {a : α} (h : x = none) (h' : x = some a) : False := nomatch h.symm.trans h'
theorem ktr_make {dp un : Nat} {gd : Option (List Code)} {cn : Str} {cs : Scope} {L a : Addr} {ccd : Value} {cl : List (Str × Addr)} {outer : List Env} {C : Addr} {vs : List Value} {cn' : Str} {cs' : Scope} {L' a' : Addr} {ccd' : Value} :
    ((ktrTop dp un gd cn cs L a ccd cl outer).under (Code.builtin "type.__call__" ⟨.ref C :: vs, []⟩)).deeper (envOf cn' cs' L' a' ccd') = ktrTop (dp + 2) (un + 4) gd cn' cs' L' a' ccd' [] (envX cn cs L a ccd cl :: outer) := rfl
theorem Callee.ext_at {w : World} {f : Addr} {vs : List Value} {d : Nat} {s : Shared} {P : Value → Heap → Prop} {A : Around}
    {p : Program} {loose : List Str} {mean : ExcName → Option Value} {mg mb : Str → Option Value} {dp un : Nat} {gd : Option (List Code)} {cn : Str} {cs : Scope} {L a : Addr} {ccd : Value} {cl : List (Str × Addr)} {outer : List Env} {A₀ : Around} {base h₀ : Heap} {m : Str → Option Value} {Q E : Value → Shared → Prop} {news : List (Addr × Obj)}
    (e : A = ktrTop dp un gd cn cs L a ccd cl outer) (C : Callee w f vs d s (Ext s P))
    (B : Below A₀ base outer h₀) (F : Fr h₀ L s.heap m) (N : News h₀ L s.heap news) (X : (Tp.heap_1 w.params).In h₀) (T : Top p loose mean mg mb h₀) (hk : cs.kind = .function) (hdp : dp + d < 1000) (hun : un + 40 * d < 9900)
    (k : ∀ v h' tk, Fr h₀ L h' m → News h₀ L h' news → s.heap.StaysIn h' → P v h' → Q v { s with heap := h', toks := tk }) : wpAny (model PR w) A (call (.ref f) vs) Q E s := by
  subst e
  exact C.ext B F N X T hk hdp hun k
theorem Callee.ext_new {w : World} {f : Addr} {vs : List Value} {d : Nat} {s : Shared} {P : Value → Heap → Prop} {A : Around}
    {p : Program} {loose : List Str} {mean : ExcName → Option Value} {mg mb : Str → Option Value} {dp un : Nat} {gd : Option (List Code)} {cn : Str} {cs : Scope} {L a : Addr} {ccd : Value} {cl : List (Str × Addr)} {outer : List Env} {A₀ : Around} {base h₀ : Heap} {m : Str → Option Value} {Q E : Value → Shared → Prop} {news : List (Addr × Obj)}
    (e : A = ktrTop dp un gd cn cs L a ccd cl outer) (C : Callee w f vs d s (Ext s fun v h' => ∃ hN, hN.StaysIn h' ∧ (∀ b o, hN.get? b = some o → s.heap.get? b = none) ∧ P v hN))
    (B : Below A₀ base outer h₀) (F : Fr h₀ L s.heap m) (N : News h₀ L s.heap news) (X : (Tp.heap_1 w.params).In h₀) (T : Top p loose mean mg mb h₀) (hk : cs.kind = .function) (hdp : dp + d < 1000) (hun : un + 40 * d < 9900)
    (k : ∀ v h' tk hN, Fr h₀ L h' m → News h₀ L h' (news ++ led hN) → (∀ q ∈ news, ∀ p ∈ led hN, p.1 ≠ q.1) → s.heap.StaysIn h' → P v hN → Q v { s with heap := h', toks := tk }) : wpAny (model PR w) A (call (.ref f) vs) Q E s := by
  refine Callee.ext_at e C B F N X T hk hdp hun ?_
  rintro v h' tk F' N' st ⟨hN, h1, h2, h3⟩
  refine k v h' tk hN F' (fun p hp => ?_) (fun q hq p hp e => ?_) st h3
  · rcases List.mem_append.mp hp with hp | hp
    · exact N' p hp
    · have e1 := mem_led.mp hp
      have e2 := h2 _ _ e1
      refine ⟨h1 _ _ e1, fun z => ?_, ?_⟩
      · obtain ⟨⟨oL, _, _, hL, _⟩, _, _⟩ := F
        rw [z, hL] at e2; cases e2
      · cases z : h₀.get? p.1 with
        | none => rfl
        | some o => rw [F.keep _ _ z] at e2; cases e2
  · have e2 := h2 _ _ (mem_led.mp hp)
    rw [e, (N q hq).1] at e2; cases e2
section
variable {prog : Program} {w : World} {A : Around} {E : Value → Shared → Prop} {s : Shared} {env : Env} {h₀ : Heap} {x : Str} {body : List Stmt} {Q : Flow → Shared → Prop}
theorem lp_keys {K : Type} [DecidableEq K] {knd : KeyKind prog w K} {T : Addr} {kvs : List (K × Value)} {m₀ : Str → Option Value} {news : List (Addr × Obj)} (J : Nat → List (Addr × Obj) → Prop) (hh : A.handled = none) (lo : (T == sysModules) = false) (hTL : T ≠ env.locals) (hT : s.heap.DictOf knd T kvs) (F : Fr h₀ env.locals s.heap m₀) (N : News h₀ env.locals s.heap news) (hj : J 0 news)
    (turn : ∀ i v news₁ h tk own I, (∃ k z, kvs[i]? = some (k, z) ∧ knd.is k v = true) → J i news₁ → (∀ p ∈ news₁, p.1 ≠ I) → (∀ p ∈ own, p.1 = I ∨ p.1 = T) → (∃ o, h.get? I = some o) → h.DictOf knd T kvs → Fr h₀ env.locals h (fun y => if y = x then some v else m₀ y) → News h₀ env.locals h (own ++ news₁) →
      wpAny (model prog w) A (execs body env) (LoopStepV h₀ env.locals [I] own (fun m nx => (∃ u, m = fun y => if y = x then u else m₀ y) ∧ J (i + 1) nx) { s with heap := h, toks := tk } (fun v s' => Q (.ret v) s') fun s' => Q .next s') E { s with heap := h, toks := tk })
    (done : ∀ u news₁ h tk, J kvs.length news₁ → Fr h₀ env.locals h (fun y => if y = x then u else m₀ y) → News h₀ env.locals h news₁ → Q .next { s with heap := h, toks := tk }) :
    wpAny (model prog w) A (pyIter (.ref T)) (fun it s₂ => LoopAtV prog w A h₀ env x body Q E it s₂) E s := by
  obtain ⟨o, es, ep, ho, r⟩ := id hT
  have hm : s.heap.DictAt knd T kvs ep := ⟨o, es, ho, r⟩
  have hlt : @LT.lt Nat _ T s.heap.objs.size := Heap.lt_size ho
  refine wpAny_pyIter_dict lo hm ?_
  refine lp_walk J (Walks.dictKeys hh s.heap.objs.size T (Nat.ne_of_lt hlt) kvs ep) hTL ⟨⟨_, Heap.get?_push_size _ rfl, rfl, rfl⟩, hm.at' fun o e => Heap.get?_push_of_some _ e⟩ F N hj (fun i v news₁ h tk own _ hP hJ h1 h2 hst F₁ N₁ => turn i v news₁ h tk own _ hP hJ h1 h2 (let ⟨o, ho, _⟩ := hst.1; ⟨o, ho⟩) hst.2.dictOf F₁ N₁) done
end
/-- a ledger as a part of the heap -/
theorem led_of {g h : Heap} {L : Addr} {nn : List (Addr × Obj)} (N : News g L h nn) : ∃ hD, hD.StaysIn h ∧ (∀ p ∈ nn, hD.get? p.1 = some p.2) ∧ (∀ b o, hD.get? b = some o → (b, o) ∈ nn) ∧ News g L h (led hD) := by
  have key : ∀ b o, (keepOn h fun b => nn.any fun p => p.1 == b).get? b = some o → (b, o) ∈ nn := fun b o e => by
    obtain ⟨e1, e2⟩ := keepOn_get.mp e
    obtain ⟨p, hp, q⟩ := List.any_eq_true.mp e2
    have q : p.1 = b := by simpa using q
    have := (N p hp).1
    rw [q, e1] at this
    cases p
    cases q
    cases this
    exact hp
  exact ⟨_, keepOn_sub _ _, fun p hp => keepOn_get.mpr ⟨(N p hp).1, List.any_eq_true.mpr ⟨p, hp, by simp⟩⟩, key, fun p hp => N p (key _ _ (mem_led.mp hp))⟩
theorem runA_append (dfl : List (Str × PyData)) : ∀ (a b : List (Str × Int × PyData)) (A : Option (List (Str × AMap))), runA dfl A (a ++ b) = runA dfl (runA dfl A a) b
  | [], _, none => rfl
  | [], _, some _ => rfl
  | _ :: _, [], none => rfl
  | _ :: _, _ :: _, none => rfl
  | p :: a, b, some A => runA_append dfl a b (putA dfl A p.1 p.2.1 p.2.2)
theorem runA_none (dfl : List (Str × PyData)) : ∀ b : List (Str × Int × PyData), runA dfl none b = none
  | [] => rfl
  | _ :: _ => rfl
theorem updA_length (A : List (Str × AMap)) (name : Str) (n : Int) (d : PyData) : (updA A name n d).length = A.length := List.length_map _
theorem putA_length {dfl : List (Str × PyData)} {A A' : List (Str × AMap)} {name : Str} {n : Int} {d : PyData} (h : putA dfl A name n d = some A') : A'.length ≤ A.length + 1 := by
  cases hM : findA A name with
  | some M => exact (putA_some hM h).2 ▸ Nat.le_trans (Nat.le_of_eq (updA_length ..)) (Nat.le_succ _)
  | none =>
    obtain ⟨d0, -, -, e⟩ := putA_none hM h
    exact e ▸ Nat.le_of_eq ((updA_length ..).trans List.length_append)
/-- the state after the first k puts -/
def Ran (k : Nat) (A : List (Str × AMap)) : Prop := runA dflD (some []) (lawPuts.take k) = some A ∧ A.length ≤ k
theorem Ran.zero : Ran 0 [] := ⟨rfl, Nat.le_refl _⟩
theorem Ran.step {k : Nat} {A : List (Str × AMap)} (h : Ran k A) {name : Str} {n : Int} {d : PyData} (hk : lawPuts[k]? = some (name, n, d)) : ∃ A', putA dflD A name n d = some A' ∧ Ran (k + 1) A' := by
  have e : lawPuts.take (k + 1) = lawPuts.take k ++ [(name, n, d)] := by rw [List.take_add_one, hk]; rfl
  have e2 : runA dflD (some []) (lawPuts.take (k + 1)) = putA dflD A name n d := by
    rw [e, runA_append, h.1]
    show runA dflD (putA dflD A name n d) [] = _
    unfold runA
    cases putA dflD A name n d <;> rfl
  cases hp : putA dflD A name n d with
  | some A' => exact ⟨A', rfl, e2.trans hp, Nat.le_trans (putA_length hp) (Nat.succ_le_succ h.2)⟩
  | none =>
    have r := run_ok
    rw [← List.take_append_drop (k + 1) lawPuts, runA_append, e2, hp, runA_none] at r
    cases r
/-- the law's data after k puts -/
inductive LdAt (w : World) (d : Addr) (k : Nat) (hD : Heap) : Prop
  | mk (S : DSt) : DataOk w hD S → S.d = d → S.dfl = dflD → Ran k S.abs → LdAt w d k hD
theorem puts_lt {k : Nat} {x : Str × Int × PyData} (hk : lawPuts[k]? = some x) : k < 1000 := Nat.lt_trans (List.getElem?_eq_some_iff.mp hk).1 (show lawPuts.length < 1000 by decide)
/-- Data.put where the walk stands -/
theorem dput_use {w : World} {s : Shared} {hD : Heap} {x' : Addr} {k : Nat} (D : LdAt w x' k hD) {name : Str} {n : Int} {t u1 u2 : Tok} {v : Value} {d : PyData} (hk : lawPuts[k]? = some (name, n, d))
    {p : Program} {loose : List Str} {mean : ExcName → Option Value} {mg mb : Str → Option Value} {dp un : Nat} {gd : Option (List Code)} {cn : Str} {cs : Scope} {L a : Addr} {ccd : Value} {cl : List (Str × Addr)} {outer : List Env} {A₀ : Around} {base h₀ : Heap} {m : Str → Option Value} {Q E : Value → Shared → Prop} {new own : List (Addr × Obj)}
    (B : Below A₀ base outer h₀) (F : Fr h₀ L s.heap m) (Nn : News h₀ L s.heap new) (No : News h₀ L s.heap own) (Nd : News h₀ L s.heap (led hD)) (X : (Tp.heap_1 w.params).In h₀) (T : Top p loose mean mg mb h₀) (hc : cs.kind = .function) (hdp : dp + 7 < 1000) (hun : un + 40 * 7 < 9900)
    (hoff : ∀ q ∈ own, hD.get? q.1 = none) (hnew : ∀ q ∈ own, ∀ p ∈ new, p.1 ≠ q.1)
    (Rv : ∀ h : Heap, (∀ p ∈ new, h.get? p.1 = some p.2) → ∃ a, Reads h v d a)
    (K : ∀ h' tk hD', Fr h₀ L h' m → News h₀ L h' (own ++ led hD') → (∀ q o, s.heap.get? q = some o → hD.get? q = none → (∀ p ∈ new, p.1 ≠ q) → hD'.get? q = none) → LdAt w x' (k + 1) hD' → Q .none { s with heap := h', toks := tk }) :
    wpAny (model PR w) (ktrTop dp un gd cn cs L a ccd cl outer) (call (.ref 385) [.ref x', .str name t, .int n u1, .int n u2, v]) Q E s := by
  obtain ⟨S, D, rfl, hdfl, hR⟩ := D
  have Nall : News h₀ L s.heap (new ++ led hD) := fun p hp => (List.mem_append.mp hp).elim (Nn p) (Nd p)
  obtain ⟨hE, e1, e2, e3, e4⟩ := led_of Nall
  have offE : ∀ q o, s.heap.get? q = some o → hD.get? q = none → (∀ p ∈ new, p.1 ≠ q) → hE.get? q = none := fun q o hq hn hp => by
    cases z : hE.get? q with
    | none => rfl
    | some o' => exact (List.mem_append.mp (e3 _ _ z)).elim (fun y => absurd rfl (hp _ y)) fun y => (no_of hn (mem_led.mp y)).elim
  obtain ⟨A', hA', hR'⟩ := hR.step hk
  have D' : DataOk w hE S := D.keeps fun b o e => e2 (b, o) (List.mem_append_right _ (mem_led.mpr e))
  have hl : S.ms.length < 1000 := Nat.lt_of_le_of_lt (Nat.le_trans (Nat.le_of_eq (List.length_map _).symm) hR.2) (puts_lt hk)
  refine CalleeN.dext (rest := own) (c_dputA w s hE S D' e1 name n t u1 u2 v d (Rv hE fun p hp => e2 p (List.mem_append_left _ hp)) A' (hdfl ▸ hA') hl) B F e4 No X T hc hdp hun (fun q hq => offE q.1 q.2 (No q hq).1 (hoff q hq) (hnew q hq)) ?_
  rintro v' h' tk hD' F' N' No' - ft - ⟨rfl, P⟩
  obtain ⟨S', h1, h2, h3, h4⟩ := P
  refine K h' tk hD' F' (fun p hp => (List.mem_append.mp hp).elim (No' p) (N' p)) (fun q o hq hn hp => ?_) ⟨S', h1, h2, h3.trans hdfl, h4 ▸ hR'⟩
  cases z : hD'.get? q with
  | none => rfl
  | some o' => exact (ft _ _ z).elim (fun y => y.elim fun _ y => (no_of (offE q o hq hn hp) y).elim) fun y => (no_of y hq).elim
theorem ints_get {vs : List Value} {ns : List Int} (h : IntsAre vs ns) : ∀ {i : Nat} {v : Value}, vs[i]? = some v → ∃ c t, v = .int c t ∧ ns[i]? = some c := by
  induction h with
  | nil => intro i v e; cases e
  | cons n t _ ih =>
    intro i v e
    cases i with
    | zero => exact ⟨n, t, (Option.some.inj e).symm, rfl⟩
    | succ i => exact ih e
theorem is_int {prog : Program} {w : World} {k : Int} {v : Value} (h : (intKind prog w).is k v = true) : ∃ t, v = .int k t := by
  cases v with
  | int n t => exact ⟨t, congrArg (Value.int · t) (of_decide_eq_true h)⟩
  | _ => cases h
/-- a turn's own objects, off the data -/
structure OwnAt (own : List (Addr × Obj)) (hD h2 : Heap) (I Tu : Addr) : Prop where
  own : ∀ p ∈ own, p.1 = I ∨ p.1 = Tu
  off : ∀ p ∈ led hD, p.1 ≠ I
  oI : ∃ o, h2.get? I = some o
  oT : ∃ o, h2.get? Tu = some o
  nT : hD.get? Tu = none
structure LdOut (w : World) (d : Addr) (k : Nat) (I Tu : Addr) (hD' : Heap) : Prop where
  off : ∀ p ∈ led hD', p.1 ≠ I
  at_ : LdAt w d k hD'
  nT : hD'.get? Tu = none
theorem none_size (h : Heap) : h.get? h.objs.size = none := by
  cases z : h.get? h.objs.size with
  | none => rfl
  | some o => exact absurd (Heap.lt_size z) (Nat.lt_irrefl _)
theorem none_back {h h' : Heap} {a : Addr} (k : h.StaysIn h') (e : h'.get? a = none) : h.get? a = none := by
  cases z : h.get? a with
  | none => rfl
  | some o => rw [k _ _ z] at e; cases e
theorem none_led {hD : Heap} {I : Addr} (h : ∀ p ∈ led hD, p.1 ≠ I) : hD.get? I = none := by
  cases z : hD.get? I with
  | none => rfl
  | some o => exact absurd rfl (h _ (mem_led.mpr z))
theorem new_ne {h : Heap} {new : List (Addr × Obj)} {I : Addr} (hn : ∀ p ∈ new, h.get? p.1 = none) (hI : ∃ o, h.get? I = some o) : ∀ p ∈ new, p.1 ≠ I := fun p hp e => hI.elim fun o z => no_of (hn p hp) (show h.get? p.1 = some o from e ▸ z)
/-- Data.put within a turn of a loop -/
theorem dput_turn {w : World} {s : Shared} {hD : Heap} {x' Tu I : Addr} {c i : Nat} (D : LdAt w x' (c + i) hD) {name : Str} {n : Int} {t u1 u2 : Tok} {v : Value} {d : PyData} (hk : lawPuts[c + i]? = some (name, n, d))
    {p : Program} {loose : List Str} {mean : ExcName → Option Value} {mg mb : Str → Option Value} {dp un : Nat} {gd : Option (List Code)} {cn : Str} {cs : Scope} {L a : Addr} {ccd : Value} {cl : List (Str × Addr)} {outer : List Env} {A₀ : Around} {base h₀ : Heap} {m : Str → Option Value} {Q E : Value → Shared → Prop} {new own nn : List (Addr × Obj)} {h2 : Heap} (O : OwnAt own hD h2 I Tu)
    (B : Below A₀ base outer h₀) (F : Fr h₀ L s.heap m) (N : News h₀ L s.heap nn) (n1 : ∀ p ∈ new, p ∈ nn) (n2 : ∀ p ∈ own ++ led hD, p ∈ nn) (X : (Tp.heap_1 w.params).In h₀) (T : Top p loose mean mg mb h₀) (hc : cs.kind = .function) (hdp : dp + 7 < 1000) (hun : un + 40 * 7 < 9900)
    (st : h2.StaysIn s.heap) (hn : ∀ p ∈ new, h2.get? p.1 = none)
    (Rv : ∀ h : Heap, (∀ p ∈ new, h.get? p.1 = some p.2) → ∃ a, Reads h v d a)
    (K : ∀ h' tk hD', Fr h₀ L h' m → News h₀ L h' (own ++ led hD') → LdOut w x' (c + (i + 1)) I Tu hD' → Q .none { s with heap := h', toks := tk }) :
    wpAny (model PR w) (ktrTop dp un gd cn cs L a ccd cl outer) (call (.ref 385) [.ref x', .str name t, .int n u1, .int n u2, v]) Q E s := by
  have fI := none_led O.off
  have nI := new_ne hn O.oI
  have nT' := new_ne hn O.oT
  refine dput_use D hk B F (news_less N n1) (news_less N fun p hp => n2 p (List.mem_append_left _ hp)) (news_less N fun p hp => n2 p (List.mem_append_right _ hp)) X T hc hdp hun (fun q hq => ?_) (fun q hq p hp => ?_) Rv fun h' tk hD' F' N' q D' => ?_
  · exact (O.own q hq).elim (fun e => e ▸ fI) fun e => e ▸ O.nT
  · exact (O.own q hq).elim (fun e => e ▸ nI p hp) fun e => e ▸ nT' p hp
  · obtain ⟨oI, hI⟩ := O.oI
    obtain ⟨oT, hT⟩ := O.oT
    exact K h' tk hD' F' N' ⟨fun p hp e => no_of (q _ _ (st _ _ hI) fI nI) (show hD'.get? I = some p.2 from e ▸ mem_led.mp hp), D', q _ _ (st _ _ hT) O.nT nT'⟩
section
variable {w : World} {A : Around} {E : Value → Shared → Prop} {s : Shared} {env : Env} {h₀ : Heap} {x : Str} {body : List Stmt} {Q : Flow → Shared → Prop}
theorem seg_at {α : Type} {l pre seg post : List α} (e : l = pre ++ (seg ++ post)) {i : Nat} {x : α} (h : seg[i]? = some x) : l[pre.length + i]? = some x := by
  have hl : i < seg.length := (List.getElem?_eq_some_iff.mp h).1
  rw [e, List.getElem?_append_right (Nat.le_add_right _ _), Nat.add_sub_cancel_left, List.getElem?_append_left hl, h]
theorem put_at {pre post : List (Str × Int × PyData)} {ns : List Int} {name : Str} {dat : Int → PyData} (e : lawPuts = pre ++ (ns.map (fun c => (name, c, dat c)) ++ post)) {i : Nat} {x : Int} (h : ns[i]? = some x) : lawPuts[pre.length + i]? = some (name, x, dat x) := seg_at e (by rw [List.getElem?_map, h]; rfl)
/-- a turn of a loop that puts -/
def PutTurn (w : World) (A : Around) (h₀ : Heap) (env : Env) (y : Str) (body : List Stmt) (E : Value → Shared → Prop) (s : Shared) (T d : Addr) (k : Nat) (name : Str) (dat : Int → PyData) (ns : List Int) (m₀ : Str → Option Value) : Prop :=
  ∀ i x t hD2 h tk own I (Qt : Flow → Shared → Prop), x ∈ ns → lawPuts[k + i]? = some (name, x, dat x) → LdAt w d (k + i) hD2 → OwnAt own hD2 h I T → Fr h₀ env.locals h (fun z => if z = y then some (.int x t) else m₀ z) → News h₀ env.locals h (own ++ led hD2) →
    (∀ h3 tk3 hD3, Fr h₀ env.locals h3 (fun z => if z = y then some (.int x t) else m₀ z) → News h₀ env.locals h3 (own ++ led hD3) → LdOut w d (k + (i + 1)) I T hD3 → Qt .next { s with heap := h3, toks := tk3 }) → wpAny (model PR w) A (execs body env) Qt E { s with heap := h, toks := tk }
theorem PutTurn.step {T d : Addr} {k : Nat} {name : Str} {dat : Int → PyData} {ns : List Int} {m₀ : Str → Option Value} (P : PutTurn w A h₀ env x body E s T d k name dat ns m₀) {i : Nat} {v : Value} {news₁ own : List (Addr × Obj)} {h : Heap} {tk : Nat} {I : Addr} {Qr : Value → Shared → Prop} {Qb : Shared → Prop}
    (hv : ∃ n t, v = .int n t ∧ n ∈ ns ∧ lawPuts[k + i]? = some (name, n, dat n)) (J : ∃ hD, news₁ = led hD ∧ LdAt w d (k + i) hD ∧ hD.get? T = none) (hoff : ∀ p ∈ news₁, p.1 ≠ I) (hown : ∀ p ∈ own, p.1 = I ∨ p.1 = T) (oI : ∃ o, h.get? I = some o) (oT : ∃ o, h.get? T = some o) (F : Fr h₀ env.locals h (fun z => if z = x then some v else m₀ z)) (N : News h₀ env.locals h (own ++ news₁)) :
    wpAny (model PR w) A (execs body env) (LoopStepV h₀ env.locals [I] own (fun m nx => (∃ u, m = fun z => if z = x then u else m₀ z) ∧ ∃ hD, nx = led hD ∧ LdAt w d (k + (i + 1)) hD ∧ hD.get? T = none) { s with heap := h, toks := tk } Qr Qb) E { s with heap := h, toks := tk } := by
  obtain ⟨n, t, rfl, hn, hk⟩ := hv
  obtain ⟨hD, rfl, D, nT⟩ := J
  exact P i n t hD h tk own I _ hn hk D ⟨hown, hoff, oI, oT, nT⟩ F N fun h3 tk3 hD3 F3 N3 O => ⟨rfl, h3, tk3, _, led hD3, rfl, F3, N3, fun p hp e => O.off p hp (List.mem_singleton.mp e), ⟨_, rfl⟩, hD3, rfl, O.at_, O.nT⟩
theorem lp_ldI {T d : Addr} {items : List Value} {ns : List Int} {hD : Heap} {m₀ : Str → Option Value} {nn : List (Addr × Obj)} {name : Str} {dat : Int → PyData} {pre post : List (Str × Int × PyData)} (hh : A.handled = none) (hT : s.heap.IsTuple T items.toArray) (hI : IntsAre items ns) (e : lawPuts = pre ++ (ns.map (fun c => (name, c, dat c)) ++ post)) (F : Fr h₀ env.locals s.heap m₀) (Nn : News h₀ env.locals s.heap nn) (hs : ∀ p ∈ led hD, p ∈ nn) (D : LdAt w d pre.length hD) (nT : hD.get? T = none)
    (turn : PutTurn w A h₀ env x body E s T d pre.length name dat ns m₀)
    (done : ∀ u hD2 h tk, LdAt w d (pre.length + ns.length) hD2 → Fr h₀ env.locals h (fun z => if z = x then u else m₀ z) → News h₀ env.locals h (led hD2) → Q .next { s with heap := h, toks := tk }) :
    wpAny (model PR w) A (pyIter (.ref T)) (fun it s₂ => LoopAtV PR w A h₀ env x body Q E it s₂) E s := by
  refine lp_tupleI (fun i nx => ∃ hD, nx = led hD ∧ LdAt w d (pre.length + i) hD ∧ hD.get? T = none) hh hT F (news_less Nn hs) ⟨hD, rfl, D, nT⟩ (fun i v news₁ h tk own I hi J hoff hown oI hTu F₁ N₁ => ?_) fun u news₁ h tk J F₁ N₁ => ?_
  · obtain ⟨n, t, e1, e2⟩ := ints_get hI (List.getElem?_toArray ▸ hi)
    exact turn.step ⟨n, t, e1, List.mem_of_getElem? e2, put_at e e2⟩ J hoff hown oI (let ⟨o, ho, _⟩ := hTu; ⟨o, ho⟩) F₁ N₁
  · obtain ⟨hD2, rfl, D2, -⟩ := J
    exact done u hD2 h tk ((show items.toArray.size = ns.length from hI.length) ▸ D2) F₁ N₁
theorem lp_ldK {T d : Addr} {kvs : List (Int × Value)} {ns : List Int} {hD : Heap} {m₀ : Str → Option Value} {name : Str} {dat : Int → PyData} {pre post : List (Str × Int × PyData)} (hh : A.handled = none) (lo : (T == sysModules) = false) (hTL : T ≠ env.locals) (hT : s.heap.DictOf (intKind PR w) T kvs) (hK : kvs.map (·.1) = ns) (e : lawPuts = pre ++ (ns.map (fun c => (name, c, dat c)) ++ post)) (F : Fr h₀ env.locals s.heap m₀) (Nn : News h₀ env.locals s.heap (led hD)) (D : LdAt w d pre.length hD) (nT : hD.get? T = none)
    (turn : PutTurn w A h₀ env x body E s T d pre.length name dat ns m₀)
    (done : ∀ u hD2 h tk, LdAt w d (pre.length + ns.length) hD2 → Fr h₀ env.locals h (fun z => if z = x then u else m₀ z) → News h₀ env.locals h (led hD2) → Q .next { s with heap := h, toks := tk }) :
    wpAny (model PR w) A (pyIter (.ref T)) (fun it s₂ => LoopAtV PR w A h₀ env x body Q E it s₂) E s := by
  refine lp_keys (fun i nx => ∃ hD, nx = led hD ∧ LdAt w d (pre.length + i) hD ∧ hD.get? T = none) hh lo hTL hT F Nn ⟨hD, rfl, D, nT⟩ (fun i v news₁ h tk own I hi J hoff hown oI hTu F₁ N₁ => ?_) fun u news₁ h tk J F₁ N₁ => ?_
  · obtain ⟨k, z, e1, hk⟩ := hi
    obtain ⟨t, rfl⟩ := is_int hk
    have e2 : ns[i]? = some k := by rw [← hK, List.getElem?_map, e1]; rfl
    exact turn.step ⟨k, t, rfl, List.mem_of_getElem? e2, put_at e e2⟩ J hoff hown oI (let ⟨o, _, _, ho, _⟩ := hTu; ⟨o, ho⟩) F₁ N₁
  · obtain ⟨hD2, rfl, D2, -⟩ := J
    exact done u hD2 h tk ((show kvs.length = ns.length from hK ▸ (List.length_map _).symm) ▸ D2) F₁ N₁
end
theorem tuple_at {w : World} {h : Heap} {a : Addr} {od : Option Addr} {osl : Array (Option Value)} {items : Array Value} {n : Nat} (X : (Tp.heap_1 w.params).In h) (ho : (Tp.heap_1 w.params).lookup a = some ⟨.type "tuple", od, .seq items n, osl⟩) : h.IsTuple a items :=
  ⟨_, X _ _ ho, rfl, n, rfl⟩
theorem codes_tuple (w : World) {h : Heap} (X : (Tp.heap_1 w.params).In h) : ∃ items, h.IsTuple 407 (List.toArray items) ∧ IntsAre items lawCodes ∧ items.length = 27 := by
  refine ⟨_, tuple_at X (by k_is), ?_, rfl⟩
  repeat (first | exact .nil | refine .cons _ _ ?_)

abbrev scrK (kvs : List (Int × Value)) : Prop := ∃ t1 t2 t3 t4 t5, kvs = [(945, .str (Str.ofString "Grek") t1), (1488, .str (Str.ofString "Hebr") t2), (12354, .str (Str.ofString "Hira") t3), (19968, .str (Str.ofString "Hani") t4), (12450, .str (Str.ofString "Kana") t5)]
abbrev joiK (kvs : List (Int × Value)) : Prop := ∃ t1 t2 t3 t4, kvs = [(1576, .str (Str.ofString "D") t1), (1583, .str (Str.ofString "R") t2), (1611, .str (Str.ofString "T") t3), (1600, .str (Str.ofString "C") t4)]
/-- a new dict by ints -/
inductive NewDict (w : World) (K : List (Int × Value) → Prop) (v : Value) (hN : Heap) : Prop
  | mk (a : Addr) (kvs : List (Int × Value)) : v = .ref a → hN.DictOf (intKind PR w) a kvs → (a == sysModules) = false → K kvs → NewDict w K v hN
theorem scr_keys {kvs : List (Int × Value)} (h : scrK kvs) : kvs.map (·.1) = [945, 1488, 12354, 19968, 12450] := by
  obtain ⟨_, _, _, _, _, rfl⟩ := h; rfl
theorem joi_keys {kvs : List (Int × Value)} (h : joiK kvs) : kvs.map (·.1) = [1576, 1583, 1611, 1600] := by
  obtain ⟨_, _, _, _, rfl⟩ := h; rfl
theorem scr_val {kvs : List (Int × Value)} (h : scrK kvs) : ∀ x ∈ [945, 1488, 12354, 19968, 12450], ∃ t, valueAt kvs x = some (.str (Str.ofString (scrOf x)) t) := by
  obtain ⟨_, _, _, _, _, rfl⟩ := h
  exact List.forall_mem_cons.mpr ⟨⟨_, rfl⟩, List.forall_mem_cons.mpr ⟨⟨_, rfl⟩, List.forall_mem_cons.mpr ⟨⟨_, rfl⟩, List.forall_mem_cons.mpr ⟨⟨_, rfl⟩, List.forall_mem_cons.mpr ⟨⟨_, rfl⟩, List.forall_mem_nil _⟩⟩⟩⟩⟩
def joiS (x : Int) : String := if x = 1600 then "C" else jtOf x
theorem joi_val {kvs : List (Int × Value)} (h : joiK kvs) : ∀ x ∈ [1576, 1583, 1611, 1600], ∃ t, valueAt kvs x = some (.str (Str.ofString (joiS x)) t) := by
  obtain ⟨_, _, _, _, rfl⟩ := h
  exact List.forall_mem_cons.mpr ⟨⟨_, rfl⟩, List.forall_mem_cons.mpr ⟨⟨_, rfl⟩, List.forall_mem_cons.mpr ⟨⟨_, rfl⟩, List.forall_mem_cons.mpr ⟨⟨_, rfl⟩, List.forall_mem_nil _⟩⟩⟩⟩
theorem newdict_end {w : World} {K : List (Int × Value) → Prop} {s : Shared} {h' : Heap} {L D : Addr} {o : Obj} {m : Str → Option Value} {kvs : List (Int × Value)} {tk : Nat} (F : Fr s.heap L h' m) (N : News s.heap L h' [(D, o)]) (hd : o.IsDictOf (intKind PR w) kvs) (lo : (D == sysModules) = false) (hK : K kvs) :
    Ext s (fun v h' => ∃ hN : Heap, hN.StaysIn h' ∧ (∀ b o, hN.get? b = some o → s.heap.get? b = none) ∧ NewDict w K v hN) (.ref D) { s with heap := h', toks := tk } :=
  Ext.intro (Fr.keep F) ⟨keepOn h' fun b => (s.heap.get? b).isNone, keepOn_sub _ _, fun b o e => Option.isNone_iff_eq_none.mp (keepOn_get.mp e).2, D, kvs, rfl, Heap.dictOf_iff.mpr ⟨o, keepOn_get.mpr ⟨(N _ (.head _)).1, by rw [(N _ (.head _)).2.2]; rfl⟩, hd⟩, lo, hK⟩
set_option maxHeartbeats 4000000 in
theorem c_scripts (w : World) (s : Shared) : Callee w 414 [] 1 s (Ext s fun v h' => ∃ hN : Heap, hN.StaysIn h' ∧ (∀ b o, hN.get? b = some o → s.heap.get? b = none) ∧ NewDict w scrK v hN) := by
  walk_at "mine enter"
  intro p loose mean mg mb dp un gd outer A₀ base L' h₁ tk B F X T hdp hun
  refine wpAny_gen ?_
  intro Q_k hQ_k
  have N := news_of F
  (try dsimp only)
  (try k_fold)
  walk_at "mine steps"
  all_goals exact newdict_end (by assumption) (by assumption) (by assumption) (by assumption) ⟨_, _, _, _, _, rfl⟩
set_option maxHeartbeats 4000000 in
theorem c_joins (w : World) (s : Shared) : Callee w 421 [] 1 s (Ext s fun v h' => ∃ hN : Heap, hN.StaysIn h' ∧ (∀ b o, hN.get? b = some o → s.heap.get? b = none) ∧ NewDict w joiK v hN) := by
  walk_at "mine enter"
  intro p loose mean mg mb dp un gd outer A₀ base L' h₁ tk B F X T hdp hun
  refine wpAny_gen ?_
  intro Q_k hQ_k
  have N := news_of F
  (try dsimp only)
  (try k_fold)
  walk_at "mine steps"
  all_goals exact newdict_end (by assumption) (by assumption) (by assumption) (by assumption) ⟨_, _, _, _, rfl⟩
theorem dict_use {w : World} {f : Addr} {s : Shared} {K : List (Int × Value) → Prop} (C : Callee w f [] 1 s (Ext s fun v h' => ∃ hN : Heap, hN.StaysIn h' ∧ (∀ b o, hN.get? b = some o → s.heap.get? b = none) ∧ NewDict w K v hN))
    {p : Program} {loose : List Str} {mean : ExcName → Option Value} {mg mb : Str → Option Value} {dp un : Nat} {gd : Option (List Code)} {cn : Str} {cs : Scope} {L a : Addr} {ccd : Value} {cl : List (Str × Addr)} {outer : List Env} {A₀ : Around} {base h₀ : Heap} {m : Str → Option Value} {Q E : Value → Shared → Prop} {nn : List (Addr × Obj)}
    (B : Below A₀ base outer h₀) (F : Fr h₀ L s.heap m) (N : News h₀ L s.heap nn) (X : (Tp.heap_1 w.params).In h₀) (T : Top p loose mean mg mb h₀) (hc : cs.kind = .function) (hdp : dp + 1 < 1000) (hun : un + 40 * 1 < 9900)
    (k : ∀ h' tk T kvs, Fr h₀ L h' m → News h₀ L h' nn → s.heap.StaysIn h' → h'.DictOf (intKind PR w) T kvs → s.heap.get? T = none → T ≠ L → (T == sysModules) = false → K kvs → Q (.ref T) { s with heap := h', toks := tk }) :
    wpAny (model PR w) (ktrTop dp un gd cn cs L a ccd cl outer) (call (.ref f) []) Q E s := by
  refine C.ext B F N X T hc hdp hun ?_
  rintro v h' tk F' N' st ⟨hN, h1, h2, ND⟩
  obtain ⟨a, kvs, rfl, q1, q2, q3⟩ := ND
  have hn : s.heap.get? a = none := let ⟨o, _, _, ho, _⟩ := q1; h2 _ o ho
  refine k h' tk a kvs F' N' st (q1.keep h1) hn (fun e => ?_) q2 q3
  obtain ⟨⟨oL, _, _, hL, _⟩, _, _⟩ := F
  rw [e, hL] at hn; cases hn
theorem key_int {w : World} {A : Around} {E : Value → Shared → Prop} {s : Shared} {d : Addr} {kvs : List (Int × Value)} {x : Int} {t : Tok} {v : Value} {Q : Value → Shared → Prop} {value slice : PySem.Expr} (hm : s.heap.DictOf (intKind PR w) d kvs) (hv : valueAt kvs x = some v) (h : Q v { s with toks := s.toks + 1 })
    (hs : subscripted slice false (.ref d) (.int x t) = operate [.ref d, .int x t] (getItem (.ref d) (.int x t)) := by with_unfolding_all rfl) :
    wpAny (model PR w) A (subscriptTail value slice (.ref d) (.int x t)) Q E s :=
  have hm' := hm.mapOf
  tail_any hm'.typeIs slot_dict_getitem.lookup (wpAny_getItem_of (intKind_is PR w x t) hm' hv h) hs

theorem callWith_K1 {K : Frag} {M : Model} {A : Around} {E : Value → Shared → Prop} {s : Shared} {env : Env} {f : Value} {first : List Value} {pos : Pos} {Q : Value → Shared → Prop} {h₀ : Heap} {L : Addr} {m : Str → Option Value} (F : Fr h₀ L s.heap m) (X : K.In h₀) (hk : keepIn K f = true) (h : wpAny M A (call f (first ++ [])) Q E s) : wpAny M A (callWith pos f first (backTo pos (starEach [] env)) []) Q E s :=
  callWith_K0 (X.keeps F.keep) hk h
theorem kw_19_1 : True := by
  k_with "callWith ref" => first | (k_here; (with_reducible show wpAny _ _ (callWith _ (Value.ref _) _ (backTo _ (starEach [] _)) []) _ _ _); k_dflt (refine' callWith_K1 (by k_asm) (by k_asm) (by k_is) ?_; k_whole)) | fail "no"
  trivial
local macro_rules | `(tactic| k_all) => `(tactic| assumption)
theorem kw_19_2 : True := by
  k_with "mine stop" => first | (with_reducible show wpAny _ _ (call (Value.ref 385) _) _ _ _) | fail "no"
  k_with "mine stop" => first | (with_reducible show wpAny _ _ (call (Value.ref 414) _) _ _ _) | fail "no"
  k_with "mine stop" => first | (with_reducible show wpAny _ _ (call (Value.ref 421) _) _ _ _) | fail "no"
  k_with "subscriptTail" => first | (k_here; (with_reducible show wpAny _ _ (subscriptTail _ _ (Value.ref _) (Value.int _ _)) _ _ _); (with_unfolding_all refine' key_int (by assumption) (by assumption) ?_ (by with_unfolding_all rfl)); k_whole) | fail "no"
  trivial
theorem data_start {w : World} {g h : Heap} {L x' dx d1 D : Addr} {dkv : List (Str × Value)} {hN : Heap} {o1 : Obj} {nn : List (Addr × Obj)} {v3 v4 : Value} {t1 t2 t3 t4 : Tok} (N : News g L h nn)
    (h1 : (x', instObj 402 dx) ∈ nn) (h2 : (dx, dictOf (daEs w t1 t2 t3 t4 D d1 v3 v4) 4) ∈ nn) (h3 : (d1, o1) ∈ nn) (h4 : ∀ p ∈ led hN, p ∈ nn)
    (e1 : o1.IsDictOf (strKind PR w) ([] : List (Str × Value))) (lo1 : (d1 == sysModules) = false) (hdk : hN.DictOf (strKind PR w) D dkv) (hds : (D == sysModules) = false) (hok : DflOk hN dkv) (ne1 : ∀ p ∈ led hN, p.1 ≠ dx) (ne2 : ∀ p ∈ led hN, p.1 ≠ d1) (ne3 : dx ≠ d1) :
    ∃ hD, LdAt w x' 0 hD ∧ News g L h (led hD) := by
  obtain ⟨hD, s1, s2, s3, s4⟩ := led_of N
  have kN : hN.StaysIn hD := fun b o e => s2 (b, o) (h4 _ (mem_led.mpr e))
  obtain ⟨oD, hoD⟩ := dict_get hdk
  exact ⟨hD, ⟨⟨x', dx, D, d1, dkv, dflD, []⟩, ⟨⟨v3, v4, t1, t2, t3, t4, s2 _ h1, s2 _ h2, hdk.keep kN, hds, Heap.dictOf_iff.mpr ⟨o1, s2 _ h3, e1⟩, lo1⟩, (fun p hp => nomatch hp), fun p hp => (hok p hp).keeps kN, ⟨(ne1 _ (mem_led.mpr hoD)).symm, ne3, ne2 _ (mem_led.mpr hoD), List.forall_mem_nil _, List.forall_mem_nil _, List.forall_mem_nil _, List.nodup_nil⟩⟩, rfl, rfl, Ran.zero⟩, s4⟩
theorem meth_put {w : World} {A : Around} {E : Value → Shared → Prop} {s : Shared} {g hX : Heap} {L da : Addr} {m : Str → Option Value} {n : Nat} {pl : Sem Bool} {Q : Value × List Value → Shared → Prop} (D : LdAt w da n hX) (k : hX.StaysIn s.heap) (F : Fr g L s.heap m) (X : (Tp.heap_1 w.params).In g)
    (h : Q (.ref 385, [.ref da]) s) : wpAny (model PR w) A (getMethod (.ref da) (Str.ofString "put") pl) Q E s := by
  obtain ⟨S, D, rfl, -, -⟩ := D
  obtain ⟨v3, v4, q1, q2, q3, q4, hd, hdx, -, -, -, -⟩ := D.at_
  exact method_inst F X (inst_of_base hd hdx k) (by k_is) (by k_is) (by k_is) (by rfl) h
/-- the law's data, new -/
inductive NewData (w : World) (v : Value) (hN : Heap) : Prop
  | mk (S : DSt) : v = .ref S.d → DataOk w hN S → S.dfl = dflD → runA dflD (some []) lawPuts = some S.abs → NewData w v hN
theorem ld_last {w : World} {s : Shared} {d : Addr} {hD h4 : Heap} {L : Addr} {m : Str → Option Value} {tk : Nat} (D : LdAt w d 43 hD) (F : Fr s.heap L h4 m) (N : News s.heap L h4 (led hD)) : Ext s (fun v h' => ∃ hN : Heap, hN.StaysIn h' ∧ (∀ b o, hN.get? b = some o → s.heap.get? b = none) ∧ NewData w v hN) (.ref d) { s with heap := h4, toks := tk } := by
  obtain ⟨S, D, rfl, f, R⟩ := D
  exact Ext.intro (Fr.keep F) ⟨hD, led_stays N fun _ hp => hp, fun b o e => (N (b, o) (mem_led.mpr e)).2.2, S, rfl, D, f, R.1⟩
theorem led_none {g h hD : Heap} {L b : Addr} {o : Obj} (N : News g L h (led hD)) (e : g.get? b = some o) : hD.get? b = none := by
  cases z : hD.get? b with
  | none => rfl
  | some o' => exact (no_of (N _ (mem_led.mpr z)).2.2 e).elim
abbrev devD (c : Int) : PyData := rowD "deviation" (if c = 223 then [115, 115] else [])
theorem forall_two {α : Type} {q : α → Prop} {a b : α} (h1 : q a) (h2 : q b) : ∀ p ∈ [a, b], q p := List.forall_mem_cons.mpr ⟨h1, List.forall_mem_cons.mpr ⟨h2, List.forall_mem_nil _⟩⟩
theorem mem_two {α : Type} {a b : α} {l : List α} : ∀ p ∈ [a, b], p ∈ a :: b :: l := forall_two (.head _) (.tail _ (.head _))
theorem row_reads {x : String} {told : List Int} {ts : List Value} {q : Tok} {a b : Addr} {k1 k2 : Nat} (ht : ∀ h, ∃ as, ReadsAll h ts (told.map PyData.int) as) (h : Heap) (hn : ∀ p ∈ [((a, { cls := .type "tuple", data := .seq #[.str (Str.ofString x) q, .ref b] k1 }) : Addr × Obj), (b, { cls := .type "tuple", data := .seq ts.toArray k2 })], h.get? p.1 = some p.2) : ∃ as, Reads h (.ref a) (rowD x told) as :=
  let ⟨_, r⟩ := ht h
  ⟨_, .tuple (hn _ (.head _)) rfl rfl (.cons (.str _ _) (.cons (.tuple (hn _ (.tail _ (.head _))) rfl rfl r) .nil))⟩
set_option maxHeartbeats 16000000 in
theorem c_ldata (w : World) (s : Shared) : Callee w 440 [] 12 s (Ext s fun v h' => ∃ hN : Heap, hN.StaysIn h' ∧ (∀ b o, hN.get? b = some o → s.heap.get? b = none) ∧ NewData w v hN) := by
  have tg_c_ldata : True := trivial
  walk_at "mine enter"
  intro p loose mean mg mb dp un gd outer A₀ base L' h₁ tk B F X T hdp hun
  refine wpAny_gen ?_
  intro Q_k hQ_k
  have N := news_of F
  (try dsimp only)
  (try k_fold)
  k_with "getMethod ref" => ((fail_if_success (fail_if_success (clear tg_c_ldata))); k_dflt (refine meth_put (by assumption : LdAt w _ _ _) (led_stays (by k_asm) (by walk_at "mine sub")) (by k_asm) (by k_asm) ?_))
  k_with "call ref" => ((fail_if_success (fail_if_success (clear tg_c_ldata))); first | (k_dflt (refine Callee.ext_new ktr_make (c_dfl w _) (by k_asm) (by k_asm) (by k_asm) (by k_asm) (by k_asm) (by first | exact rfl | assumption) (by walk_at "mine room") (by walk_at "mine room") ?_; rintro v' h' tk' hN F' N' ne' - ND'; obtain ⟨D, dkv, rfl, hdk, hds, hok⟩ := ND'; (have ne1 := ne' _ (.head _)); (have ne2 := ne' _ (.tail _ (.head _))); dsimp only at ne1 ne2; clear ne'; dsimp only [List.cons_append, List.nil_append] at N')) | fail "no")
  walk_at "mine stepsF"
  dsimp only at *
  rename News _ _ _ (_ :: _ :: _) => N1
  obtain ⟨hD, D, ND⟩ := data_start N1 (.tail _ (.tail _ (.tail _ (.head _)))) (.tail _ (.tail _ (.tail _ (.tail _ (.head _))))) (.tail _ (.tail _ (.head _))) (by walk_at "mine sub") (by assumption) (by assumption) hdk hds hok ne2 (fun p hp => Nat.ne_of_lt (allLt_mem (by assumption : _ ∧ _ ∧ AllLt _ (led hN)).2.2 p hp)) (by k_ne)
  clear ne1 ne2 hok hdk
  with_reducible refine' For_invV s.heap ?fx1 ?fp1 ?fh1 ?fs1 ?fE1
  case fx1 => rfl
  case fp1 => rfl
  case fs1 => intro _; rfl
  case fE1 => exact PassesOwn.never
  walk_at "mine stepsF"
  obtain ⟨items, hT0, hI, -⟩ := codes_tuple w X
  refine lp_ldI (name := Str.ofString "idna") (dat := fun _ => rowD "valid" []) (pre := []) (post := puts66 ++ (putsDev ++ (putsSc ++ (putsJt ++ (putsGc ++ putsCcc))))) rfl (hT0.at fun o e => Fr.keep (by k_asm) _ _ e) hI rfl (by k_asm) ND (fun _ hp => hp) D (let ⟨_, g407, _⟩ := hT0; led_none ND g407) ?_ ?_
  · clear D ND hT0 hI
    intro i c t hD2 h2 tk2 own I Qt hc hk D2 O F2 N2 hQ
    (try k_fold)
    walk_at "mine stepsF"
    rename News _ _ _ (_ :: _ :: (_ ++ led _)) => NN
    rename (∀ (b : Addr) (o : Obj), Heap.get? h2 b = some o → Heap.get? _ b = some o) => st1
    rename (∀ (b : Addr) (o : Obj), Heap.get? _ b = some o → Heap.get? _ b = some o) => st2
    refine dput_turn (new := [_, _]) (own := own) D2 hk O (by k_asm) (by k_asm) NN mem_two (fun p hp => .tail _ (.tail _ hp)) (by k_asm) (by k_asm) (by first | exact rfl | assumption) (by walk_at "mine room") (by walk_at "mine room") (fun b o e => st2 _ _ (st1 _ _ e)) (forall_two (none_back st1 (none_size _)) (none_size _)) (row_reads (ts := []) (told := []) fun h => ⟨_, .nil⟩) ?_
    intro h3 tk3 hD3 F3 N3 O3
    clear NN st1 st2
    walk_at "mine stepsF"
    exact hQ _ _ _ F3 N3 O3
  clear hT0 hI D
  intro u1 hD1 h1 tk1 D1 F1 N1
  replace D1 : LdAt w _ 27 hD1 := D1
  (try k_fold)
  walk_at "mine stepsF"
  rename News _ _ _ (_ :: _ :: led _) => NN
  refine dput_use (new := [_, _]) (own := []) D1 (rfl : lawPuts[27]? = some (_, _, rowD "mapped" [98])) (by k_asm) (by k_asm) (news_less NN mem_two) News.nil (news_less NN fun p hp => .tail _ (.tail _ hp)) (by k_asm) (by k_asm) (by first | exact rfl | assumption) (by walk_at "mine room") (by walk_at "mine room") (List.forall_mem_nil _) (List.forall_mem_nil _) (row_reads (ts := [_]) (told := [98]) fun h => ⟨_, .cons (.int _ _) .nil⟩) ?_
  clear D1 NN
  intro h4 tk4 hD2 F4 N4 _ D2
  replace N4 : News _ _ _ (led _) := N4
  (try k_fold)
  walk_at "mine stepsF"
  with_reducible refine' For_invV s.heap ?fx2 ?fp2 ?fh2 ?fs2 ?fE2
  case fx2 => rfl
  case fp2 => rfl
  case fs2 => intro _; rfl
  case fE2 => exact PassesOwn.never
  walk_at "mine stepsF"
  refine lp_ldI (name := Str.ofString "idna") (dat := devD) (ns := [223, 8204, 8205]) (pre := putsIdna ++ puts66) (post := putsSc ++ (putsJt ++ (putsGc ++ putsCcc))) rfl (newsTuple (by k_asm) (by k_mem)) (.cons _ _ (.cons _ _ (.cons _ _ .nil))) rfl (by k_asm) (by k_asm) (by walk_at "mine sub") D2 (none_back (led_stays (by assumption : News _ _ h4 _) fun _ hp => hp) (none_size _)) ?_ ?_
  · clear D2
    intro i c t hD2 h2 tk2 own I Qt hc hk D2 O F2 N2 hQ
    by_cases e223 : c = 223
    · subst e223
      (try k_fold)
      walk_at "mine stepsF"
      rename News _ _ _ (_ :: _ :: (_ ++ led _)) => NN
      rename (∀ (b : Addr) (o : Obj), Heap.get? h2 b = some o → Heap.get? _ b = some o) => st1
      rename (∀ (b : Addr) (o : Obj), Heap.get? _ b = some o → Heap.get? _ b = some o) => st2
      refine dput_turn (new := [_, _]) (own := own) D2 hk O (by k_asm) (by k_asm) NN mem_two (fun p hp => .tail _ (.tail _ hp)) (by k_asm) (by k_asm) (by first | exact rfl | assumption) (by walk_at "mine room") (by walk_at "mine room") (fun b o e => st2 _ _ (st1 _ _ e)) (forall_two (none_back st1 (none_size _)) (none_size _)) (row_reads (ts := [_, _]) (told := [115, 115]) fun h => ⟨_, .cons (.int _ _) (.cons (.int _ _) .nil)⟩) ?_
      intro h3 tk3 hD3 F3 N3 O3
      clear NN st1 st2
      walk_at "mine stepsF"
      exact hQ _ _ _ F3 N3 O3
    · replace hk : _ = some (_, _, rowD "deviation" []) := hk.trans (congrArg (fun l => some (Str.ofString "idna", c, rowD "deviation" l)) (if_neg e223))
      (try k_fold)
      walk_at "mine stepsF"
      first | (exfalso; exact e223 (by assumption)) | skip
      rename News _ _ _ (_ :: _ :: (_ ++ led _)) => NN
      rename (∀ (b : Addr) (o : Obj), Heap.get? h2 b = some o → Heap.get? _ b = some o) => st1
      rename (∀ (b : Addr) (o : Obj), Heap.get? _ b = some o → Heap.get? _ b = some o) => st2
      refine dput_turn (new := [_, _]) (own := own) D2 hk O (by k_asm) (by k_asm) NN mem_two (fun p hp => .tail _ (.tail _ hp)) (by k_asm) (by k_asm) (by first | exact rfl | assumption) (by walk_at "mine room") (by walk_at "mine room") (fun b o e => st2 _ _ (st1 _ _ e)) (forall_two (none_back st1 (none_size _)) (none_size _)) (row_reads (ts := []) (told := []) fun h => ⟨_, .nil⟩) ?_
      intro h3 tk3 hD3 F3 N3 O3
      clear NN st1 st2
      walk_at "mine stepsF"
      exact hQ _ _ _ F3 N3 O3
  clear D2
  intro u3 hD3 h3 tk3 D3 F3 N3
  replace D3 : LdAt w _ 31 hD3 := D3
  (try k_fold)
  walk_at "mine stepsF"
  with_reducible refine' For_invV s.heap ?fx3 ?fp3 ?fh3 ?fs3 ?fE3
  case fx3 => rfl
  case fp3 => rfl
  case fs3 => intro _; rfl
  case fE3 => exact PassesOwn.never
  walk_at "mine stepsF"
  refine dict_use (c_scripts w _) (by k_asm) (by k_asm) (by assumption : News _ _ _ (led hD3)) (by k_asm) (by k_asm) (by first | exact rfl | assumption) (by walk_at "mine room") (by walk_at "mine room") ?_
  intro h4 tk4 Tu kvs F4 N4 st4 dT nT neT loT hK
  (try k_fold)
  walk_at "mine stepsF"
  refine lp_ldK (name := Str.ofString "sc") (dat := fun c => .str (Str.ofString (scrOf c))) (pre := putsIdna ++ (puts66 ++ putsDev)) (post := putsJt ++ (putsGc ++ putsCcc)) rfl loT neT dT (scr_keys hK) rfl (by k_asm) (by assumption : News _ _ _ (led hD3)) D3 (none_back (led_stays N3 fun _ hp => hp) nT) ?_ ?_
  · clear D3 N3 N4 dT nT neT loT st4 hK
    intro i c t hD2 h2 tk2 own I Qt hc hk D2 O F2 N2 hQ
    (try k_fold)
    walk_at "mine stepsF"
    refine dict_use (c_scripts w _) (by k_asm) (by k_asm) (news_less (by k_asm) (fun p hp => hp)) (by k_asm) (by k_asm) (by first | exact rfl | assumption) (by walk_at "mine room") (by walk_at "mine room") ?_
    intro h5 tk5 Tv kvs F5 N5 st5 dT nT neT loT hK
    obtain ⟨tv5, hv5⟩ := scr_val hK c hc
    (try k_fold)
    walk_at "mine stepsF"
    refine dput_turn (new := []) (own := own) D2 hk O (by k_asm) (by k_asm) N5 (List.forall_mem_nil _) (fun _ hp => hp) (by k_asm) (by k_asm) (by first | exact rfl | assumption) (by walk_at "mine room") (by walk_at "mine room") st5 (List.forall_mem_nil _) (fun h hn => ⟨_, .str _ _⟩) ?_
    intro h3 tk3 hD3 F3 N3 O3
    clear N5 st5
    walk_at "mine stepsF"
    exact hQ _ _ _ F3 N3 O3
  clear D3 N3 N4 dT nT neT loT st4 hK
  intro u3 hD3 h3 tk3 D3 F3 N3
  replace D3 : LdAt w _ 36 hD3 := D3
  (try k_fold)
  walk_at "mine stepsF"
  with_reducible refine' For_invV s.heap ?fx4 ?fp4 ?fh4 ?fs4 ?fE4
  case fx4 => rfl
  case fp4 => rfl
  case fs4 => intro _; rfl
  case fE4 => exact PassesOwn.never
  walk_at "mine stepsF"
  refine dict_use (c_joins w _) (by k_asm) (by k_asm) (by assumption : News _ _ _ (led hD3)) (by k_asm) (by k_asm) (by first | exact rfl | assumption) (by walk_at "mine room") (by walk_at "mine room") ?_
  intro h4 tk4 Tu kvs F4 N4 st4 dT nT neT loT hK
  (try k_fold)
  walk_at "mine stepsF"
  refine lp_ldK (name := Str.ofString "jt") (dat := fun c => .str (Str.ofString (joiS c))) (pre := putsIdna ++ (puts66 ++ (putsDev ++ putsSc))) (post := putsGc ++ putsCcc) rfl loT neT dT (joi_keys hK) rfl (by k_asm) (by assumption : News _ _ _ (led hD3)) D3 (none_back (led_stays N3 fun _ hp => hp) nT) ?_ ?_
  · clear D3 N3 N4 dT nT neT loT st4 hK
    intro i c t hD2 h2 tk2 own I Qt hc hk D2 O F2 N2 hQ
    (try k_fold)
    walk_at "mine stepsF"
    refine dict_use (c_joins w _) (by k_asm) (by k_asm) (news_less (by k_asm) (fun p hp => hp)) (by k_asm) (by k_asm) (by first | exact rfl | assumption) (by walk_at "mine room") (by walk_at "mine room") ?_
    intro h5 tk5 Tv kvs F5 N5 st5 dT nT neT loT hK
    obtain ⟨tv5, hv5⟩ := joi_val hK c hc
    (try k_fold)
    walk_at "mine stepsF"
    refine dput_turn (new := []) (own := own) D2 hk O (by k_asm) (by k_asm) N5 (List.forall_mem_nil _) (fun _ hp => hp) (by k_asm) (by k_asm) (by first | exact rfl | assumption) (by walk_at "mine room") (by walk_at "mine room") st5 (List.forall_mem_nil _) (fun h hn => ⟨_, .str _ _⟩) ?_
    intro h3 tk3 hD3 F3 N3 O3
    clear N5 st5
    walk_at "mine stepsF"
    exact hQ _ _ _ F3 N3 O3
  clear D3 N3 N4 dT nT neT loT st4 hK
  intro u3 hD3 h3 tk3 D3 F3 N3
  replace D3 : LdAt w _ 40 hD3 := D3
  have stD : hD3.StaysIn h3 := led_stays N3 fun _ hp => hp
  (try k_fold)
  walk_at "mine stepsF"
  with_reducible refine' For_invV s.heap ?fx5 ?fp5 ?fh5 ?fs5 ?fE5
  case fx5 => rfl
  case fp5 => rfl
  case fs5 => intro _; rfl
  case fE5 => exact PassesOwn.never
  walk_at "mine stepsF"
  refine lp_ldI (name := Str.ofString "gc") (dat := fun _ => .str (Str.ofString "Mn")) (ns := [2381, 1611]) (pre := putsIdna ++ (puts66 ++ (putsDev ++ (putsSc ++ putsJt)))) (post := putsCcc) rfl (newsTuple (by k_asm) (by k_mem)) (.cons _ _ (.cons _ _ .nil)) rfl (by k_asm) (by k_asm) (by walk_at "mine sub") D3 (none_back stD (none_size _)) ?_ ?_
  · clear D3 stD
    intro i c t hD2 h2 tk2 own I Qt hc hk D2 O F2 N2 hQ
    (try k_fold)
    walk_at "mine stepsF"
    refine dput_turn (new := []) (own := own) D2 hk O (by k_asm) (by k_asm) (by k_asm) (List.forall_mem_nil _) (by walk_at "mine sub") (by k_asm) (by k_asm) (by first | exact rfl | assumption) (by walk_at "mine room") (by walk_at "mine room") (fun _ _ e => e) (List.forall_mem_nil _) (fun h hn => ⟨_, .str _ _⟩) ?_
    intro h3 tk3 hD3 F3 N3 O3
    walk_at "mine stepsF"
    exact hQ _ _ _ F3 N3 O3
  clear D3 stD
  intro u3 hD2 h3 tk3 D2 F2 N2
  replace D2 : LdAt w _ 42 hD2 := D2
  (try k_fold)
  walk_at "mine stepsF"
  refine dput_use (new := []) (own := []) D2 (rfl : lawPuts[42]? = some (_, _, .int 9)) (by k_asm) (by k_asm) News.nil News.nil (by k_asm) (by k_asm) (by k_asm) (by first | exact rfl | assumption) (by walk_at "mine room") (by walk_at "mine room") (List.forall_mem_nil _) (List.forall_mem_nil _) (fun h hn => ⟨_, .int _ _⟩) ?_
  clear D2
  intro h4 tk4 hD3 F4 N4 _ D3
  replace N4 : News _ _ _ (led _) := N4
  (try k_fold)
  walk_at "mine stepsF"
  exact ld_last D3 F4 N4

/-- the law's data: what its maps hold -/
abbrev finA : List (Str × AMap) := (runA dflD (some []) lawPuts).getD []
abbrev dmA : AMap := ⟨.none, [0], [.none]⟩
structure LawD (w : World) (h : Heap) (S : DSt) : Prop where
  ok : DataOk w h S
  dfl : S.dfl = dflD
  abs : S.abs = finA ∨ S.abs = finA ++ [(Str.ofString "dm", dmA)]
theorem LawD.keeps {w : World} {h h' : Heap} {S : DSt} (D : LawD w h S) (k : h.StaysIn h') : LawD w h' S := ⟨D.ok.keeps k, D.dfl, D.abs⟩
def readA (M : AMap) (n : Int) : Option PyData := if 0 ≤ pbh M.ns n ∧ pbh M.ns n < 1000 ∧ M.ns.length < 1000 then M.ds[(pbh M.ns n).toNat]? else none
theorem findA_append {β : Type} {x : Str} {b : β} {r l : List (Str × β)} : findA l x = some b → findA (l ++ r) x = some b := by
  induction l with
  | nil => intro h; cases h
  | cons q l ih =>
    intro h
    by_cases e : q.1 = x
    · exact (if_pos e).trans ((if_pos e).symm.trans h)
    · exact (if_neg e).trans (ih ((if_neg e).symm.trans h))
theorem readA_ok {M : AMap} {n : Int} {d : PyData} (h : readA M n = some d) : 0 ≤ pbh M.ns n ∧ pbh M.ns n < 2 ^ 63 ∧ M.ns.length < 2 ^ 20 ∧ M.ds[(pbh M.ns n).toNat]? = some d := by
  by_cases hb : 0 ≤ pbh M.ns n ∧ pbh M.ns n < 1000 ∧ M.ns.length < 1000
  · exact ⟨hb.1, Int.lt_trans hb.2.1 (by decide), Nat.lt_trans hb.2.2 (by decide), (if_pos hb).symm.trans h⟩
  · exact nomatch (if_neg hb).symm.trans h
theorem Callee.to {w : World} {f : Addr} {vs : List Value} {d d' : Nat} {s : Shared} {post post' : Value → Shared → Prop} (C : Callee w f vs d s post) (h : ∀ v s', post v s' → post' v s') (hd : d ≤ d' := by decide) : Callee w f vs d' s post' :=
  fun p loose mean mg mb dp un gd cn cs L a ccd cl outer A₀ base h₀ m B F X T hk hdp hun => wpAny_mono (C p loose mean mg mb dp un gd cn cs L a ccd cl outer A₀ base h₀ m B F X T hk (by omega) (by omega)) h (fun _ _ x => x)
theorem Ext.to {s : Shared} {P P' : Value → Heap → Prop} {v : Value} {s' : Shared} (x : Ext s P v s') (h : ∀ v h', P v h' → P' v h') : Ext s P' v s' := x.imp fun _ x => x.imp fun _ x => ⟨x.1, x.2.1, h _ _ x.2.2⟩
/-- Data.get of a name that is present -/
theorem c_lget (w : World) (s : Shared) (S : DSt) (D : DataOk w s.heap S) {name : Str} {M : AMap} (hM : findA S.abs name = some M) {n : Int} {d : PyData} (hr : readA M n = some d) (tn t : Tok) :
    Callee w 392 [.ref S.d, .str name tn, .int n t] 3 s (Ext s fun v _ => ∃ a, Reads s.heap v d a) := by
  obtain ⟨⟨nm, M'⟩, hp, e⟩ := List.mem_map.mp (findA_mem hM)
  cases e
  obtain ⟨b1, b2, b3, b4⟩ := readA_ok hr
  obtain ⟨dv, ls, lv, vs, xs, t1, t2, t3, -, h1, h2, h3, h4, h5, h6, -, -, -, -⟩ := D.maps _ hp
  obtain ⟨v, a, hv, ha⟩ := h6.get b4
  exact (c_dget w s S.d S.dx S.dd S.mm S.dkv S.refs nm tn M'.r M'.rx dv M'.ns xs n t v D.at_ (D.ref hp) ⟨ls, lv, vs, t1, t2, t3, h1, h2, h3, h4, h5⟩ b3 b1 b2 hv).to fun _ _ x => x.to fun _ _ e => ⟨a, e ▸ ha⟩
/-- a law's code: what the data say of it -/
def gcOf (n : Int) : String := if n = 2381 ∨ n = 1611 then "Mn" else "Cn"
def cccOf (n : Int) : Int := if n = 2381 then 9 else 0
def stOf (n : Int) : String := if n = 66 then "mapped" else if n = 223 ∨ n = 8204 ∨ n = 8205 then "deviation" else "valid"
def toldOf (n : Int) : List Int := if n = 66 then [98] else if n = 223 then [115, 115] else []
abbrev rdA (name : Str) (n : Int) : Option PyData := (findA finA name).bind (readA · n)
def hasR (name : Str) (n : Int) (d : PyData) : Prop := rdA name n = some d
theorem hasR_ex {name : Str} {n : Int} {d : PyData} (h : hasR name n d) : ∃ M, findA finA name = some M ∧ readA M n = some d := Option.bind_eq_some_iff.mp h
theorem LawD.find {w : World} {h : Heap} {S : DSt} (D : LawD w h S) {name : Str} {M : AMap} (hM : findA finA name = some M) : findA S.abs name = some M := by
  rcases D.abs with e | e
  · rw [e]; exact hM
  · rw [e]; exact findA_append hM
theorem reads_all : lawCodes.map (fun c => (rdA (Str.ofString "idna") c, rdA (Str.ofString "sc") c, rdA (Str.ofString "jt") c, rdA (Str.ofString "gc") c, rdA (Str.ofString "ccc") c)) = lawCodes.map (fun c => (some (rowD (stOf c) (toldOf c)), some (.str (Str.ofString (scrOf c))), some (.str (Str.ofString (jtOf c))), some (.str (Str.ofString (gcOf c))), some (.int (cccOf c)))) := by kernel_rfl
theorem reads_at {c : Int} (hc : c ∈ lawCodes) : hasR (Str.ofString "idna") c (rowD (stOf c) (toldOf c)) ∧ hasR (Str.ofString "sc") c (.str (Str.ofString (scrOf c))) ∧ hasR (Str.ofString "jt") c (.str (Str.ofString (jtOf c))) ∧ hasR (Str.ofString "gc") c (.str (Str.ofString (gcOf c))) ∧ hasR (Str.ofString "ccc") c (.int (cccOf c)) := by
  have e := List.map_inj_left.mp reads_all c hc
  have e1 := Prod.mk.inj e
  have e2 := Prod.mk.inj e1.2
  have e3 := Prod.mk.inj e2.2
  have e4 := Prod.mk.inj e3.2
  exact ⟨e1.1, e2.1, e3.1, e4.1, e4.2⟩
theorem c_has (w : World) (s : Shared) (S : DSt) (D : LawD w s.heap S) {name : Str} {n : Int} {d : PyData} (hr : hasR name n d) (tn t : Tok) :
    Callee w 392 [.ref S.d, .str name tn, .int n t] 3 s (Ext s fun v _ => ∃ a, Reads s.heap v d a) := by
  obtain ⟨M, h1, h2⟩ := hasR_ex hr
  exact c_lget w s S D.ok (D.find h1) h2 tn t
/-- what reads a text, an int, none -/
def RdSh (v : Value) : PyData → Prop
  | .str x => ∃ t, v = .str x t
  | .int i => ∃ t, v = .int i t
  | .none => v = .none
  | .bool b => v = .bool b
  | .tuple _ => ∃ a, v = .ref a
  | .list _ => ∃ a, v = .ref a
  | .dict _ => ∃ a, v = .ref a
theorem reads_sh {h : Heap} {v : Value} {d : PyData} {a : List Addr} (r : Reads h v d a) : RdSh v d :=
  Reads.casesOn (motive_1 := fun v d _ _ => RdSh v d) r rfl (fun _ => rfl) (fun _ t => ⟨t, rfl⟩) (fun _ t => ⟨t, rfl⟩) (fun _ _ _ _ => ⟨_, rfl⟩) (fun _ _ _ _ => ⟨_, rfl⟩) (fun _ _ _ _ _ => ⟨_, rfl⟩)
theorem reads_str {h : Heap} {v : Value} {x : Str} {a : List Addr} (r : Reads h v (.str x) a) : ∃ t, v = .str x t := reads_sh r
theorem reads_int {h : Heap} {v : Value} {x : Int} {a : List Addr} (r : Reads h v (.int x) a) : ∃ t, v = .int x t := reads_sh r
theorem reads_none {h : Heap} {v : Value} {a : List Addr} (r : Reads h v .none a) : v = .none := reads_sh r
theorem c_sc (w : World) (s : Shared) (S : DSt) (D : LawD w s.heap S) {c : Int} (hc : c ∈ lawCodes) (tn t : Tok) : Callee w 392 [.ref S.d, .str (Str.ofString "sc") tn, .int c t] 3 s (Ext s fun v _ => ∃ t, v = .str (Str.ofString (scrOf c)) t) :=
  (c_has w s S D (reads_at hc).2.1 tn t).to fun v s' x => x.to fun v h' ⟨a, r⟩ => reads_str r
theorem c_jt (w : World) (s : Shared) (S : DSt) (D : LawD w s.heap S) {c : Int} (hc : c ∈ lawCodes) (tn t : Tok) : Callee w 392 [.ref S.d, .str (Str.ofString "jt") tn, .int c t] 3 s (Ext s fun v _ => ∃ t, v = .str (Str.ofString (jtOf c)) t) :=
  (c_has w s S D (reads_at hc).2.2.1 tn t).to fun v s' x => x.to fun v h' ⟨a, r⟩ => reads_str r
theorem c_gc (w : World) (s : Shared) (S : DSt) (D : LawD w s.heap S) {c : Int} (hc : c ∈ lawCodes) (tn t : Tok) : Callee w 392 [.ref S.d, .str (Str.ofString "gc") tn, .int c t] 3 s (Ext s fun v _ => ∃ t, v = .str (Str.ofString (gcOf c)) t) :=
  (c_has w s S D (reads_at hc).2.2.2.1 tn t).to fun v s' x => x.to fun v h' ⟨a, r⟩ => reads_str r
theorem c_ccc (w : World) (s : Shared) (S : DSt) (D : LawD w s.heap S) {c : Int} (hc : c ∈ lawCodes) (tn t : Tok) : Callee w 392 [.ref S.d, .str (Str.ofString "ccc") tn, .int c t] 3 s (Ext s fun v _ => ∃ t, v = .int (cccOf c) t) :=
  (c_has w s S D (reads_at hc).2.2.2.2 tn t).to fun v s' x => x.to fun v h' ⟨a, r⟩ => reads_int r
theorem c_idna (w : World) (s : Shared) (S : DSt) (D : LawD w s.heap S) {c : Int} (hc : c ∈ lawCodes) (tn t : Tok) : Callee w 392 [.ref S.d, .str (Str.ofString "idna") tn, .int c t] 3 s (Ext s fun v _ => ∃ a, Reads s.heap v (rowD (stOf c) (toldOf c)) a) :=
  c_has w s S D (reads_at hc).1 tn t
/-- the method get of the law's data -/
theorem data_meth {w : World} {A : Around} {E : Value → Shared → Prop} {s : Shared} {g hX : Heap} {L da : Addr} {m : Str → Option Value} {S : DSt} {pl : Sem Bool} {Q : Value × List Value → Shared → Prop} (D : LawD w hX S) (k : hX.StaysIn s.heap) (F : Fr g L s.heap m) (X : (Tp.heap_1 w.params).In g) (e : S.d = da)
    (h : Q (.ref 392, [.ref da]) s) : wpAny (model PR w) A (getMethod (.ref da) (Str.ofString "get") pl) Q E s := by
  subst e
  obtain ⟨v3, v4, q1, q2, q3, q4, hd, hdx, -, -, -, -⟩ := D.ok.at_
  exact method_inst F X (inst_of_base hd hdx k) (by k_is) (by k_is) (by k_is) (by rfl) h

/-- a def's body whose frame has cells -/
def BodyC (w : World) (qual : Str) (scope : Scope) (f : Addr) (cdv : Value) (body : List Stmt) (d : Nat) (s : Shared) (binds : List (Str × Value)) (post : Value → Shared → Prop) : Prop :=
  ∀ (p : Program) (loose : List Str) (mean : ExcName → Option Value) (mg mb : Str → Option Value) (dp un : Nat) (gd : Option (List Code)) (outer : List Env) (A₀ : Around) (base : Heap) (L' : Addr) (h₁ : Heap) (tk : Nat) (cells : List (Addr × Obj)),
    Below A₀ base outer s.heap → Fr s.heap L' h₁ (bindL (envOfC qual scope L' f cdv).kindOf binds fun _ => none) → News s.heap L' h₁ cells → CellsAre (bindC (envOfC qual scope L' f cdv).kindOf binds fun _ => none) (cellsFrom (L' + 1) scope.names []) cells → (Tp.heap_1 w.params).In s.heap → Top p loose mean mg mb s.heap → dp + d ≤ 1000 → un + 40 * d ≤ 9936 →
    wpAny (model PR w) (ktrTop dp un gd qual scope L' f cdv (cellsFrom (L' + 1) scope.names []) outer) (execs body (envOfC qual scope L' f cdv)) (fun fl s' => post (match fl with | .ret v => v | _ => .none) s') NoE { s with heap := h₁, toks := tk }
theorem enterC {w : World} {f : Addr} {vs : List Value} {d : Nat} {s : Shared} {post : Value → Shared → Prop} {name qual : Str} {params : Arguments} {body : List Stmt} {scope : Scope} {dV kV doc pm cdv ct oc : Value} {an od : Option Addr} {osl : Array (Option Value)} {binds : List (Str × Value)}
    (ho : (Tp.heap_1 w.params).lookup f = some ⟨oc, od, .func (fnOf name qual params body scope dV kV doc pm an cdv ct), osl⟩) (hcd : codeIn (Tp.heap_1 w.params) cdv qual = true)
    (hbind : (Tp.heap_1 w.params).In s.heap → BindsTo s (fnOf name qual params body scope dV kV doc pm an cdv ct) ⟨vs, []⟩ binds) (hkind : (binds.all fun y => scope.names.lookup y.1 == some .local || scope.names.lookup y.1 == some .cell) = true)
    (hnd : ((cellsFrom 0 scope.names []).map (·.1)).Nodup)
    (h : BodyC w qual scope f cdv body d s binds post)
    (hco : scope.isCoroutine = false := by rfl) (hgen : scope.isGenerator = false := by rfl) (hk : scope.kind = .function := by rfl) : Callee w f vs d s post := by
  intro p loose mean mg mb dp un gd cn cs L a ccd cl outer A₀ base h₀ m B F X T hck hd hu
  have X' : (Tp.heap_1 w.params).In s.heap := Frag.In.keeps X F.keep
  refine wpAny_call ?_
  refine codeAny_call_function (fd := fnOf name qual params body scope dV kV doc pm an cdv ct) (by show dp < recursionLimit; unfold recursionLimit; omega) (X' _ _ ho) rfl hco hgen rfl (codeRec_of X' hcd) (hbind X' _ _ _ _ ?_)
  refine wpAny_newFunctionEnv_cells hk (kindsX hkind _) fun env' he s' x => ?_
  subst he
  refine ⟨(T.nolimit.keeps F.keep).keeps x.toInCall.keep, codeAny_func ?_⟩
  obtain ⟨h₁, tk, rfl, _⟩ := x.done
  have B₁ := pushX (env := envX cn cs L a ccd cl) B F rfl hck
  obtain ⟨cells, NC, Y⟩ := Cl.news (h₀ := s.heap) (Nat.le_refl _) fun n c hm => ⟨x.cell n c (lookup_of_mem_nodup (cellsFrom_names scope.names 0 (s.heap.objs.size + 1) [] [] rfl ▸ hnd) hm), x.above n c hm⟩
  exact wpAny_mono (h p loose mean mg mb (dp + 1) (un + 3) gd (envX cn cs L a ccd cl :: outer) _ base s.heap.objs.size h₁ tk cells B₁ ⟨x.toInCall.ns, x.toInCall.keep, Nat.le_refl _⟩ NC Y X' (T.keeps F.keep) (by omega) (by omega)) (fun fl s' hp => hp) (fun _ _ x => x.elim)
theorem kw_21_1 : True := by
  k_with "mine enterC" => first | (refine' enterC (by k_is) (by k_is) (by (intro X9_k; first | exact BindsTo.of_eq rfl | exact binds_K X9_k rfl (by k_is) rfl rfl rfl)) (by exact rfl) (by decide +kernel) ?_ (by exact rfl) (by exact rfl) (by exact rfl)) | fail "no"
  k_with "mine bodyC" => first | (intro p_k loose_k mean_k mg_k mb_k dp_k un_k gd_k outer_k A₀_k base_k L'_k h₁_k tk_k cells_k B_k F_k N_k Y_k X_k T_k hdp_k hun_k; k_cells Y_k; (try dsimp only [List.cons_append, List.nil_append] at N_k); (try dsimp only); (try k_fold); refine wpAny_gen ?_; intro Q_k hQ_k) | fail "no"
  trivial
theorem kw_21_2 : True := by
  k_with "CompSrc" => first | (k_here; refine frozen ?_) | fail "no"
  k_with "CompSrcT" => first | (k_here; refine frozen ?_) | fail "no"
  k_with "eval ListComp" => first | (k_here; refine frozen ?_) | fail "no"
  k_with "exec Assign cons ListComp" => first | (k_here; refine frozen ?_) | fail "no"
  trivial
structure NoFor : Prop where
  here : True
theorem kw_21_3 : True := by
  k_with "exec For" => first | (k_here; (have nf9 : NoFor := by assumption); refine frozen ?_) | fail "no"
  trivial
local macro_rules | `(tactic| walk_at "pyIter ref") => `(tactic| (k_here; (have nf9 : NoFor := by assumption); refine frozen ?_))
theorem kw_21_4 : True := by
  k_with "mine comp" => first | (refine Frozen.mk ?_; k_dflt (refine LCg.ListComp_U (F₀ := by k_asm) (by with_unfolding_all rfl) (by decide) (by rfl) (by decide) (by rfl) ?_); walk_at "mine steps"; refine Frozen.mk ?_) | fail "no"
  k_with "mine compT" => first | (refine Frozen.mk ?_; k_dflt (refine LCt.ListComp_T (F₀ := by k_asm) (by with_unfolding_all rfl) (by decide) (by rfl) (by decide) (by rfl) ?_); walk_at "mine steps"; refine Frozen.mk ?_) | fail "no"
  trivial
/-- item by item -/
inductive F2 {α β : Type} (R : α → β → Prop) : List α → List β → Prop
  | nil : F2 R [] []
  | cons {a : α} {b : β} {r : List α} {q : List β} : R a b → F2 R r q → F2 R (a :: r) (b :: q)
theorem f2_of {α β : Type} {R : α → β → Prop} (ns : List α) : ∀ (ys : List β), ys.length = ns.length → (∀ (i : Nat) (y : β), ys[i]? = some y → ∃ k, ns[i]? = some k ∧ R k y) → F2 R ns ys := by
  induction ns with
  | nil => intro ys h _; rw [List.length_eq_zero_iff.mp h]; exact .nil
  | cons n r ih =>
    intro ys h hy
    cases ys with
    | nil => cases h
    | cons y q =>
      obtain ⟨k, e, hR⟩ := hy 0 y rfl
      exact .cons (Option.some.inj e ▸ hR) (ih q (Nat.succ.inj h) fun i z hz => hy (i + 1) z hz)
theorem F2.length {α β : Type} {R : α → β → Prop} {ns : List α} {ys : List β} (h : F2 R ns ys) : ys.length = ns.length := by
  induction h with
  | nil => rfl
  | cons _ _ ih => exact congrArg (· + 1) ih
theorem F2.append {α β : Type} {R : α → β → Prop} {a b : List α} {x y : List β} (h : F2 R a x) (q : F2 R b y) : F2 R (a ++ b) (x ++ y) := by
  induction h with
  | nil => exact q
  | cons h _ ih => exact .cons h ih
theorem snoc_get {α : Type} {R : Nat → α → Prop} {ys : List α} {y0 : α} (hy : ∀ i y, ys[i]? = some y → R i y) (hR : R ys.length y0) (k : Nat) (z : α) (hz : (ys ++ [y0])[k]? = some z) : R k z := by
  rcases Nat.lt_trichotomy k ys.length with h | h | h
  · exact hy k z ((List.getElem?_append_left h).symm.trans hz)
  · rw [h, List.getElem?_concat_length] at hz
    exact h ▸ Option.some.inj hz ▸ hR
  · rw [List.getElem?_eq_none (by rw [List.length_append]; exact h)] at hz
    cases hz
theorem compEnd_imp {h₀ : Heap} {L I C D : Addr} {m : Str → Option Value} {s₁ s₂ : Shared} {oI oC oD : Obj} {S : List (Addr × Obj) → Prop} {rest rest' : Value → List (Addr × Obj) → Prop} {y y' : Value} (q : LCg.CompEnd h₀ L m s₁ I oI C oC D oD S rest y s₂) (k : ∀ nw, rest y nw → rest' y' nw) : LCg.CompEnd h₀ L m s₁ I oI C oC D oD S rest' y' s₂ := by
  obtain ⟨h', tk', nw, e, F', N', off', hS, r⟩ := q
  exact ⟨h', tk', nw, e, F', N', off', hS, k nw r⟩
theorem len_size' {vs : List Value} {ns : List Int} (hi : IntsAre vs ns) : vs.toArray.size = ns.length := by rw [List.size_toArray, hi.length]
/-- a turn's element -/
def MEl (news : List (Addr × Obj)) (R : Value → Prop) (y : Value) (news' : List (Addr × Obj)) : Prop := news' = news ∧ R y
section
variable {prog : Program} {w : World} {A : Around} {h₀ : Heap} {L : Addr} {m : Str → Option Value} {env : Env} {elt : Expr} {x : Str} {scope : Scope} {cl : List (Str × Addr)} {s : Shared} {S : List (Addr × Obj) → Prop} {P : Nat → Value → Prop} {Fin : List Value → List (Addr × Obj) → Prop} {news : List (Addr × Obj)}
theorem ment {I C D : Addr} {oI oC oD : Obj} {s₁ : Shared} {R : Value → Prop} {y : Value} {h' : Heap} {tk : Nat} {all : List (Addr × Obj)} (F : Fr h₀ L h' m) (N : News h₀ L h' all) (sub : ∀ p ∈ (I, oI) :: (C, oC) :: (D, oD) :: news, p ∈ all) (off : LCg.Off3 I C D news) (hS : S news) (r : R y) :
    LCg.CompEnd h₀ L m s₁ I oI C oC D oD S (fun y news' => MEl news R y news') y { s₁ with heap := h', toks := tk } := LCg.CompEnd.intro F N news sub off hS ⟨rfl, r⟩
theorem m_restJ {n : Nat} (J : Nat → List Value → List (Addr × Obj) → Prop) (hj : J 0 [] news)
    (turn : ∀ i v I oI C oC D m₂ ys news h tk (E' : Value → Shared → Prop), i < n → P i v → J i ys news → LCg.NsObj oC m₂ → m₂ x = some v → Fr h₀ L h m → News h₀ L h ((I, oI) :: (C, oC) :: (D, LCg.lst ys) :: news) → LCg.Off3 I C D news → ((@Ne Nat I C) ∧ (@Ne Nat I D) ∧ (@Ne Nat C D)) →
      wpAny (model prog w) A (eval elt (compEnvC scope cl C env)) (LCg.CompEnd h₀ L m { s with heap := h, toks := tk } I oI C oC D (LCg.lst ys) S (fun y news' => J (i + 1) (ys ++ [y]) news')) E' { s with heap := h, toks := tk })
    (fin : ∀ ys news, J n ys news → Fin ys news) : LCg.CompRest prog w A h₀ L m env elt x scope cl s S P Fin n 0 [] news := by
  have key : ∀ (j i : Nat) (ys : List Value) (news : List (Addr × Obj)), i + j = n → J i ys news → LCg.CompRest prog w A h₀ L m env elt x scope cl s S P Fin j i ys news := by
    intro j
    induction j with
    | zero =>
      intro i ys news hi hJ
      exact LCg.CompRest.zero (fin ys news ((show i = n from hi) ▸ hJ))
    | succ j ih =>
      intro i ys news hi hJ
      refine LCg.CompRest.succ ?_
      intro v I oI C oC D m₂ h tk E' hv hC hx F N off ne
      exact wpAny_mono (turn i v I oI C oC D m₂ ys news h tk E' (by omega) hv hJ hC hx F N off ne) (fun y s₂ hq => compEnd_imp hq fun nw hJ' => ih (i + 1) _ nw (by omega) hJ') fun _ _ e => e
  exact key n 0 [] news (by omega) hj
theorem m_rest {n : Nat} (R : Nat → Value → Prop)
    (turn : ∀ i v I oI C oC D m₂ ys h tk (E' : Value → Shared → Prop), i < n → P i v → LCg.NsObj oC m₂ → m₂ x = some v → Fr h₀ L h m → News h₀ L h ((I, oI) :: (C, oC) :: (D, LCg.lst ys) :: news) → LCg.Off3 I C D news → ((@Ne Nat I C) ∧ (@Ne Nat I D) ∧ (@Ne Nat C D)) →
      wpAny (model prog w) A (eval elt (compEnvC scope cl C env)) (LCg.CompEnd h₀ L m { s with heap := h, toks := tk } I oI C oC D (LCg.lst ys) S (fun y news' => MEl news (R i) y news')) E' { s with heap := h, toks := tk })
    (fin : ∀ ys, ys.length = n → (∀ i y, ys[i]? = some y → R i y) → Fin ys news) : LCg.CompRest prog w A h₀ L m env elt x scope cl s S P Fin n 0 [] news :=
  m_restJ (fun i ys nw => nw = news ∧ ys.length = i ∧ ∀ k y, ys[k]? = some y → R k y) ⟨rfl, rfl, fun _ _ h => nomatch h⟩
    (fun i v I oI C oC D m₂ ys nw h tk E' hi hv hJ hC hx F N off ne => by
      obtain ⟨rfl, hl, hy⟩ := hJ
      exact wpAny_mono (turn i v I oI C oC D m₂ ys h tk E' hi hv hC hx F N off ne) (fun y s₂ hq => compEnd_imp hq fun _ hq => ⟨hq.1, List.length_append.trans (congrArg (· + 1) hl), snoc_get hy (hl ▸ hq.2)⟩) fun _ _ e => e)
    fun ys nw hJ => hJ.1 ▸ fin ys hJ.2.1 hJ.2.2
theorem m_list {vs : List Value} {ns : List Int} (R : Int → Value → Prop) (hi : IntsAre vs ns)
    (turn : ∀ k t I oI C oC D m₂ ys h tk (E' : Value → Shared → Prop), k ∈ ns → LCg.NsObj oC m₂ → m₂ x = some (.int k t) → Fr h₀ L h m → News h₀ L h ((I, oI) :: (C, oC) :: (D, LCg.lst ys) :: news) → LCg.Off3 I C D news → ((@Ne Nat I C) ∧ (@Ne Nat I D) ∧ (@Ne Nat C D)) →
      wpAny (model prog w) A (eval elt (compEnvC scope cl C env)) (LCg.CompEnd h₀ L m { s with heap := h, toks := tk } I oI C oC D (LCg.lst ys) S (fun y news' => MEl news (R k) y news')) E' { s with heap := h, toks := tk })
    (fin : ∀ ys, F2 R ns ys → Fin ys news) : LCg.CompRest prog w A h₀ L m env elt x scope cl s S (fun i v => vs.toArray[i]? = some v) Fin vs.toArray.size 0 [] news := by
  refine m_rest (fun i y => ∃ k, ns[i]? = some k ∧ R k y) (fun i v I oI C oC D m₂ ys h tk E' _ hv hC hx F N off ne => ?_) (fun ys hl hy => fin ys ?_)
  · obtain ⟨k, t, rfl, hk⟩ := ints_get hi (by simpa using hv)
    exact wpAny_mono (turn k t I oI C oC D m₂ ys h tk E' (List.mem_of_getElem? hk) hC hx F N off ne) (fun y s₂ hq => compEnd_imp hq fun _ hq => ⟨hq.1, k, hk, hq.2⟩) fun _ _ e => e
  · rw [List.size_toArray] at hl
    exact f2_of ns ys (hl.trans hi.length) hy
end
abbrev boolR (g : Int → Bool) (k : Int) (y : Value) : Prop := y = .bool (g k)
theorem F2.bools {g : Int → Bool} {ns : List Int} {ys : List Value} (h : F2 (boolR g) ns ys) : LSm.BoolsAre ys (ns.map g) := by
  induction h with
  | nil => exact .nil
  | cons h _ ih => exact h ▸ .cons _ ih
local macro_rules | `(tactic| lsm_bools) => `(tactic| assumption)
theorem kw_21_5 : True := by
  k_with "CompEnd" => first | (k_here; k_dflt (refine ment (by k_asm) (by k_asm) (by lcg_sub) (by first | assumption | (simp only [LCg.Off3, and_true]; done) | (simp only [LCg.Off3, and_true]; assumption)) (by first | lcg_src | assumption) ?_)) | fail "no"
  trivial
def digitIn (ns : List Int) (z : Int) : Bool := ns.any fun c => decide (0 ≤ c - z) && decide (c - z < 10)
theorem size_ok {vs : List Value} {ns : List Int} (hi : IntsAre vs ns) (hn : ns.length ≤ 6) : vs.toArray.size ≤ sizeLine := by
  rw [List.size_toArray, hi.length, sizeLine_eq]; omega
set_option maxHeartbeats 4000000 in
theorem c_digit (w : World) (s : Shared) (l : Addr) (vs : List Value) (ns : List Int) (hl : s.heap.IsList l vs.toArray) (hi : IntsAre vs ns) (hn : ns.length ≤ 6) (z : Int) (t : Tok) : Callee w 270 [.ref l, .int z t] 2 s (Ext s fun v _ => v = .bool (digitIn ns z)) := by
  walk_at "mine enterC"
  walk_at "mine bodyC"
  walk_at "mine steps"
  walk_at "mine comp"
  refine LCg.CompSrc.base (by rfl) (by k_asm) (by k_asm) hl (size_ok hi hn) ?_
  intro g'
  refine m_list (boolR fun c => decide (0 ≤ c - z) && decide (c - z < 10)) hi ?_ ?_
  · intro k t I oI C oC D m₂ ys h tk E' hk hC hx F N off ne
    skip
    (try k_fold)
    walk_at "mine steps"
    · simp only [boolR, *, decide_true, Bool.true_and]
    · simp only [boolR, *, decide_false, Bool.false_and]
  · intro ys hys
    have hb := hys.bools
    (try k_fold)
    walk_at "mine steps"
    exact Ext.intro (Fr.keep (by k_asm)) rfl
section
variable {prog : Program} {w : World} {A : Around} {E : Value → Shared → Prop} {s : Shared} {K : Frag} {h₀ : Heap} {L t : Addr} {m : Str → Option Value} {od : Option Addr} {osl : Array (Option Value)} {items : Array Value} {n : Nat}
theorem in_ints_base {ns : List Int} {x : Int} {u : Tok} {Q : Value → Shared → Prop} (F : Fr h₀ L s.heap m) (X : K.In h₀) (ho : K.lookup t = some ⟨.type "tuple", od, .seq items n, osl⟩) (hi : IntsAre items.toList ns) (h : Q (.bool (ns.any (· == x))) s) : wpAny (model prog w) A (compareOp .In (.int x u) (.ref t)) Q E s :=
  in_tuple_ints ⟨_, F.keep _ _ (X _ _ ho), rfl, n, rfl⟩ hi h
theorem in_strs_base {ys : List Str} {x : Str} {u : Tok} {Q : Value → Shared → Prop} (F : Fr h₀ L s.heap m) (X : K.In h₀) (ho : K.lookup t = some ⟨.type "tuple", od, .seq items n, osl⟩) (hi : StrsAre items.toList ys) (h : Q (.bool (ys.any (· == x))) s) : wpAny (model prog w) A (compareOp .In (.str x u) (.ref t)) Q E s :=
  in_tuple_strs ⟨_, F.keep _ _ (X _ _ ho), rfl, n, rfl⟩ hi h
end
theorem kw_21_6 : True := by
  k_with "mine are" => first | (first | exact .nil | (apply IntsAre.cons; walk_at "mine are") | (apply StrsAre.cons; walk_at "mine are")) | fail "no"
  k_with "compareOp In int ref" => first | (k_here; (with_reducible show wpAny _ _ (compareOp CmpOp.In (Value.int _ _) (Value.ref _)) _ _ _); k_dflt (refine' in_ints_base (by k_asm) (by k_asm) (by k_is) (by walk_at "mine are") ?_; k_whole); (try simp only [List.any_cons, List.any_nil, Bool.or_false])) | fail "no"
  k_with "compareOp In str ref" => first | (k_here; (with_reducible show wpAny _ _ (compareOp CmpOp.In (Value.str _ _) (Value.ref _)) _ _ _); k_dflt (refine' in_strs_base (by k_asm) (by k_asm) (by k_is) (by walk_at "mine are") ?_; k_whole); (try simp only [List.any_cons, List.any_nil, Bool.or_false])) | fail "no"
  trivial
structure NoIfE : Prop where
  here : True
theorem kw_21_9 : True := by
  k_with "eval IfExp" => first | (k_here; (have nf9 : NoIfE := by assumption); refine frozen ?_) | fail "no"
  k_with "mine noife" => repeat (rename NoIfE => zz9; clear zz9)
  trivial
/-- what an expression with ways leaves -/
inductive ValIf (h₀ : Heap) (L : Addr) (m : Str → Option Value) (news : List (Addr × Obj)) (P : Value → Prop) (s : Shared) (v : Value) (s' : Shared) : Prop
  | mk : P v → ∀ h' tk nn, s' = { s with heap := h', toks := tk } → Fr h₀ L h' m → News h₀ L h' nn → (∀ p ∈ news, p ∈ nn) → ValIf h₀ L m news P s v s'
theorem valif {h₀ : Heap} {L : Addr} {m : Str → Option Value} {news : List (Addr × Obj)} {P : Value → Prop} {s : Shared} {v : Value} {h' : Heap} {tk : Nat} {nn : List (Addr × Obj)} (hP : P v) (F : Fr h₀ L h' m) (N : News h₀ L h' nn) (hs : ∀ p ∈ news, p ∈ nn) : ValIf h₀ L m news P s v { s with heap := h', toks := tk } := ⟨hP, h', tk, nn, rfl, F, N, hs⟩
theorem merge_val {M : Model} {A : Around} {t : Sem Value} {s : Shared} {h₀ : Heap} {L : Addr} {m : Str → Option Value} {news : List (Addr × Obj)} {Q : Value → Shared → Prop} {E : Value → Shared → Prop} (P : Value → Prop) (_ : Fr h₀ L s.heap m) (_ : News h₀ L s.heap news)
    (h : wpAny M A t (ValIf h₀ L m news P s) E s) (k : ∀ v h' tk, P v → Fr h₀ L h' m → News h₀ L h' news → Q v { s with heap := h', toks := tk }) : wpAny M A t Q E s :=
  wpAny_mono h (by rintro v _ ⟨hP, h', tk, nn, rfl, F', N', hs⟩; exact k v h' tk hP F' (news_less N' hs)) fun _ _ x => x

def kanaIn (ns : List Int) : Bool := ns.any fun o => [Str.ofString "Hira", Str.ofString "Kana", Str.ofString "Hani"].any (· == Str.ofString (scrOf o))
def compV (c : Int) (pa : Bool) (x : Int) (pb : Bool) (y : Int) (k d e : Bool) : Bool :=
  if c = 183 then pa && x == 108 && (pb && y == 108)
  else if c = 885 then pb && (Str.ofString (scrOf y) == Str.ofString "Grek")
  else if (1523 == c || 1524 == c) = true then pa && (Str.ofString (scrOf x) == Str.ofString "Hebr")
  else if c = 12539 then k
  else if 0 ≤ c - 1632 ∧ c - 1632 < 10 then !d
  else if 0 ≤ c - 1776 ∧ c - 1776 < 10 then !e
  else true
def company (ns : List Int) (a : Int) : Bool := compV (ns.getD a.toNat 0) (decide (0 < a)) (ns.getD (a - 1).toNat 0) (decide (a + 1 < ns.length)) (ns.getD (a + 1).toNat 0) (kanaIn ns) (digitIn ns 1776) (digitIn ns 1632)
section
variable {ns : List Int} {a : Int}
theorem cv1 (ha : 0 < a) (hb : a + 1 < ns.length) (h : (ns.getD a.toNat 0) = 183) (hx : (ns.getD (a - 1).toNat 0) = 108) : company ns a = (((ns.getD (a + 1).toNat 0) == 108)) := by
  unfold company
  generalize ns.getD a.toNat 0 = c at *
  generalize ns.getD (a - 1).toNat 0 = x at *
  generalize ns.getD (a + 1).toNat 0 = y at *
  simp [compV, *]
theorem cv2 (ha : 0 < a) (h : (ns.getD a.toNat 0) = 183) (hx : (ns.getD (a - 1).toNat 0) ≠ 108) : company ns a = (((ns.getD (a - 1).toNat 0) == 108)) := by
  unfold company
  generalize ns.getD a.toNat 0 = c at *
  generalize ns.getD (a - 1).toNat 0 = x at *
  generalize ns.getD (a + 1).toNat 0 = y at *
  simp [compV, *]
theorem cv3 (ha : ¬ 0 < a) (h : (ns.getD a.toNat 0) = 183) : company ns a = (false) := by
  unfold company
  generalize ns.getD a.toNat 0 = c at *
  generalize ns.getD (a - 1).toNat 0 = x at *
  generalize ns.getD (a + 1).toNat 0 = y at *
  simp [compV, *]
theorem cv4 (hb : ¬ a + 1 < ns.length) (h : (ns.getD a.toNat 0) = 183) : company ns a = (false) := by
  unfold company
  generalize ns.getD a.toNat 0 = c at *
  generalize ns.getD (a - 1).toNat 0 = x at *
  generalize ns.getD (a + 1).toNat 0 = y at *
  simp [compV, *]
theorem cv5 (hb : a + 1 < ns.length) (h1 : (ns.getD a.toNat 0) ≠ 183) (h : (ns.getD a.toNat 0) = 885) : company ns a = ((Str.ofString (scrOf (ns.getD (a + 1).toNat 0)) == Str.ofString "Grek")) := by
  unfold company
  generalize ns.getD a.toNat 0 = c at *
  generalize ns.getD (a - 1).toNat 0 = x at *
  generalize ns.getD (a + 1).toNat 0 = y at *
  simp [compV, *]
theorem cv6 (hb : ¬ a + 1 < ns.length) (h1 : (ns.getD a.toNat 0) ≠ 183) (h : (ns.getD a.toNat 0) = 885) : company ns a = (false) := by
  unfold company
  generalize ns.getD a.toNat 0 = c at *
  generalize ns.getD (a - 1).toNat 0 = x at *
  generalize ns.getD (a + 1).toNat 0 = y at *
  simp [compV, *]
theorem cv7 (ha : 0 < a) (h1 : (ns.getD a.toNat 0) ≠ 183) (h2 : (ns.getD a.toNat 0) ≠ 885) (h : (1523 == (ns.getD a.toNat 0) || 1524 == (ns.getD a.toNat 0)) = true) : company ns a = ((Str.ofString (scrOf (ns.getD (a - 1).toNat 0)) == Str.ofString "Hebr")) := by
  unfold company
  generalize ns.getD a.toNat 0 = c at *
  generalize ns.getD (a - 1).toNat 0 = x at *
  generalize ns.getD (a + 1).toNat 0 = y at *
  simp [compV, *]
theorem cv8 (ha : ¬ 0 < a) (h1 : (ns.getD a.toNat 0) ≠ 183) (h2 : (ns.getD a.toNat 0) ≠ 885) (h : (1523 == (ns.getD a.toNat 0) || 1524 == (ns.getD a.toNat 0)) = true) : company ns a = (false) := by
  unfold company
  generalize ns.getD a.toNat 0 = c at *
  generalize ns.getD (a - 1).toNat 0 = x at *
  generalize ns.getD (a + 1).toNat 0 = y at *
  simp [compV, *]
theorem cv9 (h1 : (ns.getD a.toNat 0) ≠ 183) (h2 : (ns.getD a.toNat 0) ≠ 885) (h3 : (1523 == (ns.getD a.toNat 0) || 1524 == (ns.getD a.toNat 0)) = false) (h : (ns.getD a.toNat 0) = 12539) : company ns a = (kanaIn ns) := by
  unfold company
  generalize ns.getD a.toNat 0 = c at *
  generalize ns.getD (a - 1).toNat 0 = x at *
  generalize ns.getD (a + 1).toNat 0 = y at *
  simp [compV, *]
theorem cv10 (h1 : (ns.getD a.toNat 0) ≠ 183) (h2 : (ns.getD a.toNat 0) ≠ 885) (h3 : (1523 == (ns.getD a.toNat 0) || 1524 == (ns.getD a.toNat 0)) = false) (h4 : (ns.getD a.toNat 0) ≠ 12539) (h5 : 0 ≤ (ns.getD a.toNat 0) - 1632) (h6 : (ns.getD a.toNat 0) - 1632 < 10) : company ns a = (!digitIn ns 1776) := by
  unfold company
  generalize ns.getD a.toNat 0 = c at *
  generalize ns.getD (a - 1).toNat 0 = x at *
  generalize ns.getD (a + 1).toNat 0 = y at *
  simp only [compV, if_neg h1, if_neg h2, h3, if_neg h4, Bool.false_eq_true, if_false]
  rw [if_pos ⟨h5, h6⟩]
theorem cv11 (h1 : (ns.getD a.toNat 0) ≠ 183) (h2 : (ns.getD a.toNat 0) ≠ 885) (h3 : (1523 == (ns.getD a.toNat 0) || 1524 == (ns.getD a.toNat 0)) = false) (h4 : (ns.getD a.toNat 0) ≠ 12539) (h5 : ¬ (0 ≤ (ns.getD a.toNat 0) - 1632 ∧ (ns.getD a.toNat 0) - 1632 < 10)) (h7 : 0 ≤ (ns.getD a.toNat 0) - 1776) (h8 : (ns.getD a.toNat 0) - 1776 < 10) : company ns a = (!digitIn ns 1632) := by
  unfold company
  generalize ns.getD a.toNat 0 = c at *
  generalize ns.getD (a - 1).toNat 0 = x at *
  generalize ns.getD (a + 1).toNat 0 = y at *
  simp only [compV, if_neg h1, if_neg h2, h3, if_neg h4, Bool.false_eq_true, if_false]
  rw [if_neg h5, if_pos ⟨h7, h8⟩]
theorem cv12 (h1 : (ns.getD a.toNat 0) ≠ 183) (h2 : (ns.getD a.toNat 0) ≠ 885) (h3 : (1523 == (ns.getD a.toNat 0) || 1524 == (ns.getD a.toNat 0)) = false) (h4 : (ns.getD a.toNat 0) ≠ 12539) (h5 : ¬ (0 ≤ (ns.getD a.toNat 0) - 1632 ∧ (ns.getD a.toNat 0) - 1632 < 10)) (h7 : ¬ (0 ≤ (ns.getD a.toNat 0) - 1776 ∧ (ns.getD a.toNat 0) - 1776 < 10)) : company ns a = (true) := by
  unfold company
  generalize ns.getD a.toNat 0 = c at *
  generalize ns.getD (a - 1).toNat 0 = x at *
  generalize ns.getD (a + 1).toNat 0 = y at *
  simp only [compV, if_neg h1, if_neg h2, h3, if_neg h4, Bool.false_eq_true, if_false]
  rw [if_neg h5, if_neg h7]
end
/-- a label of the law's codes -/
structure Lab (h : Heap) (l : Addr) (vs : List Value) (ns : List Int) : Prop where
  list : h.IsList l vs.toArray
  nums : IntsAre vs ns
  len : ns.length ≤ 6
  pos : 0 < ns.length
  codes : ∀ c ∈ ns, c ∈ lawCodes
theorem lab_at {h : Heap} {l : Addr} {vs : List Value} {ns : List Int} (B : Lab h l vs ns) {a : Int} (h0 : 0 ≤ a) (h1 : a < ns.length) : ns.getD a.toNat 0 ∈ lawCodes := by
  have hl : a.toNat < ns.length := by omega
  rw [List.getD_eq_getElem?_getD, List.getElem?_eq_getElem hl]
  exact B.codes _ (List.getElem_mem hl)
theorem len_size {vs : List Value} {ns : List Int} (hi : IntsAre vs ns) : vs.toArray.size = ns.length := by rw [List.size_toArray, hi.length]
theorem kw_22_1 : True := by
  k_with "mine company" => first | ((all_goals try dsimp only); (all_goals try (refine Ext.intro (Fr.keep (by assumption)) ?_; (show Value.bool _ = Value.bool _); (refine congrArg Value.bool (Eq.symm ?_)); first | exact cv1 (by assumption) (by assumption) (by assumption) (by assumption) | exact cv2 (by assumption) (by assumption) (by assumption) | exact cv3 (by assumption) (by assumption) | exact cv4 (by assumption) (by assumption) | exact cv5 (by assumption) (by assumption) (by assumption) | exact cv6 (by assumption) (by assumption) (by assumption) | exact cv7 (by assumption) (by assumption) (by assumption) (by assumption) | exact cv8 (by assumption) (by assumption) (by assumption) (by assumption) | exact cv10 (by assumption) (by assumption) (by assumption) (by assumption) (by assumption) (by assumption) | exact cv11 (by assumption) (by assumption) (by assumption) (by assumption) (by omega) (by omega) (by omega) | exact cv12 (by assumption) (by assumption) (by assumption) (by assumption) (by omega) (by omega)))) | fail "no"
  trivial
abbrev AheadV (ns : List Int) (a : Int) (v : Value) : Prop := (0 < a ∧ ∃ t, v = .int (ns.getD (a - 1).toNat 0) t) ∨ (¬ 0 < a ∧ v = .none)
abbrev BehindV (ns : List Int) (a : Int) (v : Value) : Prop := (a + 1 < ns.length ∧ ∃ t, v = .int (ns.getD (a + 1).toNat 0) t) ∨ (¬ a + 1 < ns.length ∧ v = .none)
set_option maxHeartbeats 16000000 in
theorem c_company (w : World) (s : Shared) (S : DSt) (D : LawD w s.heap S) (l : Addr) (vs : List Value) (ns : List Int) (B : Lab s.heap l vs ns) (a : Int) (t : Tok) (ha : 0 ≤ a) (hb : a < ns.length) :
    Callee w 275 [.ref l, .int a t, .ref S.d] 5 s (Ext s fun v _ => v = .bool (company ns a)) := by
  have tg_c_company : True := trivial
  have ne9 : NoIfE := ⟨trivial⟩
  have m0 := lab_at B (by omega : 0 ≤ a) (by omega)
  have hl := B.list
  have hi := B.nums
  have hn := B.len
  have hcs := B.codes
  have hsz : (vs.length : Int) = ns.length := by rw [hi.length]
  k_with "getMethod ref" => ((fail_if_success (fail_if_success (clear tg_c_company))); k_dflt (refine data_meth D (Fr.keep (by k_asm)) (by k_asm) (by k_asm) rfl ?_))
  walk_at "mine enterC"
  walk_at "mine bodyC"
  k_with "call ref" => ((fail_if_success (fail_if_success (clear tg_c_company))); first | (k_dflt (first
    | (refine Callee.ext (c_sc w _ S (D.keeps (Fr.keep (by k_asm))) (by assumption) _ _) (by k_asm) (by k_asm) (by k_asm) (by k_asm) (by k_asm) (by first | exact rfl | assumption) (by walk_at "mine room") (by walk_at "mine room") ?_; rintro v' h' tk' F' N' - ⟨t', rfl⟩)
    | (refine Callee.ext (c_digit w _ l vs ns (isList_fr (by k_asm) hl) hi hn _ _) (by k_asm) (by k_asm) (by k_asm) (by k_asm) (by k_asm) (by first | exact rfl | assumption) (by walk_at "mine room") (by walk_at "mine room") ?_; rintro v' h' tk' F' N' - rfl))) | fail "no")
  walk_at "mine steps"
  refine Frozen.mk ?_
  refine merge_val (AheadV ns a) (by k_asm) (by k_asm) ?_ ?_
  · walk_at "mine noife"
    walk_at "mine steps"
    · exact valif (.inl ⟨by assumption, _, rfl⟩) (by k_asm) (by k_asm) (by walk_at "mine sub")
    · exact valif (.inr ⟨by assumption, rfl⟩) (by k_asm) (by k_asm) (by walk_at "mine sub")
  intro v1 h1 tk1 P1 F1 N1
  (try k_fold)
  walk_at "mine steps"
  refine Frozen.mk ?_
  refine merge_val (BehindV ns a) (by k_asm) (by k_asm) ?_ ?_
  · walk_at "mine noife"
    walk_at "mine steps"
    · exact valif (.inl ⟨by assumption, _, rfl⟩) (by k_asm) (by k_asm) (by walk_at "mine sub")
    · exact valif (.inr ⟨by assumption, rfl⟩) (by k_asm) (by k_asm) (by walk_at "mine sub")
  intro v2 h2 tk2 P2 F2 N2
  walk_at "mine noife"
  (try k_fold)
  walk_at "mine steps"
  · rcases P1 with ⟨h0, t1, rfl⟩ | ⟨h0, rfl⟩ <;> rcases P2 with ⟨h1, t2, rfl⟩ | ⟨h1, rfl⟩
    all_goals
      walk_at "mine steps"
      walk_at "mine company"
  · rcases P2 with ⟨h1, t2, rfl⟩ | ⟨h1, rfl⟩
    · have m2 := lab_at B (by omega : 0 ≤ a + 1) (by omega)
      walk_at "mine steps"
      walk_at "mine company"
    · walk_at "mine steps"
      walk_at "mine company"
  · rcases P1 with ⟨h0, t1, rfl⟩ | ⟨h0, rfl⟩
    · have m1 := lab_at B (by omega : 0 ≤ a - 1) (by omega)
      walk_at "mine steps"
      walk_at "mine company"
    · walk_at "mine steps"
      walk_at "mine company"
  · walk_at "mine comp"
    refine LCg.CompSrc.base (by rfl) (by k_asm) (by k_asm) hl (size_ok hi hn) ?_
    intro g'
    refine m_list (boolR fun o => [Str.ofString "Hira", Str.ofString "Kana", Str.ofString "Hani"].any (· == Str.ofString (scrOf o))) hi ?_ ?_
    · intro k t2 I oI C oC Dd m₂ ys h tk2 E' hk hC hx F2 N2 off ne
      skip
      have mk := hcs k hk
      (try k_fold)
      walk_at "mine gen"
      walk_at "mine steps"
      simp [boolR]
    · intro ys hys
      have hb := hys.bools
      (try k_fold)
      walk_at "mine steps"
      exact Ext.intro (Fr.keep (by assumption)) (congrArg Value.bool (Eq.symm ((cv9 (by assumption) (by assumption) (by assumption) (by assumption)).trans (by simp [kanaIn]))))
  all_goals walk_at "mine company"

section
open LCg LCt
variable {prog : Program} {w : World} {A : Around} {h₀ : Heap} {L : Addr} {m : Str → Option Value} {env : Env} {ct elt : Expr} {x : Str} {scope : Scope} {cl : List (Str × Addr)} {s : Shared} {S : List (Addr × Obj) → Prop} {P : Nat → Value → Prop} {Fin : List Value → List (Addr × Obj) → Prop} {news : List (Addr × Obj)}
/-- a comprehension with a test, over ints -/
theorem m_listT {vs : List Value} {ns : List Int} (T : Int → Bool) (R : Int → Value → Prop) (hi : IntsAre vs ns)
    (turn : ∀ k t I oI C oC D m₂ ys h tk (E' : Value → Shared → Prop), k ∈ ns → LCg.NsObj oC m₂ → m₂ x = some (.int k t) → Fr h₀ L h m → News h₀ L h ((I, oI) :: (C, oC) :: (D, LCg.lst ys) :: news) → LCg.Off3 I C D news → ((@Ne Nat I C) ∧ (@Ne Nat I D) ∧ (@Ne Nat C D)) →
      wpAny (model prog w) A (isTrue ct (compEnvC scope cl C env) (eval ct (compEnvC scope cl C env))) (fun ok s' => if ok = true then
        wpAny (model prog w) A (eval elt (compEnvC scope cl C env)) (LCg.CompEnd h₀ L m { s with heap := h, toks := tk } I oI C oC D (LCg.lst ys) S (fun y news' => MEl news (fun y => T k = true ∧ R k y) y news')) E' s'
        else LCg.CompEnd h₀ L m { s with heap := h, toks := tk } I oI C oC D (LCg.lst ys) S (fun y news' => MEl news (fun _ => T k = false) y news') Value.none s') E' { s with heap := h, toks := tk })
    (fin : ∀ ys, F2 R (ns.filter T) ys → Fin ys news) : CompRestT prog w A h₀ L m env ct elt x scope cl s S (fun i v => vs.toArray[i]? = some v) Fin vs.toArray.size 0 [] news := by
  have hlen : vs.toArray.size = ns.length := len_size' hi
  have key : ∀ (j i : Nat) (ys : List Value), i + j = ns.length → F2 R ((ns.take i).filter T) ys → CompRestT prog w A h₀ L m env ct elt x scope cl s S (fun i v => vs.toArray[i]? = some v) Fin j i ys news := by
    intro j
    induction j with
    | zero =>
      intro i ys hi' hy
      have e : i = ns.length := by omega
      subst e
      rw [List.take_length] at hy
      exact CompRestT.zero (fin ys hy)
    | succ j ih =>
      intro i ys hi' hy
      refine CompRestT.succ ?_
      intro v I oI C oC D m₂ h tk E' hv hC hx F N off ne
      obtain ⟨k, t, rfl, hk⟩ := ints_get hi (by simpa using hv)
      have et : (ns.take (i + 1)).filter T = (ns.take i).filter T ++ [k].filter T := by rw [List.take_add_one, hk, List.filter_append]; rfl
      refine wpAny_mono (turn k t I oI C oC D m₂ ys h tk E' (List.mem_of_getElem? hk) hC hx F N off ne) (fun ok s₂ hq => ?_) fun _ _ e => e
      by_cases ho : ok = true
      · rw [if_pos ho] at hq ⊢
        exact wpAny_mono hq (fun y s₃ hq => compEnd_imp hq fun nw hq => hq.1 ▸ ih (i + 1) _ (by omega) (et ▸ List.filter_cons_of_pos hq.2.1 ▸ F2.append hy (.cons hq.2.2 .nil))) fun _ _ e => e
      · rw [if_neg ho] at hq ⊢
        exact compEnd_imp hq fun nw hq => hq.1 ▸ ih (i + 1) _ (by omega) (et ▸ List.filter_cons_of_neg (a := k) (l := []) (show ¬ T k = true by rw [hq.2]; decide) ▸ (List.append_nil _).symm ▸ hy)
  rw [hlen]
  exact key ns.length 0 [] (by omega) .nil
end
theorem F2.ints {T : Int → Bool} {ns : List Int} {ys : List Value} (h : F2 (fun k y => ∃ t, y = .int k t) ns ys) : IntsAre ys ns := by
  induction h with
  | nil => exact .nil
  | cons h _ ih => exact h.elim fun t e => e ▸ .cons _ t ih
section
variable {w : World} {A : Around} {E : Value → Shared → Prop} {s : Shared} {d : Addr} {kvs : List (Int × Value)} {x : Int} {t : Tok}
theorem get_methI {pl : Sem Bool} {Q : Value × List Value → Shared → Prop} (hm : s.heap.DictOf (intKind PR w) d kvs) (h : Q (.builtin "dict.get", [.ref d]) s) : wpAny (model PR w) A (getMethod (.ref d) "get" pl) Q E s :=
  getMethod_builtin hm.typeIs PySem.F.plainAttrs_dict PySem.F.slot_dict_get PySem.F.type_dict_get hm.mapOf.noDict h
theorem get_int1 {Q : Value → Shared → Prop} (hm : s.heap.DictOf (intKind PR w) d kvs) (lo : (d == sysModules) = false) {v : Value} (hv : (valueAt kvs x).getD .none = v) (h : Q v { s with toks := s.toks + 1 }) : wpAny (model PR w) A (call (.builtin "dict.get") [.ref d, .int x t]) Q E s :=
  call_meetsIn PySem.F.slot_dict_get hm.typeIs PySem.F.entry_dict_get (PySem.F.args_dict_get_2 _ _) (meets_dict_get (intKind PR w) d (intKind_is PR w x t) lo) ⟨_, hm.mapOf, by rw [hv]; exact h⟩
theorem get_int2 {Q : Value → Shared → Prop} {dv : Value} (hm : s.heap.DictOf (intKind PR w) d kvs) (lo : (d == sysModules) = false) {v : Value} (hv : (valueAt kvs x).getD dv = v) (h : Q v { s with toks := s.toks + 1 }) : wpAny (model PR w) A (call (.builtin "dict.get") [.ref d, .int x t, dv]) Q E s :=
  call_meetsIn PySem.F.slot_dict_get hm.typeIs PySem.F.entry_dict_get (PySem.F.args_dict_get_3 _ _ _) (meets_dict_get_default (intKind PR w) d (intKind_is PR w x t) lo dv) ⟨_, hm.mapOf, by rw [hv]; exact h⟩
theorem scr_at (hK : scrK kvs) (x : Int) : (∃ t, valueAt kvs x = some (.str (Str.ofString (scrOf x)) t)) ∨ (valueAt kvs x = none ∧ scrOf x = "Zzzz") := by
  obtain ⟨t1, t2, t3, t4, t5, rfl⟩ := hK
  by_cases h1 : x = 945
  · subst h1; exact .inl ⟨_, rfl⟩
  by_cases h2 : x = 1488
  · subst h2; exact .inl ⟨_, rfl⟩
  by_cases h3 : x = 12354
  · subst h3; exact .inl ⟨_, rfl⟩
  by_cases h4 : x = 19968
  · subst h4; exact .inl ⟨_, rfl⟩
  by_cases h5 : x = 12450
  · subst h5; exact .inl ⟨_, rfl⟩
  refine .inr ⟨?_, by simp [scrOf, *]⟩
  simp only [valueAt, List.find?_cons, List.find?_nil, decide_eq_false (Ne.symm h1), decide_eq_false (Ne.symm h2), decide_eq_false (Ne.symm h3), decide_eq_false (Ne.symm h4), decide_eq_false (Ne.symm h5)]
  rfl
theorem joi_at (hK : joiK kvs) (x : Int) (hx : x ≠ 1600) : (∃ t, valueAt kvs x = some (.str (Str.ofString (jtOf x)) t)) ∨ (valueAt kvs x = none ∧ jtOf x = "U") := by
  obtain ⟨t1, t2, t3, t4, rfl⟩ := hK
  by_cases h1 : x = 1576
  · subst h1; exact .inl ⟨_, rfl⟩
  by_cases h2 : x = 1583
  · subst h2; exact .inl ⟨_, rfl⟩
  by_cases h3 : x = 1611
  · subst h3; exact .inl ⟨_, rfl⟩
  refine .inr ⟨?_, by simp [jtOf, *]⟩
  simp only [valueAt, List.find?_cons, List.find?_nil, decide_eq_false (Ne.symm h1), decide_eq_false (Ne.symm h2), decide_eq_false (Ne.symm h3), decide_eq_false (Ne.symm hx)]
  rfl
theorem get_scr {Q : Value → Shared → Prop} (hm : s.heap.DictOf (intKind PR w) d kvs) (lo : (d == sysModules) = false) (hK : scrK kvs) (h1 : ∀ t, Q (.str (Str.ofString (scrOf x)) t) { s with toks := s.toks + 1 }) (h2 : scrOf x = "Zzzz" → Q .none { s with toks := s.toks + 1 }) : wpAny (model PR w) A (call (.builtin "dict.get") [.ref d, .int x t]) Q E s := by
  rcases scr_at hK x with ⟨t', e⟩ | ⟨e, e'⟩
  · exact get_int1 hm lo rfl (by rw [e]; exact h1 t')
  · exact get_int1 hm lo rfl (by rw [e]; exact h2 e')
theorem get_joi {Q : Value → Shared → Prop} (hm : s.heap.DictOf (intKind PR w) d kvs) (lo : (d == sysModules) = false) (hK : joiK kvs) (hx : x ≠ 1600) (h1 : ∀ t, Q (.str (Str.ofString (jtOf x)) t) { s with toks := s.toks + 1 }) (h2 : jtOf x = "U" → Q .none { s with toks := s.toks + 1 }) : wpAny (model PR w) A (call (.builtin "dict.get") [.ref d, .int x t]) Q E s := by
  rcases joi_at hK x hx with ⟨t', e⟩ | ⟨e, e'⟩
  · exact get_int1 hm lo rfl (by rw [e]; exact h1 t')
  · exact get_int1 hm lo rfl (by rw [e]; exact h2 e')
theorem get_joi2 {Q : Value → Shared → Prop} {u : Tok} (hm : s.heap.DictOf (intKind PR w) d kvs) (lo : (d == sysModules) = false) (hK : joiK kvs) (hx : x ≠ 1600) (h1 : ∀ t, Q (.str (Str.ofString (jtOf x)) t) { s with toks := s.toks + 1 }) : wpAny (model PR w) A (call (.builtin "dict.get") [.ref d, .int x t, .str (Str.ofString "U") u]) Q E s := by
  rcases joi_at hK x hx with ⟨t', e⟩ | ⟨e, e'⟩
  · exact get_int2 hm lo rfl (by rw [e]; exact h1 t')
  · exact get_int2 hm lo rfl (by rw [e]; have := h1 u; rw [e'] at this; exact this)
theorem in_none_strs {prog : Program} {t : Addr} {items : Array Value} {ys : List Str} {Q : Value → Shared → Prop} (ht : IsTup s.heap t items) (hi : StrsAre items.toList ys) (h : Q (.bool false) s) : wpAny (model prog w) A (compareOp .In .none (.ref t)) Q E s := by
  obtain ⟨o, h1, h2, n, h3⟩ := ht
  refine SeqAt.in_tupleAt (fun _ => false) ⟨o, h1, h2, n, h3⟩ (fun y hy => ?_) (by rw [Array.any_eq_false.mpr (fun _ _ => by simp)]; exact h)
  have hy : y ∈ items.toList := by simpa using hy
  clear h1 h3 h
  generalize items.toList = l at hi hy
  induction hi with
  | nil => cases hy
  | cons x t _ ih =>
    rcases List.mem_cons.mp hy with rfl | hy
    · exact SeqAt.EqAt.str_none _ _
    · exact ih hy
end
theorem kw_23_1 : True := by
  k_with "call ref" => first | (k_here; (with_reducible show wpAny _ _ (call (Value.ref 414) _) _ _ _); k_dflt (refine dict_use (c_scripts _ _) (by k_asm) (by k_asm) (by k_asm) (by k_asm) (by k_asm) (by first | exact rfl | assumption) (by walk_at "mine room") (by walk_at "mine room") ?_); rintro h'_k tk'_k T'_k kvs'_k F'_k N'_k - dT'_k - - loT'_k hK'_k) | fail "no"
  k_with "call ref" => first | (k_here; (with_reducible show wpAny _ _ (call (Value.ref 421) _) _ _ _); k_dflt (refine dict_use (c_joins _ _) (by k_asm) (by k_asm) (by k_asm) (by k_asm) (by k_asm) (by first | exact rfl | assumption) (by walk_at "mine room") (by walk_at "mine room") ?_); rintro h'_k tk'_k T'_k kvs'_k F'_k N'_k - dT'_k - - loT'_k hK'_k) | fail "no"
  k_with "getMethod ref" => first | (k_here; (with_reducible show wpAny _ _ (getMethod (Value.ref _) "get" _) _ _ _); k_dflt (refine' get_methI (by assumption) ?_; k_whole)) | fail "no"
  k_with "call builtin:dict.get" => first | (k_here; k_dflt (first | (refine' get_scr (by assumption) (by assumption) (by assumption) ?_ ?_) | (refine' get_joi (by assumption) (by assumption) (by assumption) (by assumption) ?_ ?_) | (refine' get_joi2 (by assumption) (by assumption) (by assumption) (by assumption) ?_)); (all_goals intro t'_k)) | fail "no"
  k_with "compareOp In" => first | (k_here; (with_reducible show wpAny _ _ (compareOp CmpOp.In Value.none (Value.ref _)) _ _ _); k_dflt (refine' in_none_strs (by exact News.isTup (by k_asm) (by k_mem)) (by walk_at "mine are") ?_; k_whole)) | fail "no"
  trivial
def aheadL (ns : List Int) (a : Int) : List Int := List.drop ((List.take a.toNat ns).length - 1) (List.take a.toNat ns)
def behindL (ns : List Int) (a : Int) : List Int := List.take (min (a + 2).toNat ns.length - (a + 1).toNat) (List.drop (a + 1).toNat ns)
theorem one_at {ns : List Int} {k : Nat} (hk : k < ns.length) : (ns.drop k).take 1 = [ns.getD k 0] := by
  rw [List.drop_eq_getElem_cons hk, List.getD_eq_getElem?_getD, List.getElem?_eq_getElem hk]
  rfl
theorem behind_yes {ns : List Int} {a : Int} (ha : 0 ≤ a) (hb : a + 1 < ns.length) : behindL ns a = [ns.getD (a + 1).toNat 0] := by
  obtain ⟨k, rfl⟩ := Int.eq_ofNat_of_zero_le ha
  have hk : k + 1 < ns.length := Int.ofNat_lt.mp hb
  have e : min (k + 2) ns.length - (k + 1) = 1 := (congrArg (· - (k + 1)) (Nat.min_eq_left hk)).trans (Nat.add_sub_cancel_left (k + 1) 1)
  show List.take (min (k + 2) ns.length - (k + 1)) (List.drop (k + 1) ns) = _
  rw [e]
  exact one_at hk
theorem behind_no {ns : List Int} {a : Int} (hb : ¬ a + 1 < ns.length) : behindL ns a = [] := by
  unfold behindL
  rw [List.drop_eq_nil_of_le (by omega), List.take_nil]
theorem ahead_yes {ns : List Int} {a : Int} (ha : 0 < a) (hb : a < ns.length) : aheadL ns a = [ns.getD (a - 1).toNat 0] := by
  obtain ⟨k, rfl⟩ := Int.eq_succ_of_zero_lt ha
  have hk : k + 1 ≤ ns.length := Nat.le_of_lt (Int.ofNat_lt.mp hb)
  have e : (((k + 1 : Nat) : Int) - 1) = k := Int.add_sub_cancel k 1
  have e2 : (List.take (k + 1) ns).length - 1 = k := congrArg (· - 1) (List.length_take.trans (Nat.min_eq_left hk))
  show aheadL ns _ = [ns.getD (((k + 1 : Nat) : Int) - 1).toNat 0]
  rw [e]
  show List.drop ((List.take (k + 1) ns).length - 1) (List.take (k + 1) ns) = [ns.getD k 0]
  rw [e2, List.drop_take, Nat.add_sub_cancel_left]
  exact one_at hk
theorem ahead_no {ns : List Int} {a : Int} (ha : ¬ 0 < a) : aheadL ns a = [] := by
  have e : a.toNat = 0 := Int.toNat_eq_zero.mpr (Int.not_lt.mp ha)
  unfold aheadL
  rw [e]
  rfl
theorem fil_one {T : Int → Bool} {x : Int} : (!decide (List.filter T [x] = [])) = T x := by
  cases h : T x <;> simp [List.filter, h]
theorem fil_any {T : Int → Bool} {ns : List Int} : decide (List.filter T ns = []) = !ns.any T := by
  induction ns with
  | nil => rfl
  | cons x r ih =>
    rw [List.any_cons, Bool.not_or]
    cases h : T x
    · rw [List.filter_cons_of_neg (by rw [h]; decide), ih]; rfl
    · rw [List.filter_cons_of_pos h]; simp
section
variable {ns : List Int} {a : Int} (ha : 0 ≤ a) (hb : a < ns.length)
include ha hb
theorem lv1 (h : ns.getD a.toNat 0 = 183) (hx : aheadL ns a = [108]) : company ns a = decide (behindL ns a = [108]) := by
  have h0 : 0 < a := Decidable.byContradiction fun z => by rw [ahead_no z] at hx; cases hx
  rw [ahead_yes h0 hb] at hx
  have hx : ns.getD (a - 1).toNat 0 = 108 := by simpa using hx
  by_cases h1 : a + 1 < ns.length
  · rw [cv1 h0 h1 h hx, behind_yes ha h1]
    simp only [List.cons.injEq, and_true]
    rfl
  · rw [cv4 h1 h, behind_no h1]; rfl
theorem lv2 (h : ns.getD a.toNat 0 = 183) (hx : ¬ aheadL ns a = [108]) : company ns a = decide (aheadL ns a = [108]) := by
  rw [decide_eq_false hx]
  by_cases h0 : 0 < a
  · rw [ahead_yes h0 hb] at hx
    have hx : ns.getD (a - 1).toNat 0 ≠ 108 := by simpa using hx
    rw [cv2 h0 h hx]
    exact beq_eq_false_iff_ne.mpr hx
  · exact cv3 h0 h
theorem lv5 (h1 : ns.getD a.toNat 0 ≠ 183) (h : ns.getD a.toNat 0 = 885) : company ns a = !decide (List.filter (fun k => Str.ofString (scrOf k) == Str.ofString "Grek") (behindL ns a) = []) := by
  by_cases h2 : a + 1 < ns.length
  · rw [cv5 h2 h1 h, behind_yes ha h2, fil_one]
  · rw [cv6 h2 h1 h, behind_no h2]; rfl
theorem lv7 (h1 : ns.getD a.toNat 0 ≠ 183) (h2 : ns.getD a.toNat 0 ≠ 885) (h : ([1523, 1524].any fun x => x == ns.getD a.toNat 0) = true) : company ns a = !decide (List.filter (fun k => Str.ofString (scrOf k) == Str.ofString "Hebr") (aheadL ns a) = []) := by
  have h' : (1523 == ns.getD a.toNat 0 || 1524 == ns.getD a.toNat 0) = true := by simpa only [List.any_cons, List.any_nil, Bool.or_false] using h
  by_cases h3 : 0 < a
  · rw [cv7 h3 h1 h2 h', ahead_yes h3 hb, fil_one]
  · rw [cv8 h3 h1 h2 h', ahead_no h3]; rfl
omit ha hb
theorem lv9 (h1 : ns.getD a.toNat 0 ≠ 183) (h2 : ns.getD a.toNat 0 ≠ 885) (h3 : ([1523, 1524].any fun x => x == ns.getD a.toNat 0) = false) (h : ns.getD a.toNat 0 = 12539) : company ns a = !decide (List.filter (fun o => [Str.ofString "Hira", Str.ofString "Kana", Str.ofString "Hani"].any (· == Str.ofString (scrOf o))) ns = []) := by
  rw [cv9 h1 h2 (by simpa only [List.any_cons, List.any_nil, Bool.or_false] using h3) h, fil_any, Bool.not_not]
  rfl
theorem digit_fil {z : Int} : (!digitIn ns z) = decide (List.filter (fun k => decide (z ≤ k) && decide (k ≤ z + 9)) ns = []) := by
  rw [fil_any]
  unfold digitIn
  congr 1
  congr 1
  funext c
  congr 1 <;> exact decide_eq_decide.mpr (by omega)
theorem lv10 (h1 : ns.getD a.toNat 0 ≠ 183) (h2 : ns.getD a.toNat 0 ≠ 885) (h3 : ([1523, 1524].any fun x => x == ns.getD a.toNat 0) = false) (h4 : ns.getD a.toNat 0 ≠ 12539) (h5 : 1632 ≤ ns.getD a.toNat 0) (h6 : ns.getD a.toNat 0 ≤ 1641) : company ns a = decide (List.filter (fun k => decide (1776 ≤ k) && decide (k ≤ 1785)) ns = []) := by
  rw [cv10 h1 h2 (by simpa only [List.any_cons, List.any_nil, Bool.or_false] using h3) h4 (by omega) (by omega), digit_fil]
  rfl
theorem lv11 (h1 : ns.getD a.toNat 0 ≠ 183) (h2 : ns.getD a.toNat 0 ≠ 885) (h3 : ([1523, 1524].any fun x => x == ns.getD a.toNat 0) = false) (h4 : ns.getD a.toNat 0 ≠ 12539) (h5 : 1776 ≤ ns.getD a.toNat 0) (h6 : ns.getD a.toNat 0 ≤ 1785) : company ns a = decide (List.filter (fun k => decide (1632 ≤ k) && decide (k ≤ 1641)) ns = []) := by
  rw [cv11 h1 h2 (by simpa only [List.any_cons, List.any_nil, Bool.or_false] using h3) h4 (by omega) (by omega) (by omega), digit_fil]
  rfl
theorem lv12 (h1 : ns.getD a.toNat 0 ≠ 183) (h2 : ns.getD a.toNat 0 ≠ 885) (h3 : ([1523, 1524].any fun x => x == ns.getD a.toNat 0) = false) (h4 : ns.getD a.toNat 0 ≠ 12539) (h5 : ¬ (1632 ≤ ns.getD a.toNat 0 ∧ ns.getD a.toNat 0 ≤ 1641)) (h6 : ¬ (1776 ≤ ns.getD a.toNat 0 ∧ ns.getD a.toNat 0 ≤ 1785)) : company ns a = true :=
  cv12 h1 h2 (by simpa only [List.any_cons, List.any_nil, Bool.or_false] using h3) h4 (by omega) (by omega)
end
theorem kw_23_2 : True := by
  k_with "mine turn" => first | ((try dsimp only); first | (refine ⟨?_, _, rfl⟩; first | assumption | (simp only [*]; done) | (simp [*]; done)) | ((show _ = false); first | assumption | (simp only [*]; decide) | (simp [*]; done))) | fail "no"
  trivial
abbrev numR (k : Int) (y : Value) : Prop := ∃ t, y = .int k t
theorem F2.nums {ns : List Int} {ys : List Value} (h : F2 numR ns ys) : IntsAre ys ns := F2.ints (T := fun _ => true) h
set_option maxHeartbeats 16000000 in
theorem c_lawcomp (w : World) (s : Shared) (l : Addr) (vs : List Value) (ns : List Int) (B : Lab s.heap l vs ns) (a : Int) (t : Tok) (ha : 0 ≤ a) (hb : a < ns.length) :
    Callee w 445 [.ref l, .int a t] 5 s (Ext s fun v _ => v = .bool (company ns a)) := by
  have m0 := lab_at B (by omega : 0 ≤ a) (by omega)
  have hl := B.list
  have hi := B.nums
  have hn := B.len
  have hcs := B.codes
  have hsz : (vs.length : Int) = ns.length := by rw [hi.length]
  walk_at "mine enter"
  walk_at "mine body"
  walk_at "mine steps"
  all_goals try dsimp only
  · exact Ext.intro (Fr.keep (by assumption)) (congrArg Value.bool (Eq.symm (lv1 ha hb (by assumption) (by assumption))))
  · exact Ext.intro (Fr.keep (by assumption)) (congrArg Value.bool (Eq.symm (lv2 ha hb (by assumption) (by assumption))))
  · walk_at "mine compT"
    refine LCt.CompSrcT.ledger (by rfl) (by k_asm) (by k_asm) (by k_mem) (by rw [len_size' (by assumption), sizeLine_eq]; simp only [List.length_drop, List.length_take]; omega) ?_
    intro g'
    refine m_listT (fun k => Str.ofString (scrOf k) == Str.ofString "Grek") numR (by assumption) ?_ ?_
    · intro k t I oI C oC Dd m₂ ys h tk2 E' hk hC hx F2 N2 off ne
      skip
      (try k_fold)
      walk_at "mine gen"
      walk_at "mine steps"
      all_goals walk_at "mine turn"
    · intro ys hys
      have hys2 := hys.nums
      (try k_fold)
      walk_at "mine steps"
      exact Ext.intro (Fr.keep (by assumption)) (congrArg Value.bool (Eq.symm (lv5 ha hb (by assumption) (by assumption))))
  · walk_at "mine compT"
    refine LCt.CompSrcT.ledger (by rfl) (by k_asm) (by k_asm) (by k_mem) (by rw [len_size' (by assumption), sizeLine_eq]; simp only [List.length_drop, List.length_take]; omega) ?_
    intro g'
    refine m_listT (fun k => Str.ofString (scrOf k) == Str.ofString "Hebr") numR (by assumption) ?_ ?_
    · intro k t I oI C oC Dd m₂ ys h tk2 E' hk hC hx F2 N2 off ne
      skip
      (try k_fold)
      walk_at "mine gen"
      walk_at "mine steps"
      all_goals walk_at "mine turn"
    · intro ys hys
      have hys2 := hys.nums
      (try k_fold)
      walk_at "mine steps"
      exact Ext.intro (Fr.keep (by assumption)) (congrArg Value.bool (Eq.symm (lv7 ha hb (by assumption) (by assumption) (by assumption))))
  · walk_at "mine compT"
    refine LCt.CompSrcT.base (by rfl) (by k_asm) (by k_asm) hl (size_ok hi hn) ?_
    intro g'
    refine m_listT (fun o => [Str.ofString "Hira", Str.ofString "Kana", Str.ofString "Hani"].any (· == Str.ofString (scrOf o))) numR (by assumption) ?_ ?_
    · intro k t I oI C oC Dd m₂ ys h tk2 E' hk hC hx F2 N2 off ne
      skip
      (try k_fold)
      walk_at "mine gen"
      walk_at "mine steps"
      all_goals walk_at "mine turn"
    · intro ys hys
      have hys2 := hys.nums
      (try k_fold)
      walk_at "mine steps"
      exact Ext.intro (Fr.keep (by assumption)) (congrArg Value.bool (Eq.symm (lv9 (by assumption) (by assumption) (by assumption) (by assumption))))
  · walk_at "mine compT"
    refine LCt.CompSrcT.base (by rfl) (by k_asm) (by k_asm) hl (size_ok hi hn) ?_
    intro g'
    refine m_listT (fun k => decide (1776 ≤ k) && decide (k ≤ 1785)) numR (by assumption) ?_ ?_
    · intro k t I oI C oC Dd m₂ ys h tk2 E' hk hC hx F2 N2 off ne
      skip
      (try k_fold)
      walk_at "mine gen"
      walk_at "mine steps"
      all_goals walk_at "mine turn"
    · intro ys hys
      have hys2 := hys.nums
      (try k_fold)
      walk_at "mine steps"
      exact Ext.intro (Fr.keep (by assumption)) (congrArg Value.bool (Eq.symm (lv10 (by assumption) (by assumption) (by assumption) (by assumption) (by assumption) (by assumption))))
  · walk_at "mine compT"
    refine LCt.CompSrcT.base (by rfl) (by k_asm) (by k_asm) hl (size_ok hi hn) ?_
    intro g'
    refine m_listT (fun k => decide (1632 ≤ k) && decide (k ≤ 1641)) numR (by assumption) ?_ ?_
    · intro k t I oI C oC Dd m₂ ys h tk2 E' hk hC hx F2 N2 off ne
      skip
      (try k_fold)
      walk_at "mine gen"
      walk_at "mine steps"
      all_goals walk_at "mine turn"
    · intro ys hys
      have hys2 := hys.nums
      (try k_fold)
      walk_at "mine steps"
      exact Ext.intro (Fr.keep (by assumption)) (congrArg Value.bool (Eq.symm (lv11 (by assumption) (by assumption) (by assumption) (by assumption) (by assumption) (by assumption))))
  all_goals exact Ext.intro (Fr.keep (by assumption)) (congrArg Value.bool (Eq.symm (lv12 (by assumption) (by assumption) (by assumption) (by assumption) (by omega) (by omega))))

/-- the first sign that is not passed through -/
def sideOf (xs : List Int) : String := match xs.find? (fun c => decide (jtOf c ≠ "T")) with
  | some c => jtOf c
  | none => "U"
def downS (ns : List Int) (a : Int) : String := sideOf (ns.take (a + 1).toNat).reverse
def upS (ns : List Int) (a : Int) : String := sideOf (ns.drop a.toNat)
theorem sideOf_cons (c : Int) (r : List Int) : sideOf (c :: r) = if jtOf c = "T" then sideOf r else jtOf c := by
  unfold sideOf
  by_cases h : jtOf c = "T"
  · rw [List.find?_cons_of_neg (by simpa using h), if_pos h]
  · rw [List.find?_cons_of_pos (by simpa using h), if_neg h]
theorem down_step {ns : List Int} {a : Int} (h0 : 0 ≤ a) (h1 : a < ns.length) : downS ns a = if jtOf (ns.getD a.toNat 0) = "T" then downS ns (a - 1) else jtOf (ns.getD a.toNat 0) := by
  have hl : a.toNat < ns.length := by omega
  have e : (a + 1).toNat = a.toNat + 1 := by omega
  have e2 : (a - 1 + 1).toNat = a.toNat := by omega
  unfold downS
  rw [e, e2, List.take_add_one, List.getElem?_eq_getElem hl, List.reverse_append]
  show sideOf (ns[a.toNat] :: _) = _
  rw [sideOf_cons, List.getD_eq_getElem?_getD, List.getElem?_eq_getElem hl]
  rfl
theorem down_end {ns : List Int} {a : Int} (h0 : ¬ 0 ≤ a) : downS ns a = "U" := by
  have e : (a + 1).toNat = 0 := by omega
  unfold downS
  rw [e]
  rfl
theorem up_step {ns : List Int} {a : Int} (h0 : 0 ≤ a) (h1 : a < ns.length) : upS ns a = if jtOf (ns.getD a.toNat 0) = "T" then upS ns (a + 1) else jtOf (ns.getD a.toNat 0) := by
  have hl : a.toNat < ns.length := by omega
  have e : (a + 1).toNat = a.toNat + 1 := by omega
  unfold upS
  rw [e, List.drop_eq_getElem_cons hl, sideOf_cons, List.getD_eq_getElem?_getD, List.getElem?_eq_getElem hl]
  rfl
theorem up_end {ns : List Int} {a : Int} (h0 : ¬ a < ns.length) (h1 : 0 ≤ a) : upS ns a = "U" := by
  unfold upS
  rw [List.drop_eq_nil_of_le (by omega)]
  rfl
theorem jt_T (c : Int) : (Str.ofString (jtOf c) != Str.ofString "T") = !decide (jtOf c = "T") := by
  unfold jtOf
  by_cases h1 : c = 1576
  · rw [if_pos h1]; decide
  by_cases h2 : c = 1583
  · rw [if_neg h1, if_pos h2]; decide
  by_cases h3 : c = 1611
  · rw [if_neg h1, if_neg h2, if_pos h3]; decide
  · rw [if_neg h1, if_neg h2, if_neg h3]; decide
section
variable {ns : List Int} {a x : Int} (h0 : 0 ≤ x) (h1 : x < ns.length)
include h0 h1
theorem dn_next (e : downS ns x = downS ns a) (hT : (Str.ofString (jtOf (ns.getD x.toNat 0)) != Str.ofString "T") = false) : -1 ≤ x + -1 ∧ x + -1 < ns.length ∧ downS ns (x + -1) = downS ns a := by
  rw [jt_T] at hT
  have hT : jtOf (ns.getD x.toNat 0) = "T" := by simpa using hT
  refine ⟨by omega, by omega, ?_⟩
  rw [← e, down_step h0 h1, if_pos hT]
  rfl
theorem dn_fin (e : downS ns x = downS ns a) (hT : (Str.ofString (jtOf (ns.getD x.toNat 0)) != Str.ofString "T") = true) : downS ns a = jtOf (ns.getD x.toNat 0) := by
  rw [jt_T] at hT
  have hT : ¬ jtOf (ns.getD x.toNat 0) = "T" := by simpa using hT
  rw [← e, down_step h0 h1, if_neg hT]
theorem up_next (e : upS ns x = upS ns a) (hT : (Str.ofString (jtOf (ns.getD x.toNat 0)) != Str.ofString "T") = false) : 0 ≤ x + 1 ∧ x + 1 ≤ ns.length ∧ upS ns (x + 1) = upS ns a := by
  rw [jt_T] at hT
  have hT : jtOf (ns.getD x.toNat 0) = "T" := by simpa using hT
  refine ⟨by omega, by omega, ?_⟩
  rw [← e, up_step h0 h1, if_pos hT]
theorem up_fin (e : upS ns x = upS ns a) (hT : (Str.ofString (jtOf (ns.getD x.toNat 0)) != Str.ofString "T") = true) : upS ns a = jtOf (ns.getD x.toNat 0) := by
  rw [jt_T] at hT
  have hT : ¬ jtOf (ns.getD x.toNat 0) = "T" := by simpa using hT
  rw [← e, up_step h0 h1, if_neg hT]
end
theorem isTup_keeps {h h' : Heap} {a : Addr} {items : Array Value} (k : h.StaysIn h') (x : IsTup h a items) : IsTup h' a items := let ⟨o, e, r⟩ := x; ⟨o, k _ _ e, r⟩
theorem kw_24_1 : True := by
  k_with "compareOp In str ref" => first | (k_here; (with_reducible show wpAny _ _ (compareOp CmpOp.In (Value.str _ _) (Value.ref _)) _ _ _); k_dflt (refine' in_tuple_strs (by exact isTup_keeps (Fr.keep (by k_asm)) (by assumption)) (by walk_at "mine are") ?_; k_whole); (try simp only [List.any_cons, List.any_nil, Bool.or_false])) | fail "no"
  trivial
set_option maxHeartbeats 8000000 in
theorem c_down (w : World) (s : Shared) (S : DSt) (D : LawD w s.heap S) (l : Addr) (vs : List Value) (ns : List Int) (B : Lab s.heap l vs ns) (a : Int) (t u : Tok) (Tu : Addr) (t1 t2 : Tok) (hT : IsTup s.heap Tu #[.str (Str.ofString "L") t1, .str (Str.ofString "D") t2]) (ha : -1 ≤ a) (hb : a < ns.length) :
    Callee w 258 [.ref l, .int a t, .int (-1) u, .ref S.d, .ref Tu] 4 s (Ext s fun v _ => v = .bool ([Str.ofString "L", Str.ofString "D"].any (· == Str.ofString (downS ns a)))) := by
  have tg_c_down : True := trivial
  have hl := B.list
  have hi := B.nums
  have hn := B.len
  have hcs := B.codes
  have hsz : (vs.length : Int) = ns.length := by rw [hi.length]
  k_with "getMethod ref" => ((fail_if_success (fail_if_success (clear tg_c_down))); k_dflt (refine data_meth D (Fr.keep (by k_asm)) (by k_asm) (by k_asm) rfl ?_))
  walk_at "mine enter"
  walk_at "mine body"
  k_with "exec While Compare cons nil" => ((fail_if_success (fail_if_success (clear tg_c_down))); first | (k_while (fun script x => -1 ≤ x ∧ x < (script.length : Int) ∧ downS script x = downS script a) (fun script x => (x + 1).toNat) "at") | fail "no")
  k_with "state" => first | (first | exact ⟨by assumption, by assumption, rfl⟩ | exact dn_next (by assumption) (by assumption) (by assumption) (by assumption)) | fail "no"
  k_with "measure" => first | (omega) | fail "no"
  k_with "call ref" => ((fail_if_success (fail_if_success (clear tg_c_down))); first | (k_dflt (refine Callee.ext (c_jt w _ S (D.keeps (Fr.keep (by k_asm))) (lab_at B (by omega) (by omega)) _ _) (by k_asm) (by k_asm) (by k_asm) (by k_asm) (by k_asm) (by first | exact rfl | assumption) (by walk_at "mine room") (by walk_at "mine room") ?_; rintro v' h' tk' F' N' - ⟨t', rfl⟩)) | fail "no")
  walk_at "mine steps"
  all_goals try dsimp only
  · exact Ext.intro (Fr.keep (by assumption)) (congrArg Value.bool (by rw [dn_fin (by assumption) (by assumption) (by assumption) (by assumption)]; simp only [List.any_cons, List.any_nil, Bool.or_false]))
  all_goals exact Ext.intro (Fr.keep (by assumption)) (congrArg Value.bool (by rw [← ‹downS ns _ = downS ns a›, down_end (by assumption)]; decide))
set_option maxHeartbeats 8000000 in
theorem c_up (w : World) (s : Shared) (S : DSt) (D : LawD w s.heap S) (l : Addr) (vs : List Value) (ns : List Int) (B : Lab s.heap l vs ns) (a : Int) (t u : Tok) (Tu : Addr) (t1 t2 : Tok) (hT : IsTup s.heap Tu #[.str (Str.ofString "R") t1, .str (Str.ofString "D") t2]) (ha : 0 ≤ a) (hb : a ≤ ns.length) :
    Callee w 258 [.ref l, .int a t, .int (1) u, .ref S.d, .ref Tu] 4 s (Ext s fun v _ => v = .bool ([Str.ofString "R", Str.ofString "D"].any (· == Str.ofString (upS ns a)))) := by
  have tg_c_up : True := trivial
  have hl := B.list
  have hi := B.nums
  have hn := B.len
  have hcs := B.codes
  have hsz : (vs.length : Int) = ns.length := by rw [hi.length]
  k_with "getMethod ref" => ((fail_if_success (fail_if_success (clear tg_c_up))); k_dflt (refine data_meth D (Fr.keep (by k_asm)) (by k_asm) (by k_asm) rfl ?_))
  walk_at "mine enter"
  walk_at "mine body"
  k_with "exec While Compare cons nil" => ((fail_if_success (fail_if_success (clear tg_c_up))); first | (k_while (fun script x => 0 ≤ x ∧ x ≤ (script.length : Int) ∧ upS script x = upS script a) (fun script x => ((script.length : Int) - x).toNat) "at") | fail "no")
  k_with "state" => first | (first | exact ⟨by assumption, by assumption, rfl⟩ | exact up_next (by assumption) (by assumption) (by assumption) (by assumption)) | fail "no"
  k_with "measure" => first | (omega) | fail "no"
  k_with "call ref" => ((fail_if_success (fail_if_success (clear tg_c_up))); first | (k_dflt (refine Callee.ext (c_jt w _ S (D.keeps (Fr.keep (by k_asm))) (lab_at B (by omega) (by omega)) _ _) (by k_asm) (by k_asm) (by k_asm) (by k_asm) (by k_asm) (by first | exact rfl | assumption) (by walk_at "mine room") (by walk_at "mine room") ?_; rintro v' h' tk' F' N' - ⟨t', rfl⟩)) | fail "no")
  walk_at "mine steps"
  all_goals try dsimp only
  · exact Ext.intro (Fr.keep (by assumption)) (congrArg Value.bool (by rw [up_fin (by assumption) (by assumption) (by assumption) (by assumption)]; simp only [List.any_cons, List.any_nil, Bool.or_false]))
  all_goals exact Ext.intro (Fr.keep (by assumption)) (congrArg Value.bool (by rw [← ‹upS ns _ = upS ns a›, up_end (by omega) (by omega)]; decide))
def joined (ns : List Int) (a : Int) : Bool :=
  if 0 < a ∧ ns.getD (a - 1).toNat 0 = 2381 then true else if ns.getD a.toNat 0 = 8205 then false
  else [Str.ofString "L", Str.ofString "D"].any (· == Str.ofString (downS ns (a - 1))) && [Str.ofString "R", Str.ofString "D"].any (· == Str.ofString (upS ns (a + 1)))
theorem ccc9 {c : Int} : cccOf c = 9 ↔ c = 2381 := by
  unfold cccOf
  by_cases h : c = 2381
  · rw [if_pos h]; exact ⟨fun _ => h, fun _ => rfl⟩
  · rw [if_neg h]; exact ⟨fun z => absurd z (by decide), fun z => absurd z h⟩
section
variable {ns : List Int} {a : Int}
theorem jn1 (h0 : 0 < a) (h : cccOf (ns.getD (a - 1).toNat 0) = 9) : joined ns a = true := by
  unfold joined
  rw [if_pos ⟨h0, ccc9.mp h⟩]
theorem jn2 (h : ¬ (0 < a ∧ cccOf (ns.getD (a - 1).toNat 0) = 9)) (h1 : ns.getD a.toNat 0 = 8205) : joined ns a = false := by
  unfold joined
  rw [if_neg (fun z => h ⟨z.1, ccc9.mpr z.2⟩), if_pos h1]
theorem jn3 (h : ¬ (0 < a ∧ cccOf (ns.getD (a - 1).toNat 0) = 9)) (h1 : ns.getD a.toNat 0 ≠ 8205) (h2 : ([Str.ofString "L", Str.ofString "D"].any fun x => x == Str.ofString (downS ns (a - 1))) = true) : joined ns a = [Str.ofString "R", Str.ofString "D"].any fun x => x == Str.ofString (upS ns (a + 1)) := by
  unfold joined
  rw [if_neg (fun z => h ⟨z.1, ccc9.mpr z.2⟩), if_neg h1, h2, Bool.true_and]
theorem jn4 (h : ¬ (0 < a ∧ cccOf (ns.getD (a - 1).toNat 0) = 9)) (h1 : ns.getD a.toNat 0 ≠ 8205) (h2 : ([Str.ofString "L", Str.ofString "D"].any fun x => x == Str.ofString (downS ns (a - 1))) = false) : joined ns a = [Str.ofString "L", Str.ofString "D"].any fun x => x == Str.ofString (downS ns (a - 1)) := by
  unfold joined
  rw [if_neg (fun z => h ⟨z.1, ccc9.mpr z.2⟩), if_neg h1, h2, Bool.false_and]
end
theorem Lab.keeps {h h' : Heap} {l : Addr} {vs : List Value} {ns : List Int} (B : Lab h l vs ns) (k : h.StaysIn h') : Lab h' l vs ns := ⟨isList_keeps B.list k, B.nums, B.len, B.pos, B.codes⟩
set_option maxHeartbeats 8000000 in
theorem c_mayjoin (w : World) (s : Shared) (S : DSt) (D : LawD w s.heap S) (l : Addr) (vs : List Value) (ns : List Int) (B : Lab s.heap l vs ns) (a : Int) (t : Tok) (ha : 0 ≤ a) (hb : a < ns.length) :
    Callee w 265 [.ref l, .int a t, .ref S.d] 6 s (Ext s fun v _ => v = .bool (joined ns a)) := by
  have tg_c_mayjoin : True := trivial
  have hl := B.list
  have hi := B.nums
  have hn := B.len
  have hcs := B.codes
  have hsz : (vs.length : Int) = ns.length := by rw [hi.length]
  k_with "getMethod ref" => ((fail_if_success (fail_if_success (clear tg_c_mayjoin))); k_dflt (refine data_meth D (Fr.keep (by k_asm)) (by k_asm) (by k_asm) rfl ?_))
  walk_at "mine enter"
  walk_at "mine body"
  k_with "call ref" => ((fail_if_success (fail_if_success (clear tg_c_mayjoin))); first | (k_dflt (first
    | (refine Callee.ext (c_ccc w _ S (D.keeps (Fr.keep (by k_asm))) (lab_at B (by omega) (by omega)) _ _) (by k_asm) (by k_asm) (by k_asm) (by k_asm) (by k_asm) (by first | exact rfl | assumption) (by walk_at "mine room") (by walk_at "mine room") ?_; rintro v' h' tk' F' N' - ⟨t', rfl⟩)
    | (refine Callee.ext (c_down w _ S (D.keeps (Fr.keep (by k_asm))) l vs ns (B.keeps (Fr.keep (by k_asm))) _ _ _ _ _ _ (News.isTup (by k_asm) (by k_mem)) (by omega) (by omega)) (by k_asm) (by k_asm) (by k_asm) (by k_asm) (by k_asm) (by first | exact rfl | assumption) (by walk_at "mine room") (by walk_at "mine room") ?_; rintro v' h' tk' F' N' - rfl)
    | (refine Callee.ext (c_up w _ S (D.keeps (Fr.keep (by k_asm))) l vs ns (B.keeps (Fr.keep (by k_asm))) _ _ _ _ _ _ (News.isTup (by k_asm) (by k_mem)) (by omega) (by omega)) (by k_asm) (by k_asm) (by k_asm) (by k_asm) (by k_asm) (by first | exact rfl | assumption) (by walk_at "mine room") (by walk_at "mine room") ?_; rintro v' h' tk' F' N' - rfl))) | fail "no")
  walk_at "mine steps"
  all_goals try dsimp only
  all_goals (refine Ext.intro (Fr.keep (by assumption)) (congrArg Value.bool (Eq.symm ?_)); first | exact jn1 (by assumption) (by assumption) | exact jn2 (by omega) (by assumption) | exact jn3 (by omega) (by assumption) (by assumption) | exact jn4 (by omega) (by assumption) (by assumption))

theorem pick_drop_ints {vs : List Value} {ns : List Int} {x : Int} (hi : IntsAre vs ns) (h : 0 ≤ x) : IntsAre (slicePick vs.toArray (some x) none none).toList (ns.drop x.toNat) := by
  rw [pick_drop _ h]; exact hi.drop _
theorem kw_25_1 : True := by
  k_with "subscriptTail Name Slice ref ref" => first | (k_here; (with_reducible show wpAny _ _ (subscriptTail _ (PySem.Expr.Slice (some _) none none _) (Value.ref _) (Value.ref _)) _ _ _); k_dflt (refine' kmk_slice_ints (by k_asm) (by k_asm) (by kmk_list) (by kmk_part) (by kmk_part) (by l_ints) (by exact pick_drop_ints (by l_ints) (by omega)) (by rfl) ?_ (by with_unfolding_all rfl) (by kmk_pure) (by (rw [len_size' (by l_ints), sizeLine_eq]; (try simp only [List.length_reverse, List.length_take, List.length_drop]); omega))); intro D'_k ws'_k h'_k F'_k N'_k l1_k hI'_k hC'_k hL'_k; (try k_lt l1_k); (try k_sweep)) | fail "no"
  k_with "subscriptTail Name Slice ref ref" => first | (k_here; (with_reducible show wpAny _ _ (subscriptTail _ (PySem.Expr.Slice none none (some _) _) (Value.ref _) (Value.ref _)) _ _ _); k_dflt (refine' krv_ints (by k_asm) (by k_asm) (by kmk_list) (by exact IsPart.int _ _) (by l_ints) ?_ (by with_unfolding_all rfl) (by kmk_pure) (by (rw [len_size' (by l_ints), sizeLine_eq]; (try simp only [List.length_reverse, List.length_take, List.length_drop]); omega))); intro D'_k ws'_k h'_k F'_k N'_k l1_k hI'_k hC'_k; (try k_lt l1_k); (try k_sweep)) | fail "no"
  k_with "mine compA" => first | (refine Frozen.mk ?_; k_dflt (refine LCt.Assign_ListComp_T (F₀ := by k_asm) (by rfl) (by with_unfolding_all rfl) (by with_unfolding_all rfl) (by decide) (by rfl) (by decide) (by rfl) (by rfl) (by rfl) ?_); walk_at "mine steps"; refine Frozen.mk ?_) | fail "no"
  trivial
theorem st_canLayAll0 : ∀ {ms : List Str}, ms.all PyData.strOk = true → PyData.canLayAll0 (ms.map PyData.str) = true
  | [], _ => rfl
  | x :: r, h => by
    rw [List.all_cons, Bool.and_eq_true] at h
    have h1 : PyData.strOk x = true := h.1
    rw [List.map_cons, PyData.canLayAll0, PyData.canLay0, h1, st_canLayAll0 h.2]; rfl
theorem st_depthAll : ∀ ms : List Str, PyData.depthAll (ms.map PyData.str) = 0
  | [] => rfl
  | _ :: r => by simp [PyData.depthAll, PyData.depth, st_depthAll r]
theorem st_shaped {ms : List Str} (h : ms.all PyData.strOk = true) : SeqAt.shaped (.list (ms.map PyData.str)) = true := by
  simp [SeqAt.shaped, PyData.canLay0, PyData.depth, st_canLayAll0 h, st_depthAll]
theorem st_sameAll : ∀ ns ms : List Str, PySem.Spec.sameAll (ns.map PyData.str) (ms.map PyData.str) = decide (ns = ms)
  | [], [] => by simp [PySem.Spec.sameAll]
  | [], _ :: _ => by simp [PySem.Spec.sameAll]
  | _ :: _, [] => by simp [PySem.Spec.sameAll]
  | a :: r, b :: t => by
    simp only [List.map_cons, PySem.Spec.sameAll, PySem.Spec.same, st_sameAll r t]
    by_cases h : a = b <;> by_cases h' : r = t <;> simp [h, h']
theorem st_same (ns ms : List Str) : PySem.Spec.same (.list (ns.map PyData.str)) (.list (ms.map PyData.str)) = decide (ns = ms) := by
  simp only [PySem.Spec.same]; exact st_sameAll ns ms
theorem st_carried : ∀ {vs : List Value} {ns : List Str}, StrsAre vs ns → CarriedAll vs (ns.map PyData.str)
  | _, _, .nil => .nil
  | _, _, .cons _ t r => .cons (.str _ t) (st_carried r)
theorem ne_strs {prog : Program} {w : World} {A : Around} {E : Value → Shared → Prop} {s : Shared} {a b : Addr} {xs ys : List Value} {ns ms : List Str} {Q : Value → Shared → Prop} (ha : s.heap.IsList a xs.toArray) (hb : s.heap.IsList b ys.toArray) (hi : StrsAre xs ns) (hj : StrsAre ys ms) (hn : ns.all PyData.strOk = true) (hm : ms.all PyData.strOk = true) (hu : A.units + 64 < cLine) (h : Q (.bool (!decide (ns = ms))) s) :
    wpAny (model prog w) A (compareOp .NotEq (.ref a) (.ref b)) Q E s :=
  ne_dataH_same (reads_newData ha (st_carried hi)) (reads_newData hb (st_carried hj)) (st_shaped hn) (st_shaped hm) hu (SeqAt.noMix_of_shape (.list .str) rfl _ _ (list_map_has fun _ => rfl) (list_map_has fun _ => rfl)) (by rw [st_same]; exact h)
/-- marks a list of strings that a comparison may meet -/
structure StrsOk (vs : List Value) (ms : List Str) : Prop where
  are : StrsAre vs ms
  ok : ms.all PyData.strOk = true
theorem StrsOk.nil : StrsOk [] [] := ⟨.nil, rfl⟩
theorem ne_strsK {prog : Program} {w : World} {A : Around} {E : Value → Shared → Prop} {s : Shared} {a b : Addr} {xs ys : List Value} {ns ms : List Str} {Q : Value → Shared → Prop} (ha : s.heap.IsList a xs.toArray) (hb : s.heap.IsList b ys.toArray) (hi : StrsOk xs ns) (hj : StrsOk ys ms) (hu : A.units + 64 < cLine) (h : Q (.bool (!decide (ns = ms))) s) :
    wpAny (model prog w) A (compareOp .NotEq (.ref a) (.ref b)) Q E s := ne_strs ha hb hi.are hj.are hi.ok hj.ok hu h
theorem kw_25_2 : True := by
  k_with "compareOp NotEq ref ref" => first | (k_here; (with_reducible show wpAny _ _ (compareOp CmpOp.NotEq (Value.ref _) (Value.ref _)) _ _ _); k_dflt (refine' ne_strsK (by exact News.isList (by k_asm) (by k_mem)) (by exact News.isList (by k_asm) (by k_mem)) (by assumption) (by first | assumption | exact StrsOk.nil) (by ke_room) ?_; k_whole); (try simp only [List.map_cons, List.map_nil, reduceCtorEq, decide_false, decide_true, Bool.not_false, Bool.not_true])) | fail "no"
  trivial
theorem item_news {prog : Program} {w : World} {A : Around} {E : Value → Shared → Prop} {s : Shared} {h₀ : Heap} {L l : Addr} {value slice : PySem.Expr} {news : List (Addr × Obj)} {xs : List Value} {k : Int} {u : Tok} {v : Value} {n : Nat} {Q : Value → Shared → Prop}
    (N : News h₀ L s.heap news) (hm : (l, ({ cls := .type "list", data := .seq xs.toArray n } : Obj)) ∈ news) (h0 : 0 ≤ k) (hhi : k < 2 ^ 63) (hx : xs[k.toNat]? = some v) (h : Q v s)
    (hs : subscripted slice false (.ref l) (.int k u) = operate [.ref l, .int k u] (getItem (.ref l) (.int k u)) := by with_unfolding_all rfl) :
    wpAny (model prog w) A (subscriptTail value slice (.ref l) (.int k u)) Q E s :=
  have hl' := News.isList N hm
  tail_any hl'.typeIs slot_list_getitem.lookup (wpAny_getItem_list hl' h0 hhi (by simpa using hx) h) hs
def jtR (k : Int) (y : Value) : Prop := ∃ t, y = .str (Str.ofString (jtOf k)) t
theorem jt_ok (c : Int) : PyData.strOk (Str.ofString (jtOf c)) = true := by
  unfold jtOf
  split
  · decide +kernel
  split
  · decide +kernel
  split
  · decide +kernel
  · decide +kernel
theorem jt_strs {ns : List Int} {ys : List Value} (h : F2 jtR ns ys) : StrsOk ys (ns.map fun c => Str.ofString (jtOf c)) := by
  induction h with
  | nil => exact ⟨.nil, rfl⟩
  | cons h _ ih => exact h.elim fun t e => e ▸ ⟨.cons _ _ ih.1, by rw [List.map_cons, List.all_cons, jt_ok, ih.2]; rfl⟩
theorem no1600 {c : Int} (h : c ∈ lawCodes) : c ≠ 1600 := fun e => by subst e; exact absurd h (by decide)
abbrev passT (k : Int) : Bool := Str.ofString (jtOf k) != Str.ofString "T"
theorem side_nil {xs : List Int} (h : List.filter passT xs = []) : sideOf xs = "U" := by
  unfold sideOf
  rw [List.find?_eq_none.mpr]
  intro c hc hd
  have := List.filter_eq_nil_iff.mp h c hc
  rw [show passT c = _ from jt_T c] at this
  exact this (by simpa using hd)
theorem side_cons {xs r : List Int} {b : Int} (h : List.filter passT xs = b :: r) : sideOf xs = jtOf b := by
  induction xs with
  | nil => cases h
  | cons c q ih =>
    rw [sideOf_cons]
    by_cases e : jtOf c = "T"
    · rw [if_pos e]
      refine ih ?_
      rw [List.filter_cons_of_neg (by rw [show passT c = _ from jt_T c]; simp [e])] at h
      exact h
    · rw [if_neg e]
      rw [List.filter_cons_of_pos (by rw [show passT c = _ from jt_T c]; simp [e])] at h
      cases h
      rfl
theorem down_take {ns : List Int} {a : Int} (ha : 0 ≤ a) : downS ns (a - 1) = sideOf (List.take a.toNat ns).reverse := by
  unfold downS
  rw [show a - 1 + 1 = a by omega]
section
variable {ns : List Int} {a : Int} (ha : 0 ≤ a) (hb : a < ns.length)
include ha hb
theorem not_first (h : ¬ aheadL ns a = [2381]) : ¬ (0 < a ∧ cccOf (ns.getD (a - 1).toNat 0) = 9) := fun z => h (by rw [ahead_yes z.1 hb, ccc9.mp z.2])
theorem jl0 (h : aheadL ns a = [2381]) : joined ns a = true := by
  have h0 : 0 < a := Decidable.byContradiction fun z => by rw [ahead_no z] at h; cases h
  rw [ahead_yes h0 hb] at h
  exact jn1 h0 (ccc9.mpr (by simpa using h))
theorem jl8 (h : ¬ aheadL ns a = [2381]) (h1 : ns.getD a.toNat 0 = 8205) : joined ns a = false := jn2 (not_first ha hb h) h1
theorem jl1 (h : ¬ aheadL ns a = [2381]) (h1 : ns.getD a.toNat 0 ≠ 8205) {S : String} (hx : sideOf (List.take a.toNat ns).reverse = S) (hf : ([Str.ofString "L", Str.ofString "D"].any fun x => x == Str.ofString S) = false) : joined ns a = [Str.ofString "L", Str.ofString "D"].any fun x => x == Str.ofString S := by
  rw [← hx, ← down_take ha] at hf ⊢
  exact jn4 (not_first ha hb h) h1 hf
theorem jl2 (h : ¬ aheadL ns a = [2381]) (h1 : ns.getD a.toNat 0 ≠ 8205) {S S2 : String} (hx : sideOf (List.take a.toNat ns).reverse = S) (ht : ([Str.ofString "L", Str.ofString "D"].any fun x => x == Str.ofString S) = true) (hy : sideOf (List.drop (a + 1).toNat ns) = S2) : joined ns a = [Str.ofString "R", Str.ofString "D"].any fun x => x == Str.ofString S2 := by
  rw [← hx, ← down_take ha] at ht
  rw [← hy]
  exact jn3 (not_first ha hb h) h1 ht
end
theorem kw_25_3 : True := by
  k_with "mine turnJ" => first | ((try dsimp only); first | exact ⟨_, rfl⟩ | assumption | ((show (Str.ofString (jtOf _) != Str.ofString "T") = true); rw [‹jtOf _ = "U"›]; decide) | exact ⟨by assumption, _, rfl⟩) | fail "no"
  trivial
set_option maxHeartbeats 16000000 in
theorem c_lawjoin (w : World) (s : Shared) (l : Addr) (vs : List Value) (ns : List Int) (B : Lab s.heap l vs ns) (a : Int) (t : Tok) (ha : 0 ≤ a) (hb : a < ns.length) :
    Callee w 450 [.ref l, .int a t] 5 s (Ext s fun v _ => v = .bool (joined ns a)) := by
  have m0 := lab_at B (by omega : 0 ≤ a) (by omega)
  have hl := B.list
  have hi := B.nums
  have hn := B.len
  have hcs := B.codes
  have hsz : (vs.length : Int) = ns.length := by rw [hi.length]
  walk_at "mine enter"
  walk_at "mine body"
  walk_at "mine steps"
  all_goals try dsimp only
  rotate_left 2
  · skip
    walk_at "mine compA"
    refine LCt.CompSrcT.ledger (by rfl) (by k_asm) (by k_asm) (by k_mem) (by rw [len_size' (by assumption), sizeLine_eq]; simp only [List.length_reverse, List.length_take, List.length_drop]; omega) ?_
    intro g'
    refine m_listT (ns := (List.take a.toNat ns).reverse) passT jtR (by assumption) ?_ ?_
    · intro k t I oI C oC Dd m₂ ys h tk2 E' hk hC hx F2 N2 off ne
      skip
      have hk0 : k ≠ 1600 := no1600 (hcs k (List.mem_of_mem_take (List.mem_reverse.mp hk)))
      (try k_fold)
      walk_at "mine gen"
      walk_at "mine steps"
      all_goals walk_at "mine turnJ"
    · intro ys hys
      generalize hx1 : List.filter passT ((List.take a.toNat ns).reverse) = fs at hys
      have ne9 : NoIfE := ⟨trivial⟩
      (try k_fold)
      walk_at "mine steps"
      refine Frozen.mk ?_
      refine merge_val (fun v => ∃ t, v = .str (Str.ofString (sideOf ((List.take a.toNat ns).reverse))) t) (by k_asm) (by k_asm) ?_ ?_
      · walk_at "mine noife"
        cases hys with
        | nil =>
          (try k_fold)
          walk_at "mine steps"
          exact valif (⟨_, by rw [side_nil hx1]⟩) (by k_asm) (by k_asm) (by walk_at "mine sub")
        | cons hy hr =>
          have hok := jt_strs (.cons hy hr)
          obtain ⟨ty, rfl⟩ := hy
          (try k_fold)
          walk_at "mine steps"
          exact valif (⟨_, by rw [side_cons hx1]⟩) (by k_asm) (by k_asm) (by walk_at "mine sub")
      rintro v5 h5 tk5 ⟨t5, rfl⟩ F5 N5
      clear hys
      (try k_fold)
      walk_at "mine noife"
      walk_at "mine steps"
      dsimp only [List.cons_append, List.nil_append]
      walk_at "mine steps"
      walk_at "mine compA"
      refine LCt.CompSrcT.ledger (by rfl) (by k_asm) (by k_asm) (by k_mem) (by rw [len_size' (by assumption), sizeLine_eq]; simp only [List.length_reverse, List.length_take, List.length_drop]; omega) ?_
      intro g'
      refine m_listT (ns := List.drop (a + 1).toNat ns) passT jtR (by assumption) ?_ ?_
      · intro k t I oI C oC Dd m₂ ys h tk2 E' hk hC hx F2 N2 off ne
        skip
        have hk0 : k ≠ 1600 := no1600 (hcs k (List.mem_of_mem_drop hk))
        (try k_fold)
        walk_at "mine gen"
        walk_at "mine steps"
        all_goals walk_at "mine turnJ"
      · intro ys hys
        generalize hy2 : List.filter passT (List.drop (a + 1).toNat ns) = fs at hys
        have ne9 : NoIfE := ⟨trivial⟩
        (try k_fold)
        walk_at "mine steps"
        refine Frozen.mk ?_
        refine merge_val (fun v => ∃ t, v = .str (Str.ofString (sideOf (List.drop (a + 1).toNat ns))) t) (by k_asm) (by k_asm) ?_ ?_
        · walk_at "mine noife"
          cases hys with
          | nil =>
            (try k_fold)
            walk_at "mine steps"
            exact valif (⟨_, by rw [side_nil hy2]⟩) (by k_asm) (by k_asm) (by walk_at "mine sub")
          | cons hy hr =>
            have hok := jt_strs (.cons hy hr)
            obtain ⟨ty, rfl⟩ := hy
            (try k_fold)
            walk_at "mine steps"
            exact valif (⟨_, by rw [side_cons hy2]⟩) (by k_asm) (by k_asm) (by walk_at "mine sub")
        rintro v5 h5 tk5 ⟨t5, rfl⟩ F5 N5
        clear hys
        (try k_fold)
        walk_at "mine noife"
        walk_at "mine steps"
        dsimp only [List.cons_append, List.nil_append]
        walk_at "mine steps"
        all_goals try dsimp only
        all_goals (refine Ext.intro (Fr.keep (by assumption)) (congrArg Value.bool (Eq.symm ?_)); first | exact jl2 ha hb (by assumption) (by assumption) rfl (by assumption) rfl | exact jl1 ha hb (by assumption) (by assumption) rfl (by assumption))
  · exact Ext.intro (Fr.keep (by assumption)) (congrArg Value.bool (Eq.symm (jl0 ha hb (by assumption))))
  · exact Ext.intro (Fr.keep (by assumption)) (congrArg Value.bool (Eq.symm (jl8 ha hb (by assumption) (by assumption))))

theorem head114 {w : World} {h : Heap} (X : (Tp.heap_1 w.params).In h) : CodeHd h 114 112 :=
  ⟨_, _, _, _, _, _, _, _, _, X 114 _ (by k_is), rfl, rfl, rfl, rfl, rfl, rfl, rfl, rfl, by decide⟩
section
variable {prog : Program} {w : World} {A : Around} {E : Value → Shared → Prop} {s : Shared} {h₀ : Heap} {L l : Addr} {m : Str → Option Value} {news : List (Addr × Obj)} {b : Bool} {Q : Value → Shared → Prop}
theorem sort_none {f : Value} {kw : List (Str × Value)} (F : Fr h₀ L s.heap m) (N : News h₀ L s.heap news) (hl : s.heap.IsList l (List.toArray []))
    (ha1 : argsOk "sorted" ⟨[.ref l], kw⟩) (ha2 : ∀ x, argsOk "list.sort" ⟨[.ref x], kw⟩) (ht : ∀ x, Builtin.«list.sort» ⟨[.ref x], kw⟩ = ksk_tree x f b)
    (d : ∀ D c h' tk, Fr h₀ L h' m → News h₀ L h' ((D, PySem.W.listOf (List.toArray []) c) :: news) → (∀ q ∈ news, q.1 < D) → Q (.ref D) { s with heap := h', toks := tk }) :
    wpAny (model prog w) A (call (.builtin "sorted") [.ref l] kw) Q E s := by
  refine ksk_sorted (kz := []) F N hl rfl (Nat.le_of_ble_eq_true rfl) ha1 ha2 ht (fun i v k hv hk h tk own F' N' => absurd hv (by simp)) fun D h' tk out c F' N' l1 ko => ?_
  obtain ⟨ps, hp, ho, hs⟩ := ko
  have hp' : ps.Perm [] := hp
  rw [hp'.eq_nil] at ho
  have e : out = List.toArray [] := Array.toList_inj.mp (ho.trans rfl)
  rw [e] at N'
  exact d D c h' tk F' N' l1
theorem sort_one {v₁ : Value} {f : Value} {kw : List (Str × Value)} (k₁ : Int) (F : Fr h₀ L s.heap m) (N : News h₀ L s.heap news) (hl : s.heap.IsList l (List.toArray [v₁]))
    (ha1 : argsOk "sorted" ⟨[.ref l], kw⟩) (ha2 : ∀ x, argsOk "list.sort" ⟨[.ref x], kw⟩) (ht : ∀ x, Builtin.«list.sort» ⟨[.ref x], kw⟩ = ksk_tree x f b)
    (turn₁ : ∀ (h : Heap) (tk : Nat) (own : List (Addr × Obj)), Fr h₀ L h m → News h₀ L h (news ++ own) →
      wpAny (model prog w) A.in1.in1 (call f [v₁]) (KskEnd h₀ L m (news ++ own) k₁ { s with heap := h, toks := tk }) (fun _ _ => False) { s with heap := h, toks := tk })
    (d : ∀ D c h' tk, Fr h₀ L h' m → News h₀ L h' ((D, PySem.W.listOf (List.toArray [v₁]) c) :: news) → (∀ q ∈ news, q.1 < D) → Q (.ref D) { s with heap := h', toks := tk }) :
    wpAny (model prog w) A (call (.builtin "sorted") [.ref l] kw) Q E s := by
  refine ksk_sorted (kz := [k₁]) F N hl rfl (Nat.le_of_ble_eq_true rfl) ha1 ha2 ht (fun i v k hv hk h tk own F' N' => ?_) fun D h' tk out c F' N' l1 ko => ?_
  · rcases i with _ | i
    · have e1 : some v₁ = some v := hv
      have e2 : some k₁ = some k := hk
      cases e1
      cases e2
      exact turn₁ h tk own F' N'
    · exact absurd hv (by simp)
  · obtain ⟨ps, hp, ho, hs⟩ := ko
    have hp' : ps.Perm [(k₁, v₁)] := hp
    rw [List.perm_singleton.mp hp'] at ho
    have e : out = List.toArray [v₁] := Array.toList_inj.mp (ho.trans rfl)
    rw [e] at N'
    exact d D c h' tk F' N' l1
end
theorem kw_26_1 : True := by
  k_with "call builtin:sorted" => first | k_dflt (k_here; ksk_kw; ksk_show; (with_unfolding_all refine' sort_one _ (by k_asm) (by k_asm) (by first | kso_list | exact isList_fr (by k_asm) (by assumption)) (by ksk_a1) (by (intro x'_k; ksk_a2)) (by (intro x'_k; ksk_a3)) (fun h'_k tk'_k own'_k F'_k N'_k => ?_) (fun D'_k c'_k h'_k tk'_k F'_k N'_k l1_k => ?_)); (all_goals (try simp only [List.nil_append, List.cons_append, List.append_nil] at N'_k)); (all_goals (try k_lt l1_k)); ksk_order) | fail "no"
  k_with "call builtin:sorted" => first | k_dflt (k_here; ksk_kw; ksk_show; (with_unfolding_all refine' sort_none (by k_asm) (by k_asm) (by first | kso_list | exact isList_fr (by k_asm) (by assumption)) (by ksk_a1) (by (intro x'_k; ksk_a2)) (by (intro x'_k; ksk_a3)) (fun D'_k c'_k h'_k tk'_k F'_k N'_k l1_k => ?_)); (try simp only [List.nil_append, List.cons_append, List.append_nil] at N'_k); (try k_lt l1_k)) | fail "no"
  k_with "mine compP" => first | (refine Frozen.mk ?_; k_dflt (refine LCp.ListComp_P (F₀ := by k_asm) (by with_unfolding_all rfl) (by decide) (by rfl) (by decide) (by rfl) (by rfl) (by decide) ?_); walk_at "mine steps") | fail "no"
  trivial
abbrev hitQ : Str := (Str.ofString "form_sorted" ++ ".<locals>.") ++ Str.ofString "<lambda>"
/-- the code table of form_sorted: empty, or with its lambda's code -/
inductive TabL (tl : List (Addr × Obj)) : Prop
  | e : tl = [(112, tabObj #[])] → TabL tl
  | h (c' : Addr) (oc : Obj) (vs : Array Value) (t : Tok) : @Ne Nat c' 112 → @Ne Nat 112 c' → tl = [((112 : Addr), tabObj #[rawInt 92, rawInt 53, .ref c']), (c', oc)] → oc.data = .fields vs → vs[1]? = some (.str hitQ t) → TabL tl
/-- what a call that may turn the table leaves -/
inductive TPost (s : Shared) (tl : List (Addr × Obj)) (P : Value → Heap → Prop) (v : Value) (s' : Shared) : Prop
  | mk (h' : Heap) (tk : Nat) (tl' : List (Addr × Obj)) : s' = { s with heap := h', toks := tk } → (∀ b o, s.heap.get? b = some o → b ∉ tl.map (·.1) → h'.get? b = some o) → TabL tl' → (∀ p ∈ tl', h'.get? p.1 = some p.2) → (∀ p ∈ tl', p.1 ∈ tl.map (·.1) ∨ s.heap.get? p.1 = none) → (∀ p ∈ tl, p.1 ∈ tl'.map (·.1)) → P v h' → TPost s tl P v s'
theorem g_none {H g : Heap} {ns : List Addr} {a : Addr} (G : GSub H g ns) (h : g.get? a = none) (n : a ∉ ns) : H.get? a = none := by
  cases z : H.get? a with
  | none => rfl
  | some o => exact (no_of h (G _ _ z n)).elim
theorem in_or {H g : Heap} {ns ms : List Addr} {a : Addr} (G : GSub H g ms) (h : g.get? a = none) (k : a ∉ ns → a ∉ ms) : a ∈ ns ∨ H.get? a = none := by
  by_cases q : a ∈ ns
  · exact .inl q
  · exact .inr (g_none G h (k q))
theorem tpost {s : Shared} {tl tl' nn : List (Addr × Obj)} {P : Value → Heap → Prop} {v : Value} {g h' : Heap} {L : Addr} {m : Str → Option Value} {tk : Nat} (G : GSub s.heap g (tl.map (·.1))) (F : Fr g L h' m) (N : News g L h' nn) (hs : ∀ p ∈ tl', p ∈ nn) (T : TabL tl') (hd : ∀ p ∈ tl, p.1 ∈ tl'.map (·.1)) (p : P v h') : TPost s tl P v { s with heap := h', toks := tk } :=
  ⟨h', tk, tl', rfl, fun b o q n => F.keep b o (G b o q n), T, fun p hp => (N p (hs p hp)).1, fun p hp => in_or G (N p (hs p hp)).2.2 id, hd, p⟩
theorem tpostX {s : Shared} {x : Addr × Obj} {tl tl' nn : List (Addr × Obj)} {P : Value → Heap → Prop} {v : Value} {g h' : Heap} {L : Addr} {m : Str → Option Value} {tk : Nat} (G : GSub s.heap g ((x :: tl).map (·.1))) (Z : ∀ p ∈ x :: tl, s.heap.get? p.1 = some p.2) (F : Fr g L h' m) (N : News g L h' nn) (hx : x ∈ nn) (hs : ∀ p ∈ tl', p ∈ nn) (T : TabL tl') (hxt : ∀ p ∈ tl', p.1 ≠ x.1) (hd : ∀ p ∈ tl, p.1 ∈ tl'.map (·.1)) (p : P v h') : TPost s tl P v { s with heap := h', toks := tk } :=
  ⟨h', tk, tl', rfl, (fun b o q n => by
    by_cases e : b = x.1
    · exact (congrArg h'.get? e).trans ((N x hx).1.trans ((Z x (.head _)).symm.trans ((congrArg s.heap.get? e).symm.trans q)))
    · exact F.keep b o (G b o q fun z => (List.mem_cons.mp z).elim e n)), T, fun p hp => (N p (hs p hp)).1, fun p hp => in_or G (N p (hs p hp)).2.2 fun q y => (List.mem_cons.mp y).elim (hxt p hp) q, hd, p⟩
theorem hd_E {a b : Addr} {o1 o2 o3 : Obj} : ∀ p ∈ [(a, o1)], p.1 ∈ [(a, o2), (b, o3)].map (·.1) := by
  intro p hp
  rw [List.mem_singleton.mp hp]
  exact .head _
theorem hd_H {a b : Addr} {o1 o2 o3 o4 : Obj} : ∀ p ∈ [(a, o1), (b, o4)], p.1 ∈ [(a, o2), (b, o3)].map (·.1) := List.forall_mem_cons.mpr ⟨.head _, List.forall_mem_cons.mpr ⟨.tail _ (.head _), List.forall_mem_nil _⟩⟩
theorem tab_hit {c' : Addr} {oc : Obj} {vs : Array Value} {t : Tok} (n1 : @Ne Nat c' 112) (n2 : @Ne Nat 112 c') (d1 : oc.data = .fields vs) (d2 : vs[1]? = some (.str hitQ t)) : TabL [((112 : Addr), tabObj #[rawInt 92, rawInt 53, .ref c']), (c', oc)] := .h c' oc vs t n1 n2 rfl d1 d2
/-- a new list -/
inductive NewList (s : Shared) (vs : List Value) (v : Value) (h' : Heap) : Prop
  | mk (D : Addr) (k : Nat) : v = .ref D → h'.get? D = some { cls := .type "list", data := .seq vs.toArray k } → s.heap.get? D = none → NewList s vs v h'
theorem not_map {tl : List (Addr × Obj)} {D : Addr} (h : ∀ p ∈ tl, p.1 ≠ D) : D ∉ tl.map (·.1) := fun q => let ⟨p, hp, e⟩ := List.mem_map.mp q; h p hp e
theorem newlist_of {s : Shared} {tl nn : List (Addr × Obj)} {g h' : Heap} {L D : Addr} {vs : List Value} {k : Nat} (G : GSub s.heap g (tl.map (·.1))) (Z : ∀ p ∈ tl, s.heap.get? p.1 = some p.2) (N : News g L h' nn) (hm : (D, ({ cls := .type "list", data := .seq vs.toArray k } : Obj)) ∈ nn) (hD : ∀ p ∈ tl, p.1 ≠ D) : NewList s vs (.ref D) h' :=
  ⟨D, k, rfl, (N _ hm).1, g_none G (N _ hm).2.2 (not_map hD)⟩
theorem list_ground {H g : Heap} {tl : List (Addr × Obj)} {r : Addr} {xs : Array Value} (hl : H.IsList r xs) (G : GSub H g (tl.map (·.1))) (hr : ∀ p ∈ tl, p.1 ≠ r) : g.IsList r xs := let ⟨o, ho, q⟩ := hl; ⟨o, G r o ho (not_map hr), q⟩
theorem kw_26_2 : True := by
  k_with "mine sortbody" => first | (walk_at "mine steps"; walk_at "mine compP") | fail "no"
  k_with "mine tab0" => first | (refine' tpost (by assumption) (by k_asm) (by k_asm) (by exact List.forall_mem_cons.mpr ⟨by k_mem, List.forall_mem_cons.mpr ⟨by k_mem, List.forall_mem_nil _⟩⟩) (tab_hit (by k_ne) (by k_ne) (by assumption) (by assumption)) (by first | exact hd_E | exact hd_H) (by refine newlist_of (by assumption) (by assumption) (by k_asm) (by k_mem) ?_; (walk_at "mine offs"))) | fail "no"
  k_with "mine tabX" => first | (refine' tpostX (by assumption) (by assumption) (by k_asm) (by k_asm) (by k_mem) (by exact List.forall_mem_cons.mpr ⟨by k_mem, List.forall_mem_cons.mpr ⟨by k_mem, List.forall_mem_nil _⟩⟩) (tab_hit (by k_ne) (by k_ne) (by assumption) (by assumption)) (by (walk_at "mine offs")) (by first | exact hd_E | exact hd_H) (by refine newlist_of (by assumption) (by assumption) (by k_asm) (by k_mem) ?_; (walk_at "mine offs"))) | fail "no"
  k_with "mine offs" => first | (first | exact List.forall_mem_nil _ | (refine List.forall_mem_cons.mpr ⟨?_, ?_⟩; (focus (show @Ne Nat _ _; k_ne)); (walk_at "mine offs"))) | fail "no"
  trivial
set_option maxHeartbeats 8000000 in
theorem c_sort0 (w : World) (s : Shared) (r : Addr) (hl : s.heap.IsList r #[]) (tl : List (Addr × Obj)) (TL : TabL tl) (hr : ∀ p ∈ tl, p.1 ≠ r) : CalleeN w 115 [.ref r] 3 s tl (TPost s tl (NewList s [])) := by
  rcases TL with rfl | ⟨c', oc, vs, t, n1, n2, rfl, d1, d2⟩
  · walk_at "mine enterN"
    intro p loose mean mg mb dp un gd outer A₀ base g L' h₁ tk B F N G Z l1 X T hdp hun
    refine wpAny_gen ?_
    intro Q_k hQ_k
    have C := head114 X
    have hl2 : g.IsList r #[] := list_ground hl G hr
    clear hl
    (try k_lt l1)
    (try dsimp only)
    (try k_fold)
    walk_at "mine sortbody"
    walk_at "mine tab0"
  · walk_at "mine enterN"
    intro p loose mean mg mb dp un gd outer A₀ base g L' h₁ tk B F N G Z l1 X T hdp hun
    refine wpAny_gen ?_
    intro Q_k hQ_k
    have C := head114 X
    have hl2 : g.IsList r #[] := list_ground hl G hr
    clear hl
    (try k_lt l1)
    (try dsimp only)
    (try k_fold)
    walk_at "mine sortbody"
    walk_at "mine tab0"
abbrev tupO (c : Int) (t1 t2 : Tok) : Obj := { cls := .type "tuple", data := .seq #[.int 9 t1, .int c t2] }
set_option maxHeartbeats 8000000 in
theorem c_sort1 (w : World) (s : Shared) (r tt : Addr) (t1 t2 : Tok) (c : Int) (hl : s.heap.IsList r #[.ref tt]) (tl : List (Addr × Obj)) (TL : TabL tl) (hr : ∀ p ∈ (tt, tupO c t1 t2) :: tl, p.1 ≠ r) (htt : ∀ p ∈ tl, @Ne Nat p.1 tt) : CalleeN w 115 [.ref r] 3 s ((tt, tupO c t1 t2) :: tl) (TPost s tl (NewList s [.int c t2])) := by
  rcases TL with rfl | ⟨c', oc, vs, t, n1, n2, rfl, d1, d2⟩
  · have e1 : @Ne Nat 112 tt := htt _ (.head _)
    have e2 : @Ne Nat tt 112 := Ne.symm e1
    clear htt
    walk_at "mine enterN"
    intro p loose mean mg mb dp un gd outer A₀ base g L' h₁ tk B F N G Z l1 X T hdp hun
    refine wpAny_gen ?_
    intro Q_k hQ_k
    have C := head114 X
    have hl2 : g.IsList r #[.ref tt] := list_ground hl G hr
    clear hl
    (try k_lt l1)
    (try dsimp only)
    (try k_fold)
    walk_at "mine sortbody"
    walk_at "mine tabX"
  · have e1 : @Ne Nat 112 tt := htt _ (.head _)
    have e2 : @Ne Nat tt 112 := Ne.symm e1
    have e3 : @Ne Nat c' tt := htt _ (.tail _ (.head _))
    have e4 : @Ne Nat tt c' := Ne.symm e3
    clear htt
    walk_at "mine enterN"
    intro p loose mean mg mb dp un gd outer A₀ base g L' h₁ tk B F N G Z l1 X T hdp hun
    refine wpAny_gen ?_
    intro Q_k hQ_k
    have C := head114 X
    have hl2 : g.IsList r #[.ref tt] := list_ground hl G hr
    clear hl
    (try k_lt l1)
    (try dsimp only)
    (try k_fold)
    walk_at "mine sortbody"
    walk_at "mine tabX"

/-- the caller's side of a call that may turn the table -/
theorem CalleeN.tuse {w : World} {f : Addr} {vs : List Value} {d : Nat} {s : Shared} {nn tl own : List (Addr × Obj)} {P : Value → Heap → Prop} (C : CalleeN w f vs d s nn (TPost s tl P))
    {p : Program} {loose : List Str} {mean : ExcName → Option Value} {mg mb : Str → Option Value} {dp un : Nat} {gd : Option (List Code)} {cn : Str} {cs : Scope} {L a : Addr} {ccd : Value} {cl : List (Str × Addr)} {outer : List Env} {A₀ : Around} {base h₀ : Heap} {m : Str → Option Value} {Q E : Value → Shared → Prop}
    (B : Below A₀ base outer h₀) (F : Fr h₀ L s.heap m) (Nn : News h₀ L s.heap nn) (N : News h₀ L s.heap (own ++ tl)) (X : (Tp.heap_1 w.params).In h₀) (T : Top p loose mean mg mb h₀) (hk : cs.kind = .function) (hdp : dp + d < 1000) (hun : un + 40 * d < 9900)
    (hoff : ∀ q ∈ own, ∀ p ∈ tl, p.1 ≠ q.1)
    (k : ∀ v h' tk tl', Fr h₀ L h' m → News h₀ L h' own → News h₀ L h' tl' → TabL tl' → (∀ q ∈ own, ∀ p ∈ tl', p.1 ≠ q.1) → (∀ p ∈ tl, p.1 ∈ tl'.map (·.1)) → P v h' → Q v { s with heap := h', toks := tk }) : wpAny (model PR w) (ktrTop dp un gd cn cs L a ccd cl outer) (call (.ref f) vs) Q E s := by
  have Nt : News h₀ L s.heap tl := fun p hp => N p (List.mem_append_right _ hp)
  have No : News h₀ L s.heap own := fun p hp => N p (List.mem_append_left _ hp)
  refine wpAny_mono (C p loose mean mg mb dp un gd cn cs L a ccd cl outer A₀ base h₀ m B F Nn X T hk hdp hun) ?_ (fun _ _ h => h.elim)
  rintro v s' ⟨h', tk, tl', rfl, h1, h2, h3, h4, h6, h5⟩
  obtain ⟨⟨oL, a1, a2, hL, a3⟩, k1, k2⟩ := id F
  have nt : ∀ b, b ∈ tl.map (·.1) → b ≠ L ∧ h₀.get? b = none := fun b hb => by
    obtain ⟨q, hq, rfl⟩ := List.mem_map.mp hb
    exact (Nt q hq).2
  refine k v h' tk tl' ⟨⟨oL, a1, a2, h1 _ _ hL (fun z => (nt _ z).1 rfl), a3⟩, fun b o e => h1 b o (k1 b o e) (fun z => by rw [(nt _ z).2] at e; cases e), k2⟩ (fun q hq => ⟨h1 _ _ (No q hq).1 (fun z => ?_), (No q hq).2⟩) (fun q hq => ⟨h3 q hq, ?_⟩) h2 (fun q hq p hp e => ?_) h6 h5
  · obtain ⟨p, hp, e⟩ := List.mem_map.mp z
    exact hoff q hq p hp e
  · rcases h4 q hq with z | z
    · exact nt _ z
    · refine ⟨(fun e => by rw [e, hL] at z; cases z), ?_⟩
      cases y : h₀.get? q.1 with
      | none => rfl
      | some o => rw [k1 _ _ y] at z; cases z
  · rcases h4 p hp with z | z
    · obtain ⟨p', hp', e'⟩ := List.mem_map.mp z
      exact hoff q hq p' hp' (e'.trans e)
    · rw [e, (No q hq).1] at z; cases z
theorem tab_fields {tl : List (Addr × Obj)} (T : TabL tl) : ∀ p ∈ tl, ∃ vs, p.2.data = .fields vs := by
  rcases T with rfl | ⟨c', oc, vs, t, n1, n2, rfl, d1, d2⟩
  · exact List.forall_mem_cons.mpr ⟨⟨_, rfl⟩, List.forall_mem_nil _⟩
  · exact List.forall_mem_cons.mpr ⟨⟨_, rfl⟩, List.forall_mem_cons.mpr ⟨⟨_, d1⟩, List.forall_mem_nil _⟩⟩
/-- a new object is off the frame -/
theorem new_news {g h h' : Heap} {L D : Addr} {m : Str → Option Value} {o : Obj} (F : Fr g L h m) (hn : h.get? D = none) (hD : h'.get? D = some o) : h'.get? D = some o ∧ D ≠ L ∧ g.get? D = none :=
  ⟨hD, (fun e => by
    obtain ⟨oL, _, _, hL, _⟩ := F.ns
    exact no_of hn (e ▸ hL)), none_back F.keep hn⟩
theorem new_off {g h : Heap} {L D : Addr} {own : List (Addr × Obj)} (N : News g L h own) (hn : h.get? D = none) : ∀ q ∈ own, @Ne Nat q.1 D := fun q hq e => no_of hn ((show q.1 = D from e) ▸ (N q hq).1)
theorem CalleeN.tlistN {w : World} {f : Addr} {vs xs : List Value} {d : Nat} {s : Shared} {nn tl own : List (Addr × Obj)} (C : CalleeN w f vs d s nn (TPost s tl (NewList s xs)))
    {p : Program} {loose : List Str} {mean : ExcName → Option Value} {mg mb : Str → Option Value} {dp un : Nat} {gd : Option (List Code)} {cn : Str} {cs : Scope} {L a : Addr} {ccd : Value} {cl : List (Str × Addr)} {outer : List Env} {A₀ : Around} {base h₀ : Heap} {m : Str → Option Value} {Q E : Value → Shared → Prop}
    (B : Below A₀ base outer h₀) (F : Fr h₀ L s.heap m) (N : News h₀ L s.heap (own ++ tl)) (X : (Tp.heap_1 w.params).In h₀) (T : Top p loose mean mg mb h₀) (hk : cs.kind = .function) (hdp : dp + d < 1000) (hun : un + 40 * d < 9900)
    (hoff : ∀ q ∈ own, ∀ p ∈ tl, p.1 ≠ q.1) (hn : ∀ p ∈ nn, p ∈ own ++ tl)
    (k : ∀ h' tk tl' D c, Fr h₀ L h' m → News h₀ L h' ((D, { cls := .type "list", data := .seq xs.toArray c }) :: (own ++ tl')) → TabL tl' → (∀ q ∈ own, ∀ p ∈ tl', p.1 ≠ q.1) → (∀ q ∈ own, @Ne Nat q.1 D) → (∀ q ∈ own, @Ne Nat D q.1) → (∀ p ∈ tl', p.1 ≠ D) → (∀ p ∈ tl, p.1 ∈ tl'.map (·.1)) → Q (.ref D) { s with heap := h', toks := tk }) : wpAny (model PR w) (ktrTop dp un gd cn cs L a ccd cl outer) (call (.ref f) vs) Q E s := by
  refine C.tuse B F (news_less N hn) N X T hk hdp hun hoff ?_
  rintro v h' tk tl' F' No' Nt' T' off' dom ⟨D, c, rfl, hD, hn⟩
  have No : News h₀ L s.heap own := fun p hp => N p (List.mem_append_left _ hp)
  have nD := new_off No hn
  refine k h' tk tl' D c F' (List.forall_mem_cons.mpr ⟨new_news F hn hD, fun p hp => (List.mem_append.mp hp).elim (No' p) (Nt' p)⟩) T' off' nD (fun q hq e => nD q hq e.symm) (fun p hp e => ?_) dom
  obtain ⟨vs', e'⟩ := tab_fields T' p hp
  have e3 : p.2 = _ := Option.some.inj (((show p.1 = D from e) ▸ (Nt' p hp).1 : h'.get? D = some p.2).symm.trans hD)
  rw [e3] at e'
  cases e'
/-- what is off the table as it is now was off it before -/
theorem off_old {tl tl' : List (Addr × Obj)} {D : Addr} (d : ∀ p ∈ tl, p.1 ∈ tl'.map (·.1)) (h : ∀ p ∈ tl', p.1 ≠ D) : ∀ p ∈ tl, p.1 ≠ D := fun p hp e => by
  obtain ⟨q, hq, z⟩ := List.mem_map.mp (d p hp)
  exact h q hq (z.trans e)
theorem dom_trans {a b c : List (Addr × Obj)} (x : ∀ p ∈ a, p.1 ∈ b.map (·.1)) (y : ∀ p ∈ b, p.1 ∈ c.map (·.1)) : ∀ p ∈ a, p.1 ∈ c.map (·.1) := fun p hp => by
  obtain ⟨q, hq, z⟩ := List.mem_map.mp (x p hp)
  rw [← z]; exact y q hq
/-- a call that makes a new list, from a frame -/
theorem Callee.list {w : World} {f : Addr} {vs xs : List Value} {d : Nat} {s : Shared} (C : Callee w f vs d s (Ext s (NewList s xs)))
    {p : Program} {loose : List Str} {mean : ExcName → Option Value} {mg mb : Str → Option Value} {dp un : Nat} {gd : Option (List Code)} {cn : Str} {cs : Scope} {L a : Addr} {ccd : Value} {cl : List (Str × Addr)} {outer : List Env} {A₀ : Around} {base h₀ : Heap} {m : Str → Option Value} {Q E : Value → Shared → Prop} {own : List (Addr × Obj)}
    (B : Below A₀ base outer h₀) (F : Fr h₀ L s.heap m) (No : News h₀ L s.heap own) (X : (Tp.heap_1 w.params).In h₀) (T : Top p loose mean mg mb h₀) (hk : cs.kind = .function) (hdp : dp + d < 1000) (hun : un + 40 * d < 9900)
    (k : ∀ h' tk D c, Fr h₀ L h' m → News h₀ L h' ((D, { cls := .type "list", data := .seq xs.toArray c }) :: own) → s.heap.StaysIn h' → (∀ q ∈ own, @Ne Nat q.1 D) → (∀ q ∈ own, @Ne Nat D q.1) → Q (.ref D) { s with heap := h', toks := tk }) : wpAny (model PR w) (ktrTop dp un gd cn cs L a ccd cl outer) (call (.ref f) vs) Q E s := by
  refine C.ext B F No X T hk hdp hun ?_
  rintro v h' tk F' No' st ⟨D, c, rfl, hD, hn⟩
  have nD := new_off No hn
  exact k h' tk D c F' (List.forall_mem_cons.mpr ⟨new_news F hn hD, No'⟩) st nD (fun q hq e => nD q hq e.symm)
/-- the law's data, apart from the table -/
inductive LawT (w : World) (h : Heap) (S : DSt) (tl : List (Addr × Obj)) : Prop
  | mk (hX : Heap) : LawD w hX S → hX.StaysIn h → (∀ p ∈ tl, hX.get? p.1 = none) → LawT w h S tl
theorem g_stays {hX h g : Heap} {tl : List (Addr × Obj)} (k : hX.StaysIn h) (n : ∀ p ∈ tl, hX.get? p.1 = none) (G : GSub h g (tl.map (·.1))) : hX.StaysIn g := fun b o e => G b o (k b o e) (not_map fun p hp z => no_of (n p hp) (z ▸ e))
theorem LawT.ground {w : World} {h g : Heap} {S : DSt} {tl : List (Addr × Obj)} (D : LawT w h S tl) (G : GSub h g (tl.map (·.1))) : LawD w g S := let ⟨_, h1, h2, h3⟩ := D; h1.keeps (g_stays h2 h3 G)
theorem ground_list {h g : Heap} {l : Addr} {xs : Array Value} {tl : List (Addr × Obj)} (hl : h.IsList l xs) (G : GSub h g (tl.map (·.1))) (hr : ∀ p ∈ tl, p.1 ≠ l) : g.IsList l xs := list_ground hl G hr
theorem c_cccw (w : World) (s : Shared) (S : DSt) (D : LawD w s.heap S) {c w0 : Int} (hc : c ∈ lawCodes) (hw : cccOf c = w0) (tn t : Tok) : Callee w 392 [.ref S.d, .str (Str.ofString "ccc") tn, .int c t] 3 s (Ext s fun v _ => ∃ t, v = .int w0 t) := hw ▸ c_ccc w s S D hc tn t
section
variable {prog : Program} {w : World} {A : Around} {E : Value → Shared → Prop} {s : Shared} {h₀ : Heap} {L I ax : Addr} {env : Env} {target : Expr} {body : List Stmt} {Q : Flow → Shared → Prop}
theorem one_end {oI lo : Obj} {s₁ : Shared} {h' : Heap} {tk : Nat} {m' : Str → Option Value} {pre post : List (Addr × Obj)} (F : Fr h₀ env.locals h' m') (N : News h₀ env.locals h' (pre ++ (I, oI) :: post)) (o1 : ∀ p ∈ pre, p.1 ≠ I) (o2 : ∀ p ∈ post, p.1 ≠ I) (hk : (ax, lo) ∈ pre ++ post)
    (k : ∀ h tk, Fr h₀ env.locals h m' → News h₀ env.locals h (pre ++ post) → Q .next { s with heap := h, toks := tk }) :
    UnrEndW h₀ env.locals s₁ [(I, oI)] (fun m' n' => SubL [(ax, lo)] n' ∧ ItemsRest prog w A E h₀ env target body Q s [(I, "list_iterator")] [(ax, lo)] [] m' n') { s₁ with heap := h', toks := tk } :=
  ⟨h', tk, m', pre ++ post, rfl, F, (fun p hp => (List.mem_append.mp hp).elim (fun hp => (List.mem_singleton.mp hp).symm ▸ N _ (List.mem_append_right _ (.head _))) fun hp => (List.mem_append.mp hp).elim (fun hp => N p (List.mem_append_left _ hp)) fun hp => N p (List.mem_append_right _ (.tail _ hp))),
    (fun p hp q hq => (List.mem_singleton.mp hq).symm ▸ (List.mem_append.mp hp).elim (o1 p) (o2 p)), ⟨hk, trivial⟩, k⟩
end
theorem kw_27_1 : True := by
  k_with "mine for" => first | (with_unfolding_all refine For_turns (by k_asm) ?_; walk_at "mine steps") | fail "no"
  k_with "mine turns" => first | (refine iter_listTurns (by rfl) (by k_asm) (by k_asm) (by k_mem) rfl rfl ?_; intro I'_k lI'_k; (refine ItemsRest.val ?_); intro h'_k tk'_k F'_k; (refine AllObj.cons (fun oI' hI' => AllObj.nil (fun N'_k => ?_))); (try dsimp only [List.cons_append, List.nil_append] at N'_k); (try k_lt lI'_k); (try k_fold)) | fail "no"
  k_with "mine enterT" => first | ((walk_at "mine enterN"); intro p_k loose_k mean_k mg_k mb_k dp_k un_k gd_k outer_k A₀_k base_k g_k L'_k h₁_k tk_k B_k F_k N_k G_k Z_k l1_k X_k T_k hdp_k hun_k; refine wpAny_gen ?_; intro Q_k hQ_k) | fail "no"
  k_with "mine far" => first | (first | assumption | exact fun p hp => Nat.ne_of_lt (allLt_mem (by assumption : AllLt _ _) p hp) | exact fun p hp => Nat.ne_of_lt (allLt_mem (by assumption : _ ∧ AllLt _ _).2 p hp) | exact fun p hp => Nat.ne_of_lt (allLt_mem (by assumption : _ ∧ _ ∧ AllLt _ _).2.2 p hp) | exact fun p hp => Nat.ne_of_lt (allLt_mem (by assumption : _ ∧ _ ∧ _ ∧ AllLt _ _).2.2.2 p hp) | exact fun p hp => Nat.ne_of_lt (allLt_mem (by assumption : _ ∧ _ ∧ _ ∧ _ ∧ AllLt _ _).2.2.2.2 p hp) | exact fun p hp => Nat.ne_of_lt (allLt_mem (by assumption : _ ∧ _ ∧ _ ∧ _ ∧ _ ∧ AllLt _ _).2.2.2.2.2 p hp) | exact fun p hp => Nat.ne_of_lt (allLt_mem (by assumption : _ ∧ _ ∧ _ ∧ _ ∧ _ ∧ _ ∧ AllLt _ _).2.2.2.2.2.2 p hp) | exact fun p hp => Nat.ne_of_lt (allLt_mem (by assumption : _ ∧ _ ∧ _ ∧ _ ∧ _ ∧ _ ∧ _ ∧ AllLt _ _).2.2.2.2.2.2.2 p hp) | exact fun p hp => Nat.ne_of_lt (allLt_mem (by assumption : _ ∧ _ ∧ _ ∧ _ ∧ _ ∧ _ ∧ _ ∧ _ ∧ AllLt _ _).2.2.2.2.2.2.2.2 p hp)) | fail "no"
  k_with "mine offown" => first | (first | exact List.forall_mem_nil _ | (refine List.forall_mem_cons.mpr ⟨?_, ?_⟩; (focus (walk_at "mine far")); (walk_at "mine offown"))) | fail "no"
  k_with "mine offI" => first | (first | exact List.forall_mem_nil _ | (refine List.forall_mem_cons.mpr ⟨?_, ?_⟩; (focus (show @Ne Nat _ _; k_ne)); (walk_at "mine offI")) | (walk_at "mine far")) | fail "no"
  trivial
local macro_rules | `(tactic| k_all) => `(tactic| (walk_at "mine far"))
theorem kw_27_2 : True := by
  k_with "call ref" => first | (k_here; (with_reducible show wpAny _ _ (call (Value.ref 115) _) _ _ _); refine frozen ?_) | fail "no"
  trivial
set_option maxHeartbeats 8000000 in
theorem c_ordered0 (w : World) (s : Shared) (S : DSt) (r : Addr) (c : Int) (t : Tok) (k : Nat) (hc : c ∈ lawCodes) (hw : cccOf c = 0) (tl : List (Addr × Obj)) (TL : TabL tl) (D : LawT w s.heap S ((r, oneO (.int c t) k) :: tl)) (hr : ∀ p ∈ tl, p.1 ≠ r) : CalleeN w 110 [.ref r, .ref S.d] 5 s ((r, oneO (.int c t) k) :: tl) (TPost s tl (NewList s [.int c t])) := by
  have tg_c_ordered0 : True := trivial
  walk_at "mine enterN"
  intro p loose mean mg mb dp un gd outer A₀ base g L' h₁ tk B F N G Z l1 X T hdp hun
  refine wpAny_gen ?_
  intro Q_k hQ_k
  have DG := D.ground G
  k_with "getMethod ref" => ((fail_if_success (fail_if_success (clear tg_c_ordered0))); k_dflt (refine data_meth DG (Fr.keep (by k_asm)) (by k_asm) (by k_asm) rfl ?_))
  (try k_lt l1)
  (try dsimp only)
  (try k_fold)
  k_with "call ref" => ((fail_if_success (fail_if_success (clear tg_c_ordered0))); first | (k_dflt (refine Callee.ext (c_cccw w _ S (DG.keeps (Fr.keep (by k_asm))) hc hw _ _) (by k_asm) (by k_asm) (by k_asm) (by k_asm) (by k_asm) (by first | exact rfl | assumption) (by walk_at "mine room") (by walk_at "mine room") ?_; rintro v' h' tk' F' N' - ⟨t', rfl⟩)) | fail "no")
  walk_at "mine steps"
  walk_at "mine for"
  walk_at "mine turns"
  walk_at "mine steps"
  refine Frozen.mk ?_
  rename News _ _ _ (_ :: _ :: _ :: _ :: _ :: tl) => NN
  refine CalleeN.tlistN (own := [_, _, _, _, _]) (c_sort0 w _ _ (News.isList NN (by k_mem)) tl TL (by walk_at "mine far")) (by k_asm) (by k_asm) NN (by k_asm) (by k_asm) (by first | exact rfl | assumption) (by walk_at "mine room") (by walk_at "mine room") (by walk_at "mine offown") (fun p hp => List.mem_append_right _ hp) ?_
  rintro h' tk' tl1 R1 k1 F1 N1 TL1 off1 nd1 dn1 nt1 dom1
  dsimp only [List.cons_append, List.nil_append] at N1
  have o1 := off1 _ (.head _)
  have o2 := off1 _ (.tail _ (.head _))
  have o3 := off1 _ (.tail _ (.tail _ (.head _)))
  have o4 := off1 _ (.tail _ (.tail _ (.tail _ (.head _))))
  have o5 := off1 _ (.tail _ (.tail _ (.tail _ (.tail _ (.head _)))))
  have n1 := nd1 _ (.head _)
  have n2 := nd1 _ (.tail _ (.head _))
  have n3 := nd1 _ (.tail _ (.tail _ (.head _)))
  have n4 := nd1 _ (.tail _ (.tail _ (.tail _ (.head _))))
  have n5 := nd1 _ (.tail _ (.tail _ (.tail _ (.tail _ (.head _)))))
  have m1 := dn1 _ (.head _)
  have m2 := dn1 _ (.tail _ (.head _))
  have m3 := dn1 _ (.tail _ (.tail _ (.head _)))
  have m4 := dn1 _ (.tail _ (.tail _ (.tail _ (.head _))))
  have m5 := dn1 _ (.tail _ (.tail _ (.tail _ (.tail _ (.head _)))))
  dsimp only at o1 o2 o3 o4 o5 n1 n2 n3 n4 n5 m1 m2 m3 m4 m5
  clear off1 nd1 dn1
  clear NN TL
  (try k_fold)
  walk_at "mine steps"
  rename News _ _ _ (_ :: _ :: _ :: _ :: _ :: _ :: _ :: tl1) => NN
  refine one_end (pre := [_, _]) (by k_asm) NN (by walk_at "mine offI") (by walk_at "mine offI") (by dsimp only [List.cons_append, List.nil_append]; k_mem) ?_
  clear NN
  intro h2 tk2 F2 N2
  dsimp only [List.cons_append, List.nil_append] at N2
  (try k_fold)
  walk_at "mine steps"
  refine Frozen.mk ?_
  rename News _ _ _ (_ :: _ :: _ :: _ :: _ :: _ :: tl1) => NN
  refine CalleeN.tlistN (own := [_, _, _, _, _, _]) (c_sort0 w _ _ (News.isList NN (by k_mem)) tl1 TL1 (by walk_at "mine far")) (by k_asm) (by k_asm) NN (by k_asm) (by k_asm) (by first | exact rfl | assumption) (by walk_at "mine room") (by walk_at "mine room") (by walk_at "mine offown") (fun p hp => List.mem_append_right _ hp) ?_
  rintro h' tk' tl2 R2 k2 F3 N3 TL2 off2 nd2 dn2 nt2 dom2
  dsimp only [List.cons_append, List.nil_append] at N3
  have o1 := off2 _ (.head _)
  have o2 := off2 _ (.tail _ (.head _))
  have o3 := off2 _ (.tail _ (.tail _ (.head _)))
  have o4 := off2 _ (.tail _ (.tail _ (.tail _ (.head _))))
  have o5 := off2 _ (.tail _ (.tail _ (.tail _ (.tail _ (.head _)))))
  have o6 := off2 _ (.tail _ (.tail _ (.tail _ (.tail _ (.tail _ (.head _))))))
  have n1 := nd2 _ (.head _)
  have n2 := nd2 _ (.tail _ (.head _))
  have n3 := nd2 _ (.tail _ (.tail _ (.head _)))
  have n4 := nd2 _ (.tail _ (.tail _ (.tail _ (.head _))))
  have n5 := nd2 _ (.tail _ (.tail _ (.tail _ (.tail _ (.head _)))))
  have n6 := nd2 _ (.tail _ (.tail _ (.tail _ (.tail _ (.tail _ (.head _))))))
  have m1 := dn2 _ (.head _)
  have m2 := dn2 _ (.tail _ (.head _))
  have m3 := dn2 _ (.tail _ (.tail _ (.head _)))
  have m4 := dn2 _ (.tail _ (.tail _ (.tail _ (.head _))))
  have m5 := dn2 _ (.tail _ (.tail _ (.tail _ (.tail _ (.head _)))))
  have m6 := dn2 _ (.tail _ (.tail _ (.tail _ (.tail _ (.tail _ (.head _))))))
  dsimp only at o1 o2 o3 o4 o5 o6 n1 n2 n3 n4 n5 n6 m1 m2 m3 m4 m5 m6
  clear off2 nd2 dn2
  clear NN TL1
  (try k_fold)
  walk_at "mine steps"
  refine tpostX G Z (by k_asm) (by k_asm) (by k_mem) (by walk_at "mine sub") TL2 (by walk_at "mine far") (dom_trans dom1 dom2) (newlist_of G Z (by k_asm) (by k_mem) (by walk_at "mine offI"))

theorem kw_28_1 : True := by
  k_with "mine offown2" => first | (first | exact List.forall_mem_nil _ | (refine List.forall_mem_cons.mpr ⟨?_, ?_⟩; (focus (walk_at "mine offI")); (walk_at "mine offown2"))) | fail "no"
  trivial
set_option maxHeartbeats 8000000 in
theorem c_ordered9 (w : World) (s : Shared) (S : DSt) (r : Addr) (c : Int) (t : Tok) (k : Nat) (hc : c ∈ lawCodes) (hw : cccOf c = 9) (tl : List (Addr × Obj)) (TL : TabL tl) (D : LawT w s.heap S ((r, oneO (.int c t) k) :: tl)) (hr : ∀ p ∈ tl, p.1 ≠ r) : CalleeN w 110 [.ref r, .ref S.d] 5 s ((r, oneO (.int c t) k) :: tl) (TPost s tl (NewList s [.int c t])) := by
  have tg_c_ordered9 : True := trivial
  walk_at "mine enterN"
  intro p loose mean mg mb dp un gd outer A₀ base g L' h₁ tk B F N G Z l1 X T hdp hun
  refine wpAny_gen ?_
  intro Q_k hQ_k
  have DG := D.ground G
  k_with "getMethod ref" => ((fail_if_success (fail_if_success (clear tg_c_ordered9))); k_dflt (refine data_meth DG (Fr.keep (by k_asm)) (by k_asm) (by k_asm) rfl ?_))
  (try k_lt l1)
  (try dsimp only)
  (try k_fold)
  k_with "call ref" => ((fail_if_success (fail_if_success (clear tg_c_ordered9))); first | (k_dflt (refine Callee.ext (c_cccw w _ S (DG.keeps (Fr.keep (by k_asm))) hc hw _ _) (by k_asm) (by k_asm) (by k_asm) (by k_asm) (by k_asm) (by first | exact rfl | assumption) (by walk_at "mine room") (by walk_at "mine room") ?_; rintro v' h' tk' F' N' - ⟨t', rfl⟩)) | fail "no")
  walk_at "mine steps"
  walk_at "mine for"
  walk_at "mine turns"
  walk_at "mine steps"
  rename News _ _ _ (_ :: _ :: _ :: _ :: _ :: _ :: tl) => NN
  refine one_end (pre := [_]) (by k_asm) NN (by walk_at "mine offI") (by walk_at "mine offI") (by dsimp only [List.cons_append, List.nil_append]; k_mem) ?_
  clear NN
  intro h2 tk2 F2 N2
  dsimp only [List.cons_append, List.nil_append] at N2
  (try k_fold)
  walk_at "mine steps"
  refine Frozen.mk ?_
  rename News _ _ _ (_ :: _ :: _ :: _ :: _ :: tl) => NN
  refine CalleeN.tlistN (own := [_, _, _, _, _]) (c_sort1 w _ _ _ _ _ c (News.isList NN (.tail _ (.tail _ (.head _)))) tl TL (by walk_at "mine offI") (by walk_at "mine far")) (by k_asm) (by k_asm) NN (by k_asm) (by k_asm) (by first | exact rfl | assumption) (by walk_at "mine room") (by walk_at "mine room") (by walk_at "mine offown") (List.forall_mem_cons.mpr ⟨.head _, fun p hp => List.mem_append_right _ hp⟩) ?_
  rintro h' tk' tl2 R2 k2 F3 N3 TL2 off2 nd2 dn2 nt2 dom2
  dsimp only [List.cons_append, List.nil_append] at N3
  have o1 := off2 _ (.head _)
  have o2 := off2 _ (.tail _ (.head _))
  have o3 := off2 _ (.tail _ (.tail _ (.head _)))
  have o4 := off2 _ (.tail _ (.tail _ (.tail _ (.head _))))
  have o5 := off2 _ (.tail _ (.tail _ (.tail _ (.tail _ (.head _)))))
  have n1 := nd2 _ (.head _)
  have n2 := nd2 _ (.tail _ (.head _))
  have n3 := nd2 _ (.tail _ (.tail _ (.head _)))
  have n4 := nd2 _ (.tail _ (.tail _ (.tail _ (.head _))))
  have n5 := nd2 _ (.tail _ (.tail _ (.tail _ (.tail _ (.head _)))))
  have m1 := dn2 _ (.head _)
  have m2 := dn2 _ (.tail _ (.head _))
  have m3 := dn2 _ (.tail _ (.tail _ (.head _)))
  have m4 := dn2 _ (.tail _ (.tail _ (.tail _ (.head _))))
  have m5 := dn2 _ (.tail _ (.tail _ (.tail _ (.tail _ (.head _)))))
  dsimp only at o1 o2 o3 o4 o5 n1 n2 n3 n4 n5 m1 m2 m3 m4 m5
  clear off2 nd2 dn2
  clear NN TL
  (try k_fold)
  walk_at "mine steps"
  refine tpostX G Z (by k_asm) (by k_asm) (by k_mem) (by walk_at "mine sub") TL2 (by walk_at "mine far") dom2 (newlist_of G Z (by k_asm) (by k_mem) (by walk_at "mine offI"))

theorem kw_29_1 : True := by
  k_with "call ref" => first | (k_here; (with_reducible show wpAny _ _ (call (Value.ref 103) _) _ _ _); refine frozen ?_) | fail "no"
  k_with "call ref" => first | (k_here; (with_reducible show wpAny _ _ (call (Value.ref 110) _) _ _ _); refine frozen ?_) | fail "no"
  trivial
theorem c_ordered (w : World) (s : Shared) (S : DSt) (r : Addr) (c : Int) (t : Tok) (k : Nat) (hc : c ∈ lawCodes) (tl : List (Addr × Obj)) (TL : TabL tl) (D : LawT w s.heap S ((r, oneO (.int c t) k) :: tl)) (hr : ∀ p ∈ tl, p.1 ≠ r) : CalleeN w 110 [.ref r, .ref S.d] 5 s ((r, oneO (.int c t) k) :: tl) (TPost s tl (NewList s [.int c t])) := by
  by_cases h : c = 2381
  · exact c_ordered9 w s S r c t k hc (ccc9.mpr h) tl TL D hr
  · exact c_ordered0 w s S r c t k hc (by unfold cccOf; rw [if_neg h]) tl TL D hr
set_option maxHeartbeats 4000000 in
theorem c_parts (w : World) (s : Shared) (c : Int) (t : Tok) (hc : c < 44032) : Callee w 82 [.int c t] 2 s (Ext s fun v _ => v = .none) := by
  walk_at "mine enter"
  walk_at "mine body"
  walk_at "mine steps"
  all_goals try dsimp only
  all_goals exact Ext.intro (Fr.keep (by assumption)) rfl
theorem codes_lt {c : Int} (h : c ∈ lawCodes) : 0 < c ∧ c < 44032 := by
  have := List.all_eq_true.mp (by decide +kernel : (lawCodes.all fun c => decide (0 < c) && decide (c < 44032)) = true) c h
  simpa using this
theorem dm_reads : lawCodes.map (readA dmA) = lawCodes.map (fun _ => some .none) := by kernel_rfl
theorem c_dm (w : World) (s : Shared) (S : DSt) (D : LawD w s.heap S) (hdm : findA S.abs (Str.ofString "dm") = some dmA) {c : Int} (hc : c ∈ lawCodes) (tn t : Tok) : Callee w 392 [.ref S.d, .str (Str.ofString "dm") tn, .int c t] 3 s (Ext s fun v _ => v = .none) := by
  exact (c_lget w s S D.ok hdm (List.map_inj_left.mp dm_reads c hc) tn t).to fun v s' x => x.to fun v h' ⟨a, r⟩ => reads_none r
set_option maxHeartbeats 4000000 in
theorem c_mapping (w : World) (s : Shared) (S : DSt) (D : LawD w s.heap S) (hdm : findA S.abs (Str.ofString "dm") = some dmA) {c : Int} (hc : c ∈ lawCodes) (t : Tok) (b : Bool) : Callee w 96 [.int c t, .ref S.d, .bool b] 5 s (Ext s fun v _ => v = .none) := by
  have tg_c_mapping : True := trivial
  have hlt := codes_lt hc
  k_with "getMethod ref" => ((fail_if_success (fail_if_success (clear tg_c_mapping))); k_dflt (refine data_meth D (Fr.keep (by k_asm)) (by k_asm) (by k_asm) rfl ?_))
  walk_at "mine enter"
  walk_at "mine body"
  k_with "call ref" => ((fail_if_success (fail_if_success (clear tg_c_mapping))); first | (k_dflt (first
    | (refine Callee.ext (c_parts w _ c _ hlt.2) (by k_asm) (by k_asm) (by k_asm) (by k_asm) (by k_asm) (by first | exact rfl | assumption) (by walk_at "mine room") (by walk_at "mine room") ?_; rintro v' h' tk' F' N' - rfl)
    | (refine Callee.ext (c_dm w _ S (D.keeps (Fr.keep (by k_asm))) hdm hc _ _) (by k_asm) (by k_asm) (by k_asm) (by k_asm) (by k_asm) (by first | exact rfl | assumption) (by walk_at "mine room") (by walk_at "mine room") ?_; rintro v' h' tk' F' N' - rfl))) | fail "no")
  walk_at "mine steps"
  all_goals try dsimp only
  all_goals exact Ext.intro (Fr.keep (by assumption)) rfl
theorem newlist_ext {s : Shared} {h' : Heap} {L D : Addr} {m : Str → Option Value} {nn : List (Addr × Obj)} {vs : List Value} {k tk : Nat} (F : Fr s.heap L h' m) (N : News s.heap L h' nn) (hm : (D, ({ cls := .type "list", data := .seq vs.toArray k } : Obj)) ∈ nn) : Ext s (NewList s vs) (.ref D) { s with heap := h', toks := tk } :=
  Ext.intro (Fr.keep F) ⟨D, k, rfl, (N _ hm).1, (N _ hm).2.2⟩
set_option maxHeartbeats 4000000 in
theorem c_expand (w : World) (s : Shared) (S : DSt) (D : LawD w s.heap S) (hdm : findA S.abs (Str.ofString "dm") = some dmA) {c : Int} (hc : c ∈ lawCodes) (t : Tok) (b : Bool) : Callee w 103 [.int c t, .ref S.d, .bool b] 7 s (Ext s (NewList s [.int c t])) := by
  have tg_c_expand : True := trivial
  walk_at "mine enter"
  walk_at "mine body"
  k_with "call ref" => ((fail_if_success (fail_if_success (clear tg_c_expand))); first | (k_dflt (refine Callee.ext (c_mapping w _ S (D.keeps (Fr.keep (by k_asm))) hdm hc _ _) (by k_asm) (by k_asm) (by k_asm) (by k_asm) (by k_asm) (by first | exact rfl | assumption) (by walk_at "mine room") (by walk_at "mine room") ?_; rintro v' h' tk' F' N' - rfl)) | fail "no")
  walk_at "mine steps"
  all_goals try dsimp only
  all_goals exact newlist_ext (by k_asm) (by k_asm) (by k_mem)
theorem lawT_of {w : World} {g h : Heap} {L : Addr} {m : Str → Option Value} {S : DSt} {nn tl : List (Addr × Obj)} (D : LawD w g S) (F : Fr g L h m) (N : News g L h nn) (hs : ∀ p ∈ tl, p ∈ nn) : LawT w h S tl := ⟨g, D, F.keep, fun p hp => (N p (hs p hp)).2.2⟩
set_option maxHeartbeats 8000000 in
theorem c_decomp (w : World) (s : Shared) (S : DSt) (r : Addr) (c : Int) (t : Tok) (k : Nat) (hc : c ∈ lawCodes) (tl : List (Addr × Obj)) (TL : TabL tl) (D : LawT w s.heap S ((r, oneO (.int c t) k) :: tl)) (hdm : findA S.abs (Str.ofString "dm") = some dmA) (hr : ∀ p ∈ tl, p.1 ≠ r) : CalleeN w 123 [.ref r, .ref S.d, .bool false] 10 s ((r, oneO (.int c t) k) :: tl) (TPost s tl (NewList s [.int c t])) := by
  walk_at "mine enterN"
  intro p loose mean mg mb dp un gd outer A₀ base g L' h₁ tk B F N G Z l1 X T hdp hun
  refine wpAny_gen ?_
  intro Q_k hQ_k
  have DG := D.ground G
  have tg_c_decomp : True := trivial
  k_with "getMethod ref" => ((fail_if_success (fail_if_success (clear tg_c_decomp))); k_dflt (refine data_meth DG (Fr.keep (by k_asm)) (by k_asm) (by k_asm) rfl ?_))
  (try k_lt l1)
  (try dsimp only)
  (try k_fold)
  walk_at "mine steps"
  walk_at "mine for"
  walk_at "mine turns"
  walk_at "mine steps"
  refine Frozen.mk ?_
  refine Callee.list (own := _ :: _ :: _ :: tl) (c_expand w _ S (DG.keeps (Fr.keep (by k_asm))) hdm hc t false) (by k_asm) (by k_asm) (by k_asm) (by k_asm) (by k_asm) (by first | exact rfl | assumption) (by walk_at "mine room") (by walk_at "mine room") ?_
  rintro h' tk' R1 k1 F1 N1 - nd1 dn1
  have n1 := nd1 _ (.head _)
  have n2 := nd1 _ (.tail _ (.head _))
  have n3 := nd1 _ (.tail _ (.tail _ (.head _)))
  have n4 : ∀ p ∈ tl, @Ne Nat p.1 R1 := fun p hp => nd1 p (.tail _ (.tail _ (.tail _ hp)))
  have m1 := dn1 _ (.head _)
  have m2 := dn1 _ (.tail _ (.head _))
  have m3 := dn1 _ (.tail _ (.tail _ (.head _)))
  have m4 : ∀ p ∈ tl, @Ne Nat R1 p.1 := fun p hp => dn1 p (.tail _ (.tail _ (.tail _ hp)))
  dsimp only at n1 n2 n3 n4 m1 m2 m3 m4
  clear nd1 dn1
  have n4' : ∀ p ∈ tl, p.1 ≠ R1 := n4
  (try k_fold)
  walk_at "mine steps"
  rename News _ _ _ (_ :: _ :: _ :: _ :: tl) => NN
  refine one_end (pre := [_]) (by k_asm) NN (by walk_at "mine offI") (by walk_at "mine offI") (by dsimp only [List.cons_append, List.nil_append]; k_mem) ?_
  clear NN
  intro h2 tk2 F2 N2
  dsimp only [List.cons_append, List.nil_append] at N2
  (try k_fold)
  walk_at "mine steps"
  refine Frozen.mk ?_
  rename News _ _ _ (_ :: _ :: _ :: tl) => NN
  refine CalleeN.tlistN (own := [_, _, _]) (c_ordered w _ S _ c t _ hc tl TL (lawT_of DG (by k_asm) NN (List.forall_mem_cons.mpr ⟨.tail _ (.head _), fun p hp => .tail _ (.tail _ (.tail _ hp))⟩)) (by walk_at "mine far")) (by k_asm) (by k_asm) NN (by k_asm) (by k_asm) (by first | exact rfl | assumption) (by walk_at "mine room") (by walk_at "mine room") (by walk_at "mine offown") (List.forall_mem_cons.mpr ⟨.tail _ (.head _), fun p hp => List.mem_append_right _ hp⟩) ?_
  rintro h' tk' tl2 R2 k2 F3 N3 TL2 off2 nd2 dn2 nt2 dom2
  dsimp only [List.cons_append, List.nil_append] at N3
  have o1 := off2 _ (.head _)
  have o2 := off2 _ (.tail _ (.head _))
  have o3 := off2 _ (.tail _ (.tail _ (.head _)))
  have e1 := nd2 _ (.head _)
  have e2 := nd2 _ (.tail _ (.head _))
  have e3 := nd2 _ (.tail _ (.tail _ (.head _)))
  dsimp only at o1 o2 o3 e1 e2 e3
  clear off2 nd2 dn2
  clear NN TL
  (try k_fold)
  walk_at "mine steps"
  refine tpostX G Z (by k_asm) (by k_asm) (by k_mem) (by walk_at "mine sub") TL2 (by walk_at "mine far") dom2 (newlist_of G Z (by k_asm) (by k_mem) (List.forall_mem_cons.mpr ⟨e3, off_old dom2 nt2⟩))

/-- a Composer without pairs -/
inductive ComAt (w : World) (h : Heap) (co : Addr) : Prop
  | mk (cx pd sd : Addr) (t1 t2 : Tok) : h.get? co = some (instObj 168 cx) → h.get? cx = some (dictOf [⟨PyData.keyHash w.params (Str.ofString "pairs"), .str (Str.ofString "pairs") t1, .ref pd⟩, ⟨PyData.keyHash w.params (Str.ofString "seconds"), .str (Str.ofString "seconds") t2, .ref sd⟩] 2) → h.DictOf (intKind PR w) sd ([] : List (Int × Value)) → (sd == sysModules) = false → ComAt w h co
theorem ComAt.keeps {w : World} {h h' : Heap} {co : Addr} (C : ComAt w h co) (k : h.StaysIn h') : ComAt w h' co := let ⟨cx, pd, sd, t1, t2, a, b, c, d⟩ := C; ⟨cx, pd, sd, t1, t2, k _ _ a, k _ _ b, c.keep k, d⟩
/-- what a call leaves that turns nn and makes a new list -/
inductive LPost (s : Shared) (nn : List (Addr × Obj)) (xs : List Value) (v : Value) (s' : Shared) : Prop
  | mk (h' : Heap) (tk : Nat) : s' = { s with heap := h', toks := tk } → (∀ b o, s.heap.get? b = some o → b ∉ nn.map (·.1) → h'.get? b = some o) → NewList s xs v h' → LPost s nn xs v s'
theorem lpost {s : Shared} {tl : List (Addr × Obj)} {xs : List Value} {v : Value} {g h' : Heap} {L : Addr} {m : Str → Option Value} {tk : Nat} (G : GSub s.heap g (tl.map (·.1))) (F : Fr g L h' m) (p : NewList s xs v h') : LPost s tl xs v { s with heap := h', toks := tk } :=
  ⟨h', tk, rfl, fun b o q n => F.keep b o (G b o q n), p⟩
set_option maxHeartbeats 8000000 in
theorem c_composed_w (w : World) (s : Shared) (S : DSt) (r co : Addr) (c w0 : Int) (t : Tok) (k : Nat) (hc : c ∈ lawCodes) (hw : cccOf c = w0) (h09 : w0 = 0 ∨ w0 = 9) (hX : Heap) (D : LawD w hX S) (hS : hX.StaysIn s.heap) (hr : hX.get? r = none) : CalleeN w 180 [.ref r, .ref S.d, .ref co] 6 s [(r, oneO (.int c t) k)] (LPost s [(r, oneO (.int c t) k)] [.int c t]) := by
  have tg_c_composed_w : True := trivial
  walk_at "mine enterN"
  intro p loose mean mg mb dp un gd outer A₀ base g L' h₁ tk B F N G Z l1 X T hdp hun
  refine wpAny_gen ?_
  intro Q_k hQ_k
  have DG : LawD w g S := LawT.ground ⟨hX, D, hS, by intro p hp; rw [List.mem_singleton.mp hp]; exact hr⟩ G
  k_with "getMethod ref" => ((fail_if_success (fail_if_success (clear tg_c_composed_w))); k_dflt (refine data_meth DG (Fr.keep (by k_asm)) (by k_asm) (by k_asm) rfl ?_))
  (try k_lt l1)
  (try dsimp only)
  (try k_fold)
  k_with "call ref" => ((fail_if_success (fail_if_success (clear tg_c_composed_w))); first | (k_dflt (refine Callee.ext (c_cccw w _ S (DG.keeps (Fr.keep (by k_asm))) hc hw _ _) (by k_asm) (by k_asm) (by k_asm) (by k_asm) (by k_asm) (by first | exact rfl | assumption) (by walk_at "mine room") (by walk_at "mine room") ?_; rintro v' h' tk' F' N' - ⟨t', rfl⟩)) | fail "no")
  rcases h09 with rfl | rfl
  all_goals
    walk_at "mine steps"
  all_goals try dsimp only
  all_goals exact lpost G (by k_asm) (newlist_of G Z (by k_asm) (by k_mem) (by walk_at "mine offI"))
theorem ccc_or (c : Int) : cccOf c = 0 ∨ cccOf c = 9 := by
  unfold cccOf
  split
  · exact .inr rfl
  · exact .inl rfl
theorem c_composed (w : World) (s : Shared) (S : DSt) (r co : Addr) (c : Int) (t : Tok) (k : Nat) (hc : c ∈ lawCodes) (hX : Heap) (D : LawD w hX S) (hS : hX.StaysIn s.heap) (hr : hX.get? r = none) : CalleeN w 180 [.ref r, .ref S.d, .ref co] 6 s [(r, oneO (.int c t) k)] (LPost s [(r, oneO (.int c t) k)] [.int c t]) :=
  c_composed_w w s S r co c _ t k hc rfl (ccc_or c) hX D hS hr
theorem off_one {R : Addr} {o : Obj} {own : List (Addr × Obj)} (h : ∀ q ∈ own, @Ne Nat R q.1) : ∀ q ∈ own, ∀ p ∈ [(R, o)], p.1 ≠ q.1 := fun q hq p hp => by rw [List.mem_singleton.mp hp]; exact h q hq
theorem CalleeN.lone {w : World} {f : Addr} {vs xs : List Value} {d : Nat} {s : Shared} {nn own : List (Addr × Obj)} (C : CalleeN w f vs d s nn (LPost s nn xs))
    {p : Program} {loose : List Str} {mean : ExcName → Option Value} {mg mb : Str → Option Value} {dp un : Nat} {gd : Option (List Code)} {cn : Str} {cs : Scope} {L a : Addr} {ccd : Value} {cl : List (Str × Addr)} {outer : List Env} {A₀ : Around} {base h₀ : Heap} {m : Str → Option Value} {Q E : Value → Shared → Prop}
    (B : Below A₀ base outer h₀) (F : Fr h₀ L s.heap m) (Nn : News h₀ L s.heap nn) (No : News h₀ L s.heap own) (X : (Tp.heap_1 w.params).In h₀) (T : Top p loose mean mg mb h₀) (hk : cs.kind = .function) (hdp : dp + d < 1000) (hun : un + 40 * d < 9900)
    (hoff : ∀ q ∈ own, ∀ p ∈ nn, p.1 ≠ q.1)
    (k : ∀ h' tk D c, Fr h₀ L h' m → News h₀ L h' ((D, { cls := .type "list", data := .seq xs.toArray c }) :: own) → (∀ q ∈ own, @Ne Nat q.1 D) → (∀ q ∈ own, @Ne Nat D q.1) → (∀ q ∈ nn, @Ne Nat q.1 D) → Q (.ref D) { s with heap := h', toks := tk }) : wpAny (model PR w) (ktrTop dp un gd cn cs L a ccd cl outer) (call (.ref f) vs) Q E s := by
  refine wpAny_mono (C p loose mean mg mb dp un gd cn cs L a ccd cl outer A₀ base h₀ m B F Nn X T hk hdp hun) ?_ (fun _ _ h => h.elim)
  rintro v s' ⟨h', tk, rfl, h1, D, c, rfl, hD, hn⟩
  obtain ⟨⟨oL, a1, a2, hL, a3⟩, k1, k2⟩ := id F
  have nt : ∀ b, b ∈ nn.map (·.1) → b ≠ L ∧ h₀.get? b = none := fun b hb => by
    obtain ⟨q, hq, rfl⟩ := List.mem_map.mp hb
    exact (Nn q hq).2
  have nD : ∀ q ∈ own, @Ne Nat q.1 D := fun q hq e => by
    have e : q.1 = D := e
    have := (No q hq).1
    rw [e, hn] at this; cases this
  refine k h' tk D c ⟨⟨oL, a1, a2, h1 _ _ hL (fun z => (nt _ z).1 rfl), a3⟩, fun b o e => h1 b o (k1 b o e) (fun z => by rw [(nt _ z).2] at e; cases e), k2⟩ (fun p hp => ?_) nD (fun q hq e => nD q hq e.symm) (fun q hq e => by have e : q.1 = D := e; have := (Nn q hq).1; rw [e, hn] at this; cases this)
  rcases List.mem_cons.mp hp with rfl | hp
  · refine ⟨hD, (fun e => ?_), ?_⟩
    · rw [show D = L from e, hL] at hn; cases hn
    · show h₀.get? D = none
      cases y : h₀.get? D with
      | none => rfl
      | some o => rw [k1 _ _ y] at hn; cases hn
  · exact ⟨h1 _ _ (No p hp).1 (fun z => by obtain ⟨q, hq, e⟩ := List.mem_map.mp z; exact hoff p hp q hq e), (No p hp).2⟩
theorem kw_30_1 : True := by
  k_with "call ref" => first | (k_here; (with_reducible show wpAny _ _ (call (Value.ref 123) _) _ _ _); refine frozen ?_) | fail "no"
  k_with "call ref" => first | (k_here; (with_reducible show wpAny _ _ (call (Value.ref 180) _) _ _ _); refine frozen ?_) | fail "no"
  trivial
set_option maxHeartbeats 8000000 in
theorem c_formof (w : World) (s : Shared) (S : DSt) (r co : Addr) (c : Int) (t u : Tok) (k : Nat) (hc : c ∈ lawCodes) (tl : List (Addr × Obj)) (TL : TabL tl) (D : LawT w s.heap S ((r, oneO (.int c t) k) :: tl)) (hdm : findA S.abs (Str.ofString "dm") = some dmA) (hr : ∀ p ∈ tl, p.1 ≠ r) : CalleeN w 188 [.ref r, .ref S.d, .str (Str.ofString "nfc") u, .ref co] 12 s ((r, oneO (.int c t) k) :: tl) (TPost s tl (NewList s [.int c t])) := by
  walk_at "mine enterN"
  intro p loose mean mg mb dp un gd outer A₀ base g L' h₁ tk B F N G Z l1 X T hdp hun
  refine wpAny_gen ?_
  intro Q_k hQ_k
  have DG := D.ground G
  (try k_lt l1)
  (try dsimp only)
  (try k_fold)
  walk_at "mine steps"
  refine Frozen.mk ?_
  rename News _ _ _ (_ :: _ :: tl) => NN
  refine CalleeN.tlistN (own := [_, _]) (c_decomp w _ S _ c t _ hc tl TL (lawT_of DG (by k_asm) NN (fun p hp => .tail _ hp)) hdm hr) (by k_asm) (by k_asm) NN (by k_asm) (by k_asm) (by first | exact rfl | assumption) (by walk_at "mine room") (by walk_at "mine room") (by walk_at "mine offown") (List.forall_mem_cons.mpr ⟨.tail _ (.head _), fun p hp => List.mem_append_right _ hp⟩) ?_
  rintro h' tk' tl2 R2 k2 F3 N3 TL2 off2 nd2 dn2 nt2 dom2
  dsimp only [List.cons_append, List.nil_append] at N3
  have o1 := off2 _ (.head _)
  have o2 := off2 _ (.tail _ (.head _))
  have e1 := nd2 _ (.head _)
  have e2 := nd2 _ (.tail _ (.head _))
  have d1 := dn2 _ (.head _)
  have d2 := dn2 _ (.tail _ (.head _))
  dsimp only at o1 o2 e1 e2 d1 d2
  clear off2 nd2 dn2
  clear NN TL
  (try k_fold)
  walk_at "mine steps"
  refine Frozen.mk ?_
  rename News _ _ _ (_ :: _ :: _ :: _ :: tl2) => NN
  have nt2' : ∀ q ∈ tl2, @Ne Nat R2 q.1 := fun q hq e => nt2 q hq e.symm
  refine CalleeN.lone (nn := [_]) (own := _ :: _ :: _ :: tl2) (c_composed w _ S _ co c t _ hc g DG (Fr.keep (by k_asm)) (NN _ (.tail _ (.head _))).2.2) (by k_asm) (by k_asm) (news_less NN (List.forall_mem_cons.mpr ⟨.tail _ (.head _), List.forall_mem_nil _⟩)) (news_less NN (List.forall_mem_cons.mpr ⟨.head _, List.forall_mem_cons.mpr ⟨.tail _ (.tail _ (.head _)), List.forall_mem_cons.mpr ⟨.tail _ (.tail _ (.tail _ (.head _))), fun p hp => .tail _ (.tail _ (.tail _ (.tail _ hp)))⟩⟩⟩)) (by k_asm) (by k_asm) (by first | exact rfl | assumption) (by walk_at "mine room") (by walk_at "mine room") ?_ ?_
  · exact off_one (by walk_at "mine offI")
  rintro h' tk' R3 k3 F4 N4 nd3 dn3 nn3
  have f1 := nd3 _ (.head _)
  have f2 := nd3 _ (.tail _ (.head _))
  have f3 := nd3 _ (.tail _ (.tail _ (.head _)))
  have f4 : ∀ p ∈ tl2, @Ne Nat p.1 R3 := fun p hp => nd3 p (.tail _ (.tail _ (.tail _ hp)))
  dsimp only at f1 f2 f3 f4
  clear nd3 dn3 nn3
  clear NN
  (try k_fold)
  walk_at "mine steps"
  refine tpostX G Z (by k_asm) (by k_asm) (by k_mem) (by walk_at "mine sub") TL2 (by walk_at "mine far") dom2 (newlist_of G Z (by k_asm) (by k_mem) (List.forall_mem_cons.mpr ⟨f3, off_old dom2 f4⟩))

theorem kw_31_1 : True := by
  k_with "mine far" => first | (exact fun p hp => Nat.ne_of_lt ((by assumption : ∀ q ∈ _, @LT.lt Nat _ q.1 _) p hp)) | fail "no"
  trivial
theorem in_int_dict {w : World} {A : Around} {E : Value → Shared → Prop} {s : Shared} {g : Heap} {d : Addr} {kvs : List (Int × Value)} {x : Int} {t : Tok} {Q : Value → Shared → Prop} (hm : g.DictOf (intKind PR w) d kvs) (F : g.StaysIn s.heap) (hd : (d == sysModules) = false) (hv : valueAt kvs x = none) (h : Q (.bool false) { s with toks := s.toks + 1 }) : wpAny (model PR w) A (compareOp .In (.int x t) (.ref d)) Q E s :=
  wpAny_in_of (intKind_is PR w x t) hd (hm.keep F).mapOf (by rw [hv]; exact h)
theorem kw_31_2 : True := by
  k_with "compareOp In int ref" => first | (k_here; (with_reducible show wpAny _ _ (compareOp CmpOp.In (Value.int _ _) (Value.ref _)) _ _ _); k_dflt (refine' in_int_dict (by assumption) (by exact Fr.keep (by k_asm)) (by assumption) (by exact rfl) ?_; k_whole)) | fail "no"
  trivial
theorem codes_far {c : Int} (h : c ∈ lawCodes) : c < 4352 ∨ 8000 < c := by
  have := List.all_eq_true.mp (by decide +kernel : (lawCodes.all fun c => decide (c < 4352) || decide (8000 < c)) = true) c h
  simpa using this
set_option maxHeartbeats 4000000 in
theorem c_second (w : World) (s : Shared) (co : Addr) (C : ComAt w s.heap co) {c : Int} (hc : c ∈ lawCodes) (t : Tok) : Callee w 165 [.ref co, .int c t] 1 s (Ext s fun v _ => v = .bool false) := by
  obtain ⟨cx, pd, sd, q1, q2, hco, hcx, hsd, los⟩ := id C
  have hf := codes_far hc
  walk_at "mine enter"
  walk_at "mine body"
  rcases hf with hf | hf
  all_goals
    walk_at "mine steps"
  all_goals try dsimp only
  all_goals exact Ext.intro (Fr.keep (by assumption)) (congrArg Value.bool (decide_eq_false (by omega)))
theorem kw_31_3 : True := by
  k_with "call ref" => first | (k_here; (with_reducible show wpAny _ _ (call (Value.ref 188) _) _ _ _); refine frozen ?_) | fail "no"
  k_with "call ref" => first | (k_here; (with_reducible show wpAny _ _ (call (Value.ref 165) _) _ _ _); refine frozen ?_) | fail "no"
  trivial
set_option maxHeartbeats 8000000 in
theorem c_fquick (w : World) (s : Shared) (S : DSt) (co : Addr) (c : Int) (t u : Tok) (hc : c ∈ lawCodes) (tl : List (Addr × Obj)) (TL : TabL tl) (D : LawT w s.heap S tl) (hdm : findA S.abs (Str.ofString "dm") = some dmA) (C : ∃ hX, ComAt w hX co ∧ hX.StaysIn s.heap ∧ ∀ p ∈ tl, hX.get? p.1 = none) : CalleeN w 195 [.int c t, .ref S.d, .str (Str.ofString "nfc") u, .ref co] 14 s tl (TPost s tl fun v _ => ∃ t, v = .str (Str.ofString "yes") t) := by
  walk_at "mine enterN"
  intro p loose mean mg mb dp un gd outer A₀ base g L' h₁ tk B F N G Z l1 X T hdp hun
  refine wpAny_gen ?_
  intro Q_k hQ_k
  have DG := D.ground G
  have CG : ComAt w g co := by
    obtain ⟨hX, x1, x2, x3⟩ := C
    refine x1.keeps fun b o e => G b o (x2 b o e) fun q => ?_
    obtain ⟨p, hp, z⟩ := List.mem_map.mp q
    rw [← z, x3 p hp] at e; cases e
  obtain ⟨cx, pd, sd, q1, q2, hco, hcx, -, -⟩ := id CG
  (try k_lt l1)
  (try dsimp only)
  (try k_fold)
  walk_at "mine steps"
  refine Frozen.mk ?_
  rename News _ _ _ (_ :: tl) => NN
  refine CalleeN.tlistN (own := [_]) (c_formof w _ S _ co c t _ _ hc tl TL (lawT_of DG (by k_asm) NN (fun p hp => hp)) hdm (by walk_at "mine far")) (by k_asm) (by k_asm) NN (by k_asm) (by k_asm) (by first | exact rfl | assumption) (by walk_at "mine room") (by walk_at "mine room") (by walk_at "mine offown") (fun p hp => hp) ?_
  rintro h' tk' tl2 R2 k2 F3 N3 TL2 off2 nd2 dn2 nt2 dom2
  dsimp only [List.cons_append, List.nil_append] at N3
  have o1 := off2 _ (.head _)
  have e1 := nd2 _ (.head _)
  have d1 := dn2 _ (.head _)
  dsimp only at o1 e1 d1
  clear off2 nd2 dn2
  clear NN TL
  (try k_fold)
  walk_at "mine steps"
  refine Frozen.mk ?_
  refine Callee.list (own := _ :: _ :: _ :: _ :: tl2) (c_expand w _ S (DG.keeps (Fr.keep (by k_asm))) hdm hc t false) (by k_asm) (by k_asm) (by k_asm) (by k_asm) (by k_asm) (by first | exact rfl | assumption) (by walk_at "mine room") (by walk_at "mine room") ?_
  rintro h' tk' R1 k1 F1 N1 - nd1 dn1
  clear nd1 dn1
  (try k_fold)
  walk_at "mine steps"
  refine Frozen.mk ?_
  refine Callee.ext (c_second w _ co (CG.keeps (Fr.keep (by k_asm))) hc _) (by k_asm) (by k_asm) (by k_asm) (by k_asm) (by k_asm) (by first | exact rfl | assumption) (by walk_at "mine room") (by walk_at "mine room") ?_
  rintro v' h' tk' F4 N4 - rfl
  (try k_fold)
  walk_at "mine steps"
  refine tpost G (by k_asm) (by k_asm) (by walk_at "mine sub") TL2 dom2 ⟨_, rfl⟩

section
variable {prog : Program} {w : World} {A : Around} {E : Value → Shared → Prop} {s : Shared} {env : Env} {h₀ : Heap} {x : Str} {body : List Stmt} {Q : Flow → Shared → Prop}
/-- a for over a list of the base; its body may store names -/
theorem lp_listM {T : Addr} {vs : List Value} {m₀ : Str → Option Value} {news : List (Addr × Obj)} (J : Nat → (Str → Option Value) → List (Addr × Obj) → Prop) (hh : A.handled = none) (hT : h₀.IsList T vs.toArray) (F : Fr h₀ env.locals s.heap m₀) (N : News h₀ env.locals s.heap news) (hj : J 0 m₀ news)
    (turn : ∀ i v m news₁ h tk I oI, vs[i]? = some v → J i m news₁ → (∀ p ∈ news₁, p.1 ≠ I) → Fr h₀ env.locals h (fun y => if y = x then some v else m y) → News h₀ env.locals h ((I, oI) :: news₁) →
      wpAny (model prog w) A (execs body env) (LoopStepV h₀ env.locals [I] [(I, oI)] (J (i + 1)) { s with heap := h, toks := tk } (fun v s' => Q (.ret v) s') fun s' => Q .next s') E { s with heap := h, toks := tk })
    (done : ∀ m news₁ h tk, J vs.length m news₁ → Fr h₀ env.locals h m → News h₀ env.locals h news₁ → Q .next { s with heap := h, toks := tk }) :
    wpAny (model prog w) A (pyIter (.ref T)) (fun it s₂ => LoopAtV prog w A h₀ env x body Q E it s₂) E s := by
  have hl : s.heap.IsList T vs.toArray := isList_keeps hT F.keep
  have hlt : @LT.lt Nat _ T s.heap.objs.size := by
    obtain ⟨o, ho, _⟩ := hl
    exact Heap.lt_size ho
  have hT0 : ∃ o, h₀.get? T = some o := by obtain ⟨o, ho, _⟩ := hT; exact ⟨o, ho⟩
  have hTL : T ≠ env.locals := fun e => by
    obtain ⟨o, ho⟩ := hT0
    exact absurd (Nat.lt_of_lt_of_le (Heap.lt_size ho) F.above) (e ▸ Nat.lt_irrefl _)
  refine wpAny_pyIter_list hl ?_
  refine loopAt_of J (Walks.list hh s.heap.objs.size T (Nat.ne_of_lt hlt) vs.toArray) (off_two F.ns.lt hTL) ⟨⟨_, Heap.get?_push_size _ rfl, rfl, rfl⟩, hl.push _⟩ F N hj (fun i v m₁ news₁ h tk own _ hP hJ hoff hown hst' F₁ N₁ => ?_) fun m news₁ h tk hJ F' N' => done m news₁ h tk hJ F' N'
  obtain ⟨oI, hoI, -⟩ := hst'.1
  have ownI := own_one hoI (fun p hp => (own_two hown p hp).elim id fun e => by
    obtain ⟨o, ho⟩ := hT0
    exact (no_of (N₁ p (List.mem_append_left _ hp)).2.2 (show h₀.get? p.1 = some o from e ▸ ho)).elim) N₁
  exact wpAny_mono (turn i v m₁ news₁ h tk _ oI (List.getElem?_toArray ▸ hP) hJ hoff F₁ (List.forall_mem_cons.mpr ⟨⟨hoI, Nat.ne_of_gt F.ns.lt, next_is_new F⟩, fun p hp => N₁ p (List.mem_append_right _ hp)⟩)) (fun _ _ q => step_own ownI q) fun _ _ e => e
end
abbrev canonQ (A T W C : Option Value) (m : Str → Option Value) : Str → Option Value := fun y => if y = Str.ofString "ahead" then A else if y = Str.ofString "told" then T else if y = Str.ofString "weight" then W else if y = Str.ofString "code" then C else m y
theorem canon_self {m : Str → Option Value} : m = canonQ (m (Str.ofString "ahead")) (m (Str.ofString "told")) (m (Str.ofString "weight")) (m (Str.ofString "code")) m := by
  funext y
  unfold canonQ
  by_cases h1 : y = Str.ofString "ahead"
  · rw [if_pos h1, h1]
  by_cases h2 : y = Str.ofString "told"
  · rw [if_neg h1, if_pos h2, h2]
  by_cases h3 : y = Str.ofString "weight"
  · rw [if_neg h1, if_neg h2, if_pos h3, h3]
  by_cases h4 : y = Str.ofString "code"
  · rw [if_neg h1, if_neg h2, if_neg h3, if_pos h4, h4]
  · rw [if_neg h1, if_neg h2, if_neg h3, if_neg h4]
theorem canon_twice {A T W C A' T' W' C' : Option Value} {m : Str → Option Value} : canonQ A' T' W' C' (canonQ A T W C m) = canonQ A' T' W' C' m := by
  funext y
  unfold canonQ
  by_cases h1 : y = Str.ofString "ahead"
  · rw [if_pos h1, if_pos h1]
  by_cases h2 : y = Str.ofString "told"
  · rw [if_neg h1, if_pos h2, if_neg h1, if_pos h2]
  by_cases h3 : y = Str.ofString "weight"
  · rw [if_neg h1, if_neg h2, if_pos h3, if_neg h1, if_neg h2, if_pos h3]
  by_cases h4 : y = Str.ofString "code"
  · rw [if_neg h1, if_neg h2, if_neg h3, if_pos h4, if_neg h1, if_neg h2, if_neg h3, if_pos h4]
  · simp only [if_neg h1, if_neg h2, if_neg h3, if_neg h4]
inductive QcJ (m₀ : Str → Option Value) (tl : List (Addr × Obj)) (m : Str → Option Value) (nx : List (Addr × Obj)) : Prop
  | mk (a : Int) (t : Tok) (T W C : Option Value) : (a = 0 ∨ a = 9) → m = canonQ (some (.int a t)) T W C m₀ → TabL nx → (∀ p ∈ tl, p.1 ∈ nx.map (·.1)) → QcJ m₀ tl m nx
theorem qc_end {h₀ h' : Heap} {L I : Addr} {oI : Obj} {s₁ : Shared} {tk : Nat} {m₀ m2 : Str → Option Value} {tl tl2 : List (Addr × Obj)} (F : Fr h₀ L h' m2) (N : News h₀ L h' ((I, oI) :: tl2)) (offI : ∀ p ∈ tl2, p.1 ≠ I) (e : ∃ a t T W C, (a = 0 ∨ a = 9) ∧ m2 = canonQ (some (.int a t)) T W C m₀) (TL2 : TabL tl2) (dom : ∀ p ∈ tl, p.1 ∈ tl2.map (·.1)) : LoopStepU h₀ L [I] [(I, oI)] (QcJ m₀ tl) s₁ .next { s₁ with heap := h', toks := tk } :=
  let ⟨a, t, T, W, C, ha, e⟩ := e; LoopStepU.intro F N (fun p hp e => offI p hp (List.mem_singleton.mp e)) ⟨a, t, T, W, C, ha, e, TL2, dom⟩
theorem kw_32_1 : True := by
  k_with "call ref" => first | (k_here; (with_reducible show wpAny _ _ (call (Value.ref 195) _) _ _ _); refine frozen ?_) | fail "no"
  trivial
set_option maxHeartbeats 16000000 in
theorem c_qcheck (w : World) (s : Shared) (S : DSt) (l co : Addr) (vs : List Value) (ns : List Int) (B : Lab s.heap l vs ns) (u : Tok) (tl : List (Addr × Obj)) (TL : TabL tl) (D : LawT w s.heap S tl) (hdm : findA S.abs (Str.ofString "dm") = some dmA) (C : ∃ hX, ComAt w hX co ∧ hX.StaysIn s.heap ∧ ∀ p ∈ tl, hX.get? p.1 = none) (hl : ∀ p ∈ tl, p.1 ≠ l) : CalleeN w 203 [.ref l, .ref S.d, .str (Str.ofString "nfc") u, .ref co] 16 s tl (TPost s tl fun v _ => ∃ t, v = .str (Str.ofString "yes") t) := by
  have tg_c_qcheck : True := trivial
  have nf : NoFor := ⟨trivial⟩
  walk_at "mine enterN"
  intro p loose mean mg mb dp un gd outer A₀ base g L' h₁ tk BB F N G Z l1 X T hdp hun
  refine wpAny_gen ?_
  intro Q_k hQ_k
  have DG := D.ground G
  have CG : ComAt w g co := by
    obtain ⟨hX, x1, x2, x3⟩ := C
    exact x1.keeps (g_stays x2 x3 G)
  have hlg := ground_list B.list G hl
  k_with "getMethod ref" => ((fail_if_success (fail_if_success (clear tg_c_qcheck))); k_dflt (refine data_meth DG (Fr.keep (by k_asm)) (by k_asm) (by k_asm) rfl ?_))
  (try k_lt l1)
  (try dsimp only)
  (try k_fold)
  walk_at "mine steps"
  refine Frozen.mk ?_
  with_reducible refine' For_invV g ?hx ?hp ?h ?hs ?hE
  case hx => rfl
  case hp => rfl
  case hs => intro _; rfl
  case hE => exact PassesOwn.never
  walk_at "mine steps"
  refine Frozen.mk ?_
  rename News _ _ _ (_ :: tl) => NN
  refine lp_listM (fun _ => QcJ _ tl) rfl hlg (by k_asm) (news_less NN (fun p hp => .tail _ hp)) ⟨0, _, _, _, _, .inl rfl, canon_self, TL, fun p hp => List.mem_map_of_mem hp⟩ ?_ ?_
  · intro i v m tl1 h2 tk2 I oI hi J9 hoff F2 N2
    walk_at "mine gen"
    obtain ⟨a, ta, Tt, W, Cc, ha, rfl, TL1, dom1⟩ := J9
    obtain ⟨c, t, rfl, hc0⟩ := ints_get B.nums hi
    have hc := B.codes c (List.mem_of_getElem? hc0)
    have hw := ccc_or c
    generalize hwv : cccOf c = w0 at hw
    clear NN
    (try k_fold)
    k_with "call ref" => ((fail_if_success (fail_if_success (clear tg_c_qcheck))); first | (k_dflt (refine Callee.ext (c_cccw w _ S (DG.keeps (Fr.keep (by k_asm))) hc hwv _ _) (by k_asm) (by k_asm) (by k_asm) (by k_asm) (by k_asm) (by first | exact rfl | assumption) (by walk_at "mine room") (by walk_at "mine room") ?_; rintro v' h' tk' F' N' - ⟨t', rfl⟩)) | fail "no")
    walk_at "mine steps"
    refine Frozen.mk ?_
    rename News _ _ _ ((I, oI) :: tl1) => NN
    refine CalleeN.tuse (own := [_]) (c_fquick w _ S co c t _ hc tl1 TL1 (lawT_of DG (by k_asm) NN (fun p hp => .tail _ hp)) hdm ⟨g, CG, Fr.keep (by k_asm), fun p hp => (NN p (.tail _ hp)).2.2⟩) (by k_asm) (by k_asm) (news_less NN (fun p hp => .tail _ hp)) NN (by k_asm) (by k_asm) (by first | exact rfl | assumption) (by walk_at "mine room") (by walk_at "mine room") (by intro q hq p hp; rw [List.mem_singleton.mp hq]; exact hoff p hp) ?_
    rintro v' h3 tk3 tl2 F3 No3 Nt3 TL2 off3 dom2 ⟨ty, rfl⟩
    have N3 : News g _ h3 ((I, oI) :: tl2) := List.forall_mem_cons.mpr ⟨No3 _ (.head _), Nt3⟩
    have offI : ∀ p ∈ tl2, p.1 ≠ I := fun p hp => off3 _ (.head _) p hp
    clear NN No3 Nt3
    (try k_fold)
    rcases hw with rfl | rfl <;> rcases ha with rfl | rfl
    all_goals
      walk_at "mine steps"
      refine qc_end (by k_asm) (by k_asm) offI ?_ TL2 (dom_trans dom1 dom2)
      exact ⟨_, _, _, _, _, by first | exact .inl rfl | exact .inr rfl, canon_twice⟩
  · rintro m tl1 h2 tk2 ⟨a, ta, Tt, W, Cc, ha, rfl, TL1, dom1⟩ F2 N2
    clear NN
    (try k_fold)
    walk_at "mine steps"
    refine tpost G (by k_asm) (by k_asm) (by walk_at "mine sub") TL1 dom1 ⟨_, rfl⟩

theorem kw_33_1 : True := by
  k_with "exec For Tuple Call" => first | (k_here; (have nf9 : NoFor := by assumption); refine frozen ?_) | fail "no"
  k_with "exec For Tuple Call cons nil" => first | (k_here; (have nf9 : NoFor := by assumption); refine frozen ?_) | fail "no"
  trivial
theorem keep2 {g g1 h : Heap} {L1 L2 : Addr} {m1 m2 : Str → Option Value} (F2 : Fr g1 L2 h m2) (F1 : Fr g L1 g1 m1) : g.StaysIn h := fun b o e => F2.keep b o (F1.keep b o e)
theorem kw_33_2 : True := by
  k_with "mine keep" => first | (first | exact Fr.keep (by k_asm) | exact keep2 (by k_asm) (by k_asm)) | fail "no"
  trivial
def BodyCN (w : World) (qual : Str) (scope : Scope) (f : Addr) (cdv : Value) (body : List Stmt) (d : Nat) (s : Shared) (news : List (Addr × Obj)) (binds : List (Str × Value)) (post : Value → Shared → Prop) : Prop :=
  ∀ (p : Program) (loose : List Str) (mean : ExcName → Option Value) (mg mb : Str → Option Value) (dp un : Nat) (gd : Option (List Code)) (outer : List Env) (A₀ : Around) (base g : Heap) (L' : Addr) (h₁ : Heap) (tk : Nat) (cells : List (Addr × Obj)),
    Below A₀ base outer g → Fr g L' h₁ (bindL (envOfC qual scope L' f cdv).kindOf binds fun _ => none) → News g L' h₁ (cells ++ news) → CellsAre (bindC (envOfC qual scope L' f cdv).kindOf binds fun _ => none) (cellsFrom (L' + 1) scope.names []) cells → GSub s.heap g (news.map (·.1)) → (∀ p ∈ news, s.heap.get? p.1 = some p.2) → (∀ p ∈ news, p.1 < L') → (Tp.heap_1 w.params).In g → Top p loose mean mg mb g → dp + d ≤ 1000 → un + 40 * d ≤ 9936 →
    wpAny (model PR w) (ktrTop dp un gd qual scope L' f cdv (cellsFrom (L' + 1) scope.names []) outer) (execs body (envOfC qual scope L' f cdv)) (fun fl s' => post (match fl with | .ret v => v | _ => .none) s') NoE { s with heap := h₁, toks := tk }
theorem enterCN {w : World} {f : Addr} {vs : List Value} {d : Nat} {s : Shared} {news : List (Addr × Obj)} {post : Value → Shared → Prop} {name qual : Str} {params : Arguments} {body : List Stmt} {scope : Scope} {dV kV doc pm cdv ct oc : Value} {an od : Option Addr} {osl : Array (Option Value)} {binds : List (Str × Value)}
    (ho : (Tp.heap_1 w.params).lookup f = some ⟨oc, od, .func (fnOf name qual params body scope dV kV doc pm an cdv ct), osl⟩) (hcd : codeIn (Tp.heap_1 w.params) cdv qual = true)
    (hbind : (Tp.heap_1 w.params).In s.heap → BindsTo s (fnOf name qual params body scope dV kV doc pm an cdv ct) ⟨vs, []⟩ binds) (hkind : (binds.all fun y => scope.names.lookup y.1 == some .local || scope.names.lookup y.1 == some .cell) = true)
    (hnd : ((cellsFrom 0 scope.names []).map (·.1)).Nodup)
    (h : BodyCN w qual scope f cdv body d s news binds post)
    (hco : scope.isCoroutine = false := by rfl) (hgen : scope.isGenerator = false := by rfl) (hk : scope.kind = .function := by rfl) : CalleeN w f vs d s news post := by
  intro p loose mean mg mb dp un gd cn cs L a ccd cl outer A₀ base h₀ m B F N X T hck hd hu
  have X' : (Tp.heap_1 w.params).In s.heap := Frag.In.keeps X F.keep
  obtain ⟨FG, BG, st, _⟩ := groundX (A := ktrTop dp un gd cn cs L a ccd cl outer) (env := envX cn cs L a ccd cl) (R := fun _ _ => True) B F N rfl rfl hck
  have st' : ∀ b o, h₀.get? b = some o → (hideAll s.heap (news.map (·.1))).get? b = some o := st
  refine wpAny_call ?_
  refine codeAny_call_function (fd := fnOf name qual params body scope dV kV doc pm an cdv ct) (by show dp < recursionLimit; unfold recursionLimit; omega) (X' _ _ ho) rfl hco hgen rfl (codeRec_of X' hcd) (hbind X' _ _ _ _ ?_)
  refine wpAny_newFunctionEnv_cells hk (kindsX hkind _) fun env' he s' x => ?_
  subst he
  refine ⟨(T.nolimit.keeps F.keep).keeps x.toInCall.keep, codeAny_func ?_⟩
  obtain ⟨h₁, tk, rfl, _⟩ := x.done
  have hk₁ := x.toInCall.keep
  obtain ⟨cells, NC, Y⟩ := Cl.news (h₀ := s.heap) (Nat.le_refl _) fun n c hm => ⟨x.cell n c (lookup_of_mem_nodup (cellsFrom_names scope.names 0 (s.heap.objs.size + 1) [] [] rfl ▸ hnd) hm), x.above n c hm⟩
  refine wpAny_mono (h p loose mean mg mb (dp + 1) (un + 3) gd (envX cn cs L a ccd cl :: outer) _ base (hideAll s.heap (news.map (·.1))) s.heap.objs.size h₁ tk cells BG ⟨x.toInCall.ns, fun b o e => hk₁ b o (of_hideAll _ e), Nat.le_of_eq (hideAll_size _ _)⟩ (fun p hp => ?_) Y (fun b o e n => hideAll_get _ e n) (fun p hp => (N p hp).1) (fun p hp => Heap.lt_size (N p hp).1) (X.keeps st') (T.keeps st') (by omega) (by omega)) (fun fl s' hp => hp) (fun _ _ x => x.elim)
  rcases List.mem_append.mp hp with hp | hp
  · refine ⟨(NC p hp).1, (NC p hp).2.1, ?_⟩
    cases q : (hideAll s.heap (news.map (·.1))).get? p.1 with
    | none => rfl
    | some o => have := of_hideAll _ q; rw [(NC p hp).2.2] at this; cases this
  · exact ⟨hk₁ _ _ (N p hp).1, Nat.ne_of_lt (Heap.lt_size (N p hp).1), hideAll_none _ (List.mem_map_of_mem hp)⟩
theorem kw_33_3 : True := by
  k_with "mine enterCN" => first | (refine' enterCN (by k_is) (by k_is) (by (intro X9_k; first | exact BindsTo.of_eq rfl | exact binds_K X9_k rfl (by k_is) rfl rfl rfl)) (by exact rfl) (by decide +kernel) ?_ (by exact rfl) (by exact rfl) (by exact rfl)) | fail "no"
  trivial
theorem lpostX {s : Shared} {ex nn : List (Addr × Obj)} {xs : List Value} {v : Value} {g h' : Heap} {L : Addr} {m : Str → Option Value} {tk : Nat} (G : GSub s.heap g (ex.map (·.1))) (Z : ∀ p ∈ ex, s.heap.get? p.1 = some p.2) (F : Fr g L h' m) (N : News g L h' nn) (hex : ∀ p ∈ ex, p ∈ nn) (p : NewList s xs v h') : LPost s [] xs v { s with heap := h', toks := tk } :=
  ⟨h', tk, rfl, fun b o q _ => by
    by_cases hb : b ∈ ex.map (·.1)
    · obtain ⟨p, hp, rfl⟩ := List.mem_map.mp hb
      rw [Z p hp] at q
      rw [← q]
      exact (N p (hex p hp)).1
    · exact F.keep b o (G b o q hb), p⟩
theorem CalleeN.lone0 {w : World} {f : Addr} {vs xs : List Value} {d : Nat} {s : Shared} {nn own : List (Addr × Obj)} (C : CalleeN w f vs d s nn (LPost s [] xs))
    {p : Program} {loose : List Str} {mean : ExcName → Option Value} {mg mb : Str → Option Value} {dp un : Nat} {gd : Option (List Code)} {cn : Str} {cs : Scope} {L a : Addr} {ccd : Value} {cl : List (Str × Addr)} {outer : List Env} {A₀ : Around} {base h₀ : Heap} {m : Str → Option Value} {Q E : Value → Shared → Prop}
    (B : Below A₀ base outer h₀) (F : Fr h₀ L s.heap m) (Nn : News h₀ L s.heap nn) (No : News h₀ L s.heap own) (X : (Tp.heap_1 w.params).In h₀) (T : Top p loose mean mg mb h₀) (hk : cs.kind = .function) (hdp : dp + d < 1000) (hun : un + 40 * d < 9900)
    (k : ∀ h' tk D c, Fr h₀ L h' m → News h₀ L h' ((D, { cls := .type "list", data := .seq xs.toArray c }) :: own) → s.heap.StaysIn h' → (∀ q ∈ own, @Ne Nat q.1 D) → (∀ q ∈ own, @Ne Nat D q.1) → Q (.ref D) { s with heap := h', toks := tk }) : wpAny (model PR w) (ktrTop dp un gd cn cs L a ccd cl outer) (call (.ref f) vs) Q E s := by
  refine wpAny_mono (C p loose mean mg mb dp un gd cn cs L a ccd cl outer A₀ base h₀ m B F Nn X T hk hdp hun) ?_ (fun _ _ h => h.elim)
  rintro v s' ⟨h', tk, rfl, h1, D, c, rfl, hD, hn⟩
  have st : s.heap.StaysIn h' := fun b o e => h1 b o e (by simp)
  have nD : ∀ q ∈ own, @Ne Nat q.1 D := fun q hq e => by
    have e : q.1 = D := e
    have := (No q hq).1
    rw [e, hn] at this; cases this
  refine k h' tk D c (fr_stays F st) (fun p hp => ?_) st nD (fun q hq e => nD q hq e.symm)
  rcases List.mem_cons.mp hp with rfl | hp
  · refine ⟨hD, (fun e => ?_), ?_⟩
    · obtain ⟨⟨oL, _, _, hL, _⟩, _, _⟩ := F
      rw [show D = L from e, hL] at hn; cases hn
    · show h₀.get? D = none
      cases y : h₀.get? D with
      | none => rfl
      | some o => rw [F.keep _ _ y] at hn; cases hn
  · exact ⟨st _ _ (No p hp).1, (No p hp).2⟩
set_option maxHeartbeats 8000000 in
theorem c_ranges (w : World) (s : Shared) (r lv rx ls : Addr) (t0 t1 t2 t3 : Tok) (k k2 : Nat) (hX : Heap) (hS : hX.StaysIn s.heap) (hlv : hX.get? lv = none) (hls : hX.get? ls = none) (ne1 : @Ne Nat ls lv) (ne2 : @Ne Nat lv ls) (h1 : hX.get? r = some (instObj 346 rx)) (h2 : hX.get? rx = some (dictOf (rmEs w t1 t2 t3 .none ls lv) 3)) : CalleeN w 336 [.ref r] 5 s [(ls, oneO (.int 0 t0) k2), (lv, oneO .none k)] (LPost s [] []) := by
  have nf : NoFor := ⟨trivial⟩
  walk_at "mine enterCN"
  intro p loose mean mg mb dp un gd outer A₀ base g L' h₁ tk cells B F N Y G Z l1 X T hdp hun
  refine wpAny_gen ?_
  intro Q_k hQ_k
  have gX : hX.StaysIn g := fun b o e => G b o (hS b o e) fun q => by
    obtain ⟨p, hp, z⟩ := List.mem_map.mp q
    simp only [List.mem_cons, List.not_mem_nil, or_false] at hp
    rcases hp with rfl | rfl
    · rw [← z] at e; rw [hls] at e; cases e
    · rw [← z] at e; rw [hlv] at e; cases e
  have g1 := gX _ _ h1
  have g2 := gX _ _ h2
  clear h1 h2
  k_cells Y
  (try dsimp only [List.cons_append, List.nil_append] at N)
  (try k_lt l1)
  (try dsimp only)
  (try k_fold)
  walk_at "mine steps"
  refine Frozen.mk ?_
  k_dflt (refine LCt.ListComp_T (F₀ := by k_asm) (by with_unfolding_all rfl) (by decide) (by rfl) (by decide) (by rfl) ?_)
  walk_at "mine steps"
  refine Frozen.mk ?_
  with_unfolding_all refine For_turns (by k_asm) ?_
  walk_at "mine steps"
  refine Frozen.mk ?_
  refine LCt.CompSrcT.ledger (by rfl) (by k_asm) (by k_asm) (by k_mem) (by first | size_fits | exact Nat.le_of_ble_eq_true rfl) ?_
  intro g'
  lct_lit
  walk_at "mine steps"
  all_goals try dsimp only
  all_goals exact lpostX G Z (by k_asm) (by k_asm) (List.forall_mem_cons.mpr ⟨by k_mem, List.forall_mem_cons.mpr ⟨by k_mem, List.forall_mem_nil _⟩⟩) (newlist_of G Z (by k_asm) (by k_mem) (by walk_at "mine offI"))

abbrev dmS : Str := Str.ofString "dm"
inductive DmAt (w : World) (h : Heap) (ms : List (Str × MapSt)) (r : Addr) : Prop
  | mk (M : MapSt) (ls lv : Addr) (u t1 t2 t3 : Tok) : M.r = r → (dmS, M) ∈ ms → h.get? M.r = some (instObj 346 M.rx) → h.get? M.rx = some (dictOf (rmEs w t1 t2 t3 .none ls lv) 3) → h.get? ls = some (oneO (.int 0 u) 0) → h.get? lv = some (oneO .none 0) → DmAt w h ms r
/-- the law's data with its map of no mappings -/
structure LawDm (w : World) (h : Heap) (S : DSt) (r : Addr) : Prop where
  ok : LawD w h S
  dm : findA S.abs dmS = some dmA
  ex : DmAt w h S.ms r
theorem LawDm.keeps {w : World} {h h' : Heap} {S : DSt} {r : Addr} (D : LawDm w h S r) (k : h.StaysIn h') : LawDm w h' S r := ⟨D.ok.keeps k, D.dm, let ⟨M, ls, lv, u, t1, t2, t3, a, b, c, d, e, f⟩ := D.ex; ⟨M, ls, lv, u, t1, t2, t3, a, b, k _ _ c, k _ _ d, k _ _ e, k _ _ f⟩⟩
theorem Callee.toN {w : World} {f : Addr} {vs : List Value} {d : Nat} {s : Shared} {P : Value → Heap → Prop} (C : Callee w f vs d s (Ext s P)) {hD : Heap} (hS : hD.StaysIn s.heap) {Φ : Value → Heap → Prop} (h : ∀ v h', P v h' → Φ v hD) : CalleeN w f vs d s (led hD) (DPost s hD Φ) := by
  intro p loose mean mg mb dp un gd cn cs L a ccd cl outer A₀ base h₀ m B F N X T hk hdp hun
  refine wpAny_mono (C p loose mean mg mb dp un gd cn cs L a ccd cl outer A₀ base h₀ m B F X T hk hdp hun) ?_ (fun _ _ x => x)
  rintro v s' ⟨h', tk, e, st, p⟩
  exact ⟨h', tk, hD, e, fun b o q _ => st b o q, fun b o q => st b o (hS b o q), fun b o q => .inl ⟨o, q⟩, fun b o q => ⟨o, q⟩, h v h' p⟩
theorem dm_none : (findA finA dmS).isNone = true := by decide +kernel
theorem fin_len : (decide (finA.length < 1000)) = true := by decide +kernel
theorem findA_last {β : Type} {x : Str} {b : β} {l : List (Str × β)} : findA l x = none → findA (l ++ [(x, b)]) x = some b := by
  induction l with
  | nil => exact fun _ => if_pos rfl
  | cons q l ih =>
    intro h
    by_cases e : q.1 = x
    · exact nomatch (if_pos e).symm.trans h
    · exact (if_neg e).trans (ih ((if_neg e).symm.trans h))
inductive GotDm (w : World) (S : DSt) (v : Value) (hD' : Heap) : Prop
  | mk (S' : DSt) (r : Addr) : v = .ref r → S'.d = S.d → LawDm w hD' S' r → GotDm w S v hD'
theorem c_mapdm (w : World) (s : Shared) (hD : Heap) (S : DSt) (D : (LawD w hD S ∧ S.abs = finA) ∨ ∃ r, LawDm w hD S r) (hS : hD.StaysIn s.heap) (t : Tok) :
    CalleeN w 399 [.ref S.d, .str dmS t] 4 s (led hD) (DPost s hD (GotDm w S)) := by
  rcases D with ⟨D, hab⟩ | ⟨r, D⟩
  · have hn0 : findA finA dmS = none := Option.isNone_iff_eq_none.mp dm_none
    have hm : dmS ∉ S.ms.map (·.1) := fun z => findA_none (hab ▸ hn0) (by unfold DSt.abs; rw [List.map_map]; exact z)
    have hlen : S.ms.length < 1000 := (show S.ms.length = finA.length from (List.length_map _).symm.trans (congrArg List.length hab)) ▸ of_decide_eq_true fin_len
    have hd0 : (dmS, PyData.none) ∈ S.dfl := D.dfl ▸ .tail _ (.tail _ (.tail _ (.tail _ (.head _))))
    refine (c_mapnewX w s hD S D.ok dmS hm .none hd0 hlen t).mono (fun v s' x => x.mono fun v hD' x => ?_) (Nat.le_refl _)
    obtain ⟨r, rx, ls, lv, u, v0, t1, t2, t3, q6, q7, -, q8, q9, q10, q11, q12⟩ := x
    have e3 : v0 = .none := let ⟨v1, _, z1, z2, _⟩ := q7.defs (dmS, .none) hd0; (Option.some.inj (z1.symm.trans q12)).symm.trans (reads_none z2)
    subst e3
    have habs : DSt.abs { S with ms := S.ms ++ [(dmS, (⟨r, rx, .none, [0], [.none]⟩ : MapSt))] } = finA ++ [(dmS, dmA)] := hab ▸ abs_add ..
    exact ⟨S.add dmS ⟨r, rx, .none, [0], [.none]⟩, r, q6, rfl, ⟨q7, D.dfl, .inr habs⟩, habs ▸ findA_last hn0, ⟨r, rx, .none, [0], [.none]⟩, ls, lv, u, t1, t2, t3, rfl, List.mem_append_right _ (.head _), q8, q9, q10, q11⟩
  · obtain ⟨M, ls, lv, u, t1, t2, t3, a, b, -, -, -, -⟩ := id D.ex
    exact ((c_mapold w s S (D.ok.ok.keeps hS) dmS M b t).toN (hD := hD) hS fun v h' e => ⟨S, r, a ▸ e, rfl, D⟩).mono (fun _ _ h => h) (by decide)
theorem CalleeN.dext_at {w : World} {f : Addr} {vs : List Value} {d : Nat} {s : Shared} {hD : Heap} {rest : List (Addr × Obj)} {Φ : Value → Heap → Prop} {A : Around}
    {p : Program} {loose : List Str} {mean : ExcName → Option Value} {mg mb : Str → Option Value} {dp un : Nat} {gd : Option (List Code)} {cn : Str} {cs : Scope} {L a : Addr} {ccd : Value} {cl : List (Str × Addr)} {outer : List Env} {A₀ : Around} {base h₀ : Heap} {m : Str → Option Value} {Q E : Value → Shared → Prop}
    (e : A = ktrTop dp un gd cn cs L a ccd cl outer) (C : CalleeN w f vs d s (led hD) (DPost s hD Φ))
    (B : Below A₀ base outer h₀) (F : Fr h₀ L s.heap m) (N : News h₀ L s.heap (led hD)) (Nr : News h₀ L s.heap rest) (X : (Tp.heap_1 w.params).In h₀) (T : Top p loose mean mg mb h₀) (hk : cs.kind = .function) (hdp : dp + d < 1000) (hun : un + 40 * d < 9900)
    (hoff : ∀ q ∈ rest, hD.get? q.1 = none)
    (k : ∀ v h' tk hD', Fr h₀ L h' m → News h₀ L h' (led hD') → News h₀ L h' rest → (∀ q ∈ rest, hD'.get? q.1 = none) → Foot s.heap hD hD' → Dom hD hD' → Φ v hD' → Q v { s with heap := h', toks := tk }) : wpAny (model PR w) A (call (.ref f) vs) Q E s := by
  subst e
  refine C.dext B F N Nr X T hk hdp hun hoff ?_
  intro v h' tk hD' F' N' Nr' kp ft dm φ
  refine k v h' tk hD' F' N' Nr' (fun q hq => ?_) ft dm φ
  cases z : hD'.get? q.1 with
  | none => rfl
  | some o' => exact (ft _ _ z).elim (fun y => y.elim fun _ y => (no_of (hoff q hq) y).elim) fun y => (no_of y (Nr q hq).1).elim
theorem kw_34_1 : True := by
  k_with "call ref" => first | (k_here; (with_reducible show wpAny _ _ (call (Value.ref 399) _) _ _ _); refine frozen ?_) | fail "no"
  k_with "call ref" => first | (k_here; (with_reducible show wpAny _ _ (call (Value.ref 336) _) _ _ _); refine frozen ?_) | fail "no"
  trivial
theorem c_ranges_at (w : World) (s : Shared) (hD : Heap) (hS : hD.StaysIn s.heap) (r rx ls lv : Addr) (u t1 t2 t3 : Tok) (hr : hD.get? r = some (instObj 346 rx)) (hrx : hD.get? rx = some (dictOf (rmEs w t1 t2 t3 .none ls lv) 3)) (hls : hD.get? ls = some (oneO (.int 0 u) 0)) (hlv : hD.get? lv = some (oneO .none 0)) : CalleeN w 336 [.ref r] 5 s [(ls, oneO (.int 0 u) 0), (lv, oneO .none 0)] (LPost s [] []) := by
  have e1 : r ≠ ls := fun e => by rw [e, hls] at hr; cases hr
  have e2 : r ≠ lv := fun e => by rw [e, hlv] at hr; cases hr
  have e3 : rx ≠ ls := fun e => by rw [e, hls] at hrx; exact (fun z : Value.type "list" = Value.type "dict" => absurd z (by decide)) (congrArg Obj.cls (Option.some.inj hrx))
  have e4 : rx ≠ lv := fun e => by rw [e, hlv] at hrx; exact (fun z : Value.type "list" = Value.type "dict" => absurd z (by decide)) (congrArg Obj.cls (Option.some.inj hrx))
  have e5 : ls ≠ lv := fun e => by rw [e, hlv] at hls; cases hls
  have kp : ∀ b o, hD.get? b = some o → b ≠ ls → b ≠ lv → (keepOn hD fun b => decide (b ≠ ls) && decide (b ≠ lv)).get? b = some o := fun b o e n1 n2 => keepOn_get.mpr ⟨e, by simp [n1, n2]⟩
  have no : ∀ b, b = ls ∨ b = lv → (keepOn hD fun b => decide (b ≠ ls) && decide (b ≠ lv)).get? b = none := fun b hb => by
    cases z : (keepOn hD fun b => decide (b ≠ ls) && decide (b ≠ lv)).get? b with
    | none => rfl
    | some o => have := (keepOn_get.mp z).2; rcases hb with rfl | rfl <;> simp at this
  exact c_ranges w s r lv rx ls u t1 t2 t3 0 0 _ (fun b o e => hS b o (keepOn_sub _ _ b o e)) (no _ (.inr rfl)) (no _ (.inl rfl)) e5 (Ne.symm e5) (kp _ _ hr e1 e2) (kp _ _ hrx e3 e4)
theorem off_lt {hD : Heap} {D : Addr} (h : ∀ p ∈ led hD, @LT.lt Nat _ p.1 D) : hD.get? D = none := by
  cases z : hD.get? D with
  | none => rfl
  | some o => exact absurd (h _ (mem_led.mpr z)) (Nat.lt_irrefl _)
inductive GotPrim (w : World) (S : DSt) (v : Value) (hD' : Heap) : Prop
  | mk (S' : DSt) (r fd : Addr) : v = .ref fd → S'.d = S.d → LawDm w hD' S' r → hD'.DictOf (intKind PR w) fd ([] : List (Int × Value)) → (fd == sysModules) = false → GotPrim w S v hD'
set_option maxHeartbeats 8000000 in
theorem c_prim (w : World) (s : Shared) (hD : Heap) (S : DSt) (D : (LawD w hD S ∧ S.abs = finA) ∨ ∃ r, LawDm w hD S r) (hS : hD.StaysIn s.heap) :
    CalleeN w 130 [.ref S.d] 8 s (led hD) (DPost s hD (GotPrim w S)) := by
  have DD : LawD w hD S := D.elim (·.1) fun x => x.elim fun _ D => D.ok
  have nf : NoFor := ⟨trivial⟩
  obtain ⟨v3, v4, t1, t2, t3, t4, hd, hdx, -, -, -, -⟩ := DD.ok.at_
  walk_at "mine enterN"
  walk_at "mine bodyN"
  walk_at "mine steps"
  refine Frozen.mk ?_
  with_unfolding_all refine For_turns (by k_asm) ?_
  walk_at "mine steps"
  refine Frozen.mk ?_
  rename News _ _ _ (_ :: led hD) => NN
  refine CalleeN.dext_at (rest := [_]) rfl (c_mapdm w _ hD S D (led_stays NN (fun p hp => .tail _ hp)) _) (by k_asm) (by k_asm) (news_less NN (fun p hp => .tail _ hp)) (news_less NN (List.forall_mem_cons.mpr ⟨.head _, List.forall_mem_nil _⟩)) (by k_asm) (by k_asm) (by first | exact rfl | assumption) (by walk_at "mine room") (by walk_at "mine room") (List.forall_mem_cons.mpr ⟨off_lt (by assumption), List.forall_mem_nil _⟩) ?_
  rintro v' h' tk' hD1 F1 N1 Nr1 off1 ft1 dm1 GD
  obtain ⟨S1, r, rfl, e1, DM⟩ := GD
  have N2 : News _ _ h' (_ :: led hD1) := fun p hp => (List.mem_cons.mp hp).elim (fun e => e ▸ Nr1 _ (.head _)) (fun hp => N1 p hp)
  obtain ⟨M, ls, lv, u, t5, t6, t7, rfl, hM, hr, hrx, hls, hlv⟩ := DM.ex
  clear NN N1 Nr1 hd hdx
  (try k_fold)
  walk_at "mine steps"
  refine Frozen.mk ?_
  rename News _ _ _ (_ :: led hD1) => NN
  refine CalleeN.lone0 (own := _ :: led hD1) (c_ranges_at w _ hD1 (led_stays NN (fun p hp => .tail _ hp)) _ _ _ _ _ _ _ _ hr hrx hls hlv) (by k_asm) (by k_asm) (news_less NN (List.forall_mem_cons.mpr ⟨.tail _ (mem_led.mpr hls), List.forall_mem_cons.mpr ⟨.tail _ (mem_led.mpr hlv), List.forall_mem_nil _⟩⟩)) NN (by k_asm) (by k_asm) (by first | exact rfl | assumption) (by walk_at "mine room") (by walk_at "mine room") ?_
  rintro h2 tk2 R k2 F2 N3 - n1 n2
  clear NN
  dsimp only
  refine iter_listTurns (vs := []) rfl F2 N3 (.head _) rfl rfl ?_
  intro I lI
  refine ItemsRest.zero ?_
  intro h3 tk3 F3 N4
  (try k_fold)
  walk_at "mine steps"
  refine DPost.of_news (by assumption) (by k_asm) (by k_asm) (fun b o e => ?_) fun hD2 hn => ⟨S1, M.r, _, rfl, e1, DM.keeps fun b o e => hn (b, o) (.tail _ (.tail _ (mem_led.mpr e))), Heap.dictOf_iff.mpr ⟨_, hn (_, _) (.tail _ (.head _)), by assumption⟩, by assumption⟩
  obtain ⟨o', q⟩ := dm1 b o e
  exact ⟨o', .tail _ (.tail _ (mem_led.mpr q))⟩

section
variable {prog : Program} {w : World} {A : Around} {E : Value → Shared → Prop} {s : Shared} {h₀ : Heap} {env : Env} {target : Expr} {body : List Stmt} {Q : Flow → Shared → Prop}
theorem turns_of {I : Addr} {fp wr : List Addr} {n : Nat} {P Md : Nat → Value → Heap → Prop} {St : Nat → Heap → Prop} {m₀ : Str → Option Value} {news : List (Addr × Obj)} (J : Nat → (Str → Option Value) → List (Addr × Obj) → Prop) (W : KTurns prog w A target I fp wr n P Md St) (hL : env.locals ∉ fp) (hw : ∀ b ∈ wr, h₀.get? b = none) (hst : St 0 s.heap) (F : Fr h₀ env.locals s.heap m₀) (N : News h₀ env.locals s.heap news) (hn : ∀ p ∈ news, p.1 ∉ wr) (hj : J 0 m₀ news)
    (turn : ∀ i v m₁ news₁ h tk own, i < n → P i v h → J i m₁ news₁ → (∀ p ∈ news₁, p.1 ∉ wr) → (∀ p ∈ own, p.1 ∈ fp) → (∀ p ∈ own, h.get? p.1 = some p.2) → (∀ b ∈ fp, h₀.get? b = none → ∀ o, h.get? b = some o → (b, o) ∈ own) → St (i + 1) h → Fr h₀ env.locals h m₁ → News h₀ env.locals h (own ++ news₁) →
      wpAny (model prog w) A (assign target env v) (fun _ s₃ => wpAny (model prog w) A (execs body env) (LoopStepV h₀ env.locals wr own (J (i + 1)) { s with heap := h, toks := tk } (fun v s' => Q (.ret v) s') fun s' => Q .next s') E s₃) E { s with heap := h, toks := tk })
    (done : ∀ m news₁ h tk, J n m news₁ → Fr h₀ env.locals h m → News h₀ env.locals h news₁ → Q .next { s with heap := h, toks := tk }) : TurnsAt prog w A h₀ env target body Q E (.ref I) s :=
  ⟨I, fp, wr, n, P, Md, St, m₀, news, J, rfl, W, hL, hw, hn, hst, F, N, hj, turn, fun h' tk m' news' F' N' _ hJ => done m' news' h' tk hJ F' N'⟩
/-- a for over an empty dict -/
theorem lp_empty {K : Type} [DecidableEq K] {knd : KeyKind prog w K} {T : Addr} {m₀ : Str → Option Value} {news : List (Addr × Obj)} (hh : A.handled = none) (lo : (T == sysModules) = false) (hTL : T ≠ env.locals) (hT : s.heap.DictOf knd T ([] : List (K × Value))) (F : Fr h₀ env.locals s.heap m₀) (N : News h₀ env.locals s.heap news)
    (done : ∀ h tk, Fr h₀ env.locals h m₀ → News h₀ env.locals h news → Q .next { s with heap := h, toks := tk }) :
    wpAny (model prog w) A (pyIter (.ref T)) (fun it s₂ => TurnsAt prog w A h₀ env target body Q E it s₂) E s := by
  obtain ⟨o, es, ep, ho, r⟩ := id hT
  have hm : s.heap.DictAt knd T ([] : List (K × Value)) ep := ⟨o, es, ho, r⟩
  have hlt : @LT.lt Nat _ T s.heap.objs.size := Heap.lt_size ho
  refine wpAny_pyIter_dict lo hm ?_
  have W := Walks.dictKeys (prog := prog) (w := w) (A := A) (knd := knd) hh s.heap.objs.size T (Nat.ne_of_lt hlt) ([] : List (K × Value)) ep
  refine turns_of (s := { s with heap := s.heap.push _ }) (P := fun _ _ _ => False) (Md := fun _ _ _ => False) (n := 0) (fun _ m nx => m = m₀ ∧ nx = news) ⟨W.sub, W.frame, fun i s Q E hi => absurd hi (Nat.not_lt_zero _), fun i v s Q E hf => hf.elim, W.done⟩ (off_two F.ns.lt hTL) (fun b hb => (List.mem_singleton.mp hb).symm ▸ next_is_new F) ⟨⟨_, Heap.get?_push_size _ rfl, rfl, rfl⟩, hm.at' fun o e => Heap.get?_push_of_some _ e⟩ (F.push _) (fun p hp => ⟨Heap.get?_push_of_some _ (N p hp).1, (N p hp).2⟩) (fun p hp hI => absurd (Heap.lt_size (N p hp).1) ((List.mem_singleton.mp hI) ▸ Nat.lt_irrefl _)) ⟨rfl, rfl⟩ (fun i v m₁ news₁ h₁ tk₁ own hi => absurd hi (Nat.not_lt_zero _)) fun m news₁ h tk hJ F' N' => ?_
  obtain ⟨rfl, rfl⟩ := hJ
  exact done h tk F' N'
end
/-- what a call leaves that turns the data and the table -/
inductive FormPost (w : World) (s : Shared) (hD : Heap) (tl : List (Addr × Obj)) (da : Addr) (P : Value → Heap → Prop) (v : Value) (s' : Shared) : Prop
  | mk (h' : Heap) (tk : Nat) (hD' : Heap) (tl' : List (Addr × Obj)) (S' : DSt) (r : Addr) : s' = { s with heap := h', toks := tk } → (∀ b o, s.heap.get? b = some o → hD.get? b = none → b ∉ tl.map (·.1) → h'.get? b = some o) → hD'.StaysIn h' → Foot s.heap hD hD' → Dom hD hD' → TabL tl' → (∀ p ∈ tl', h'.get? p.1 = some p.2) → (∀ p ∈ tl', p.1 ∈ tl.map (·.1) ∨ s.heap.get? p.1 = none) → (∀ p ∈ tl, p.1 ∈ tl'.map (·.1)) → (∀ p ∈ tl', hD'.get? p.1 = none) → S'.d = da → LawDm w hD' S' r → P v h' → FormPost w s hD tl da P v s'
abbrev DataSt (w : World) (hD : Heap) (S : DSt) : Prop := (LawD w hD S ∧ S.abs = finA) ∨ ∃ r, LawDm w hD S r
theorem kw_35_1 : True := by
  k_with "call ref" => first | (k_here; (with_reducible show wpAny _ _ (call (Value.ref 130) _) _ _ _); refine frozen ?_) | fail "no"
  k_with "call ref" => first | (k_here; (with_reducible show wpAny _ _ (call (Value.ref 203) _) _ _ _); refine frozen ?_) | fail "no"
  k_with "exec For Tuple Attribute" => first | (k_here; (have nf9 : NoFor := by assumption); refine frozen ?_) | fail "no"
  k_with "exec For Tuple Attribute cons nil" => first | (k_here; (have nf9 : NoFor := by assumption); refine frozen ?_) | fail "no"
  trivial
theorem off_both {hD1 : Heap} {tl : List (Addr × Obj)} {q : Addr} (h : hD1.get? q = none) (ht : ∀ p ∈ tl, p.1 ≠ q) : ∀ p ∈ led hD1 ++ tl, p.1 ≠ q := fun p hp e => by
  rcases List.mem_append.mp hp with hp | hp
  · obtain ⟨b, o⟩ := p
    simp only at e
    rw [← e, mem_led.mp hp] at h; cases h
  · exact ht p hp e
theorem stays_any {H g h : Heap} {news : List (Addr × Obj)} (G : GSub H g (news.map (·.1))) (Z : ∀ p ∈ news, H.get? p.1 = some p.2) (k : g.StaysIn h) (N : ∀ p ∈ news, h.get? p.1 = some p.2) : H.StaysIn h := fun b o e => by
  by_cases q : b ∈ news.map (·.1)
  · obtain ⟨p, hp, rfl⟩ := List.mem_map.mp q
    rw [Z p hp] at e
    rw [← e]
    exact N p hp
  · exact k b o (G b o e q)
theorem com_of {w : World} {g h : Heap} {L x' dx d2 fd : Addr} {o2 : Obj} {t1 t2 : Tok} {tl rest : List (Addr × Obj)} (N : News g L h ((d2, o2) :: (x', instObj 168 dx) :: (dx, dictOf [⟨PyData.keyHash w.params (Str.ofString "pairs"), .str (Str.ofString "pairs") t1, .ref fd⟩, ⟨PyData.keyHash w.params (Str.ofString "seconds"), .str (Str.ofString "seconds") t2, .ref d2⟩] 2) :: rest)) (h2 : o2.IsDictOf (intKind PR w) ([] : List (Int × Value))) (lo : (d2 == sysModules) = false) (f1 : ∀ p ∈ tl, p.1 ≠ d2) (f2 : ∀ p ∈ tl, p.1 ≠ x') (f3 : ∀ p ∈ tl, p.1 ≠ dx) :
    ∃ hX, ComAt w hX x' ∧ hX.StaysIn h ∧ ∀ p ∈ tl, hX.get? p.1 = none := by
  have N3 : News g L h [(d2, o2), (x', instObj 168 dx), (dx, dictOf [⟨PyData.keyHash w.params (Str.ofString "pairs"), .str (Str.ofString "pairs") t1, .ref fd⟩, ⟨PyData.keyHash w.params (Str.ofString "seconds"), .str (Str.ofString "seconds") t2, .ref d2⟩] 2)] := news_less N (List.forall_mem_cons.mpr ⟨.head _, List.forall_mem_cons.mpr ⟨.tail _ (.head _), List.forall_mem_cons.mpr ⟨.tail _ (.tail _ (.head _)), List.forall_mem_nil _⟩⟩⟩)
  obtain ⟨hC, s1, s2, s3, -⟩ := led_of N3
  refine ⟨hC, ⟨dx, fd, d2, t1, t2, s2 _ (.tail _ (.head _)), s2 _ (.tail _ (.tail _ (.head _))), Heap.dictOf_iff.mpr ⟨o2, s2 _ (.head _), h2⟩, lo⟩, s1, fun p hp => ?_⟩
  cases z : hC.get? p.1 with
  | none => rfl
  | some o =>
    have := s3 _ _ z
    simp only [List.mem_cons, List.not_mem_nil, or_false, Prod.mk.injEq] at this
    rcases this with ⟨e, -⟩ | ⟨e, -⟩ | ⟨e, -⟩
    · exact absurd e (f1 p hp)
    · exact absurd e (f2 p hp)
    · exact absurd e (f3 p hp)
theorem form_post {w : World} {s : Shared} {hD hD1 : Heap} {tl tl2 : List (Addr × Obj)} {da r : Addr} {S1 : DSt} {P : Value → Heap → Prop} {v : Value} {g h' : Heap} {L : Addr} {m : Str → Option Value} {tk : Nat} (G : GSub s.heap g ((led hD ++ tl).map (·.1))) (F : Fr g L h' m) (N : News g L h' (led hD1 ++ tl2)) (ft : Foot s.heap hD hD1) (dm : Dom hD hD1) (TL : TabL tl2) (d : ∀ p ∈ tl, p.1 ∈ tl2.map (·.1)) (off : ∀ p ∈ tl2, hD1.get? p.1 = none) (e : S1.d = da) (DM : LawDm w hD1 S1 r) (p : P v h') : FormPost w s hD tl da P v { s with heap := h', toks := tk } := by
  refine ⟨h', tk, hD1, tl2, S1, r, rfl, fun b o q n1 n2 => F.keep b o (G b o q fun z => ?_), led_stays N (fun p hp => List.mem_append_left _ hp), ft, dm, TL, fun p hp => (N p (List.mem_append_right _ hp)).1, fun p hp => ?_, d, off, e, DM, p⟩
  · rw [List.map_append] at z
    rcases List.mem_append.mp z with z | z
    · obtain ⟨⟨a, b'⟩, hp, rfl⟩ := List.mem_map.mp z
      rw [mem_led.mp hp] at n1; cases n1
    · exact n2 z
  · by_cases q : p.1 ∈ tl.map (·.1)
    · exact .inl q
    · refine .inr ?_
      cases z : s.heap.get? p.1 with
      | none => rfl
      | some o =>
        have h0 := (N p (List.mem_append_right _ hp)).2.2
        rw [G _ _ z (fun y => ?_)] at h0
        · cases h0
        · rw [List.map_append] at y
          rcases List.mem_append.mp y with y | y
          · obtain ⟨⟨a, b'⟩, hp', e'⟩ := List.mem_map.mp y
            obtain ⟨o2, e2⟩ := dm _ _ (mem_led.mp hp')
            simp only at e'
            have := off p hp
            rw [← e', e2] at this; cases this
          · exact q y
theorem c_qcheckA (w : World) (s : Shared) (S : DSt) (da : Addr) (e : S.d = da) (l co : Addr) (vs : List Value) (ns : List Int) (B : Lab s.heap l vs ns) (u : Tok) (tl : List (Addr × Obj)) (TL : TabL tl) (D : LawT w s.heap S tl) (hdm : findA S.abs (Str.ofString "dm") = some dmA) (C : ∃ hX, ComAt w hX co ∧ hX.StaysIn s.heap ∧ ∀ p ∈ tl, hX.get? p.1 = none) (hl : ∀ p ∈ tl, p.1 ≠ l) : CalleeN w 203 [.ref l, .ref da, .str (Str.ofString "nfc") u, .ref co] 16 s tl (TPost s tl fun v _ => ∃ t, v = .str (Str.ofString "yes") t) := by
  subst e
  exact c_qcheck w s S l co vs ns B u tl TL D hdm C hl
set_option maxHeartbeats 16000000 in
theorem c_isform (w : World) (s : Shared) (hD : Heap) (S : DSt) (D : DataSt w hD S) (hS : hD.StaysIn s.heap) (l : Addr) (vs : List Value) (ns : List Int) (B : Lab s.heap l vs ns) (u : Tok) (tl : List (Addr × Obj)) (TL : TabL tl) (ht : ∀ p ∈ tl, hD.get? p.1 = none) (hl : ∀ p ∈ led hD ++ tl, p.1 ≠ l) :
    CalleeN w 211 [.ref l, .ref S.d, .str (Str.ofString "nfc") u] 20 s (led hD ++ tl) (FormPost w s hD tl S.d fun v _ => v = .bool true) := by
  have nf : NoFor := ⟨trivial⟩
  walk_at "mine enterN"
  intro p loose mean mg mb dp un gd outer A₀ base g L' h₁ tk BB F N G Z l1 X T hdp hun
  refine wpAny_gen ?_
  intro Q_k hQ_k
  have hlg := ground_list B.list G hl
  have BG : Lab g l vs ns := ⟨hlg, B.nums, B.len, B.pos, B.codes⟩
  (try k_lt l1)
  (try dsimp only)
  (try k_fold)
  walk_at "mine steps"
  refine Frozen.mk ?_
  rename News _ _ _ (_ :: _ :: (led hD ++ tl)) => NN
  rename (∀ p ∈ led hD ++ tl, @LT.lt Nat _ p.1 _) => lt0
  rename (@LT.lt Nat _ _ _) => lt1
  have st0 := stays_any G Z (keep2 (by k_asm) (by k_asm)) (fun p hp => (NN p (.tail _ (.tail _ hp))).1)
  refine CalleeN.dext_at (rest := _ :: _ :: tl) ktr_make (c_prim w _ hD S D (led_stays NN (fun p hp => .tail _ (.tail _ (List.mem_append_left _ hp))))) (by k_asm) (by k_asm) (news_less NN (fun p hp => .tail _ (.tail _ (List.mem_append_left _ hp)))) (news_less NN (List.forall_mem_cons.mpr ⟨.head _, List.forall_mem_cons.mpr ⟨.tail _ (.head _), fun p hp => .tail _ (.tail _ (List.mem_append_right _ hp))⟩⟩)) (by k_asm) (by k_asm) (by first | exact rfl | assumption) (by walk_at "mine room") (by walk_at "mine room") (List.forall_mem_cons.mpr ⟨off_lt (fun p hp => Nat.lt_trans (lt0 p (List.mem_append_left _ hp)) lt1), List.forall_mem_cons.mpr ⟨off_lt (fun p hp => lt0 p (List.mem_append_left _ hp)), ht⟩⟩) ?_
  rintro v' h' tk' hD1 F1 N1 Nr1 off1 ft1 dm1 GP
  obtain ⟨S1, r, fd, rfl, e1, DM, hfd, lfd⟩ := GP
  have N2 : News _ _ h' (_ :: _ :: (led hD1 ++ tl)) := fun p hp => by
    rcases List.mem_cons.mp hp with rfl | hp
    · exact Nr1 _ (.head _)
    · rcases List.mem_cons.mp hp with rfl | hp
      · exact Nr1 _ (.tail _ (.head _))
      · rcases List.mem_append.mp hp with hp | hp
        · exact N1 p hp
        · exact Nr1 p (.tail _ (.tail _ hp))
  have ox := off1 _ (.head _)
  have od := off1 _ (.tail _ (.head _))
  have ot : ∀ p ∈ tl, hD1.get? p.1 = none := fun p hp => off1 p (.tail _ (.tail _ hp))
  dsimp only at ox od ot
  clear off1
  have hx1 := off_both ox (tl := tl) (fun p hp => Nat.ne_of_lt (Nat.lt_trans (lt0 p (List.mem_append_right _ hp)) lt1))
  have hx2 := off_both od (tl := tl) (fun p hp => Nat.ne_of_lt (lt0 p (List.mem_append_right _ hp)))
  clear NN N1 Nr1
  (try k_fold)
  walk_at "mine steps"
  refine Frozen.mk ?_
  with_unfolding_all refine For_turns (by k_asm) ?_
  walk_at "mine steps"
  refine Frozen.mk ?_
  rename News _ _ _ (_ :: _ :: _ :: (led hD1 ++ tl)) => NN
  obtain ⟨ofd, _, _, hofd, -⟩ := id hfd
  refine lp_empty rfl lfd (NN _ (.tail _ (.tail _ (.tail _ (List.mem_append_left _ (mem_led.mpr hofd)))))).2.1 (hfd.keep (led_stays NN (fun p hp => .tail _ (.tail _ (.tail _ (List.mem_append_left _ hp)))))) (by k_asm) NN ?_
  clear NN
  intro h3 tk3 F3 N3
  (try k_fold)
  walk_at "mine steps"
  refine Frozen.mk ?_
  rename News _ _ _ (_ :: _ :: _ :: (led hD1 ++ tl)) => NN
  have hx3 : ∀ p ∈ led hD1 ++ tl, p.1 ≠ _ := fun p hp => Nat.ne_of_lt (allLt_mem (by assumption : _ ∧ _ ∧ AllLt _ (led hD1 ++ tl)).2.2 p hp)
  have CC := com_of (tl := tl) NN (by assumption) (by assumption) (fun p hp => hx3 p (List.mem_append_right _ hp)) (fun p hp => hx1 p (List.mem_append_right _ hp)) (fun p hp => hx2 p (List.mem_append_right _ hp))
  refine CalleeN.tuse (own := _ :: _ :: _ :: led hD1) (c_qcheckA w _ S1 S.d e1 l _ vs ns (BG.keeps (Fr.keep (by k_asm))) _ tl TL ⟨hD1, DM.ok, led_stays NN (fun p hp => .tail _ (.tail _ (.tail _ (List.mem_append_left _ hp)))), ot⟩ DM.dm CC (fun p hp => hl p (List.mem_append_right _ hp))) (by k_asm) (by k_asm) (news_less NN (fun p hp => .tail _ (.tail _ (.tail _ (List.mem_append_right _ hp))))) NN (by k_asm) (by k_asm) (by first | exact rfl | assumption) (by walk_at "mine room") (by walk_at "mine room") ?_ ?_
  · refine List.forall_mem_cons.mpr ⟨fun p hp => hx3 p (List.mem_append_right _ hp), List.forall_mem_cons.mpr ⟨fun p hp => hx1 p (List.mem_append_right _ hp), List.forall_mem_cons.mpr ⟨fun p hp => hx2 p (List.mem_append_right _ hp), ?_⟩⟩⟩
    rintro ⟨b, o⟩ hq p hp e
    have := ot p hp
    rw [e, mem_led.mp hq] at this; cases this
  rintro v' h4 tk4 tl2 F4 No4 Nt4 TL2 off4 dom4 ⟨ty, rfl⟩
  have N4 : News g L' h4 (led hD1 ++ tl2) := fun p hp => by
    rcases List.mem_append.mp hp with hp | hp
    · exact No4 p (.tail _ (.tail _ (.tail _ hp)))
    · exact Nt4 p hp
  have off5 : ∀ p ∈ tl2, hD1.get? p.1 = none := fun p hp => by
    cases z : hD1.get? p.1 with
    | none => rfl
    | some o => exact absurd rfl (off4 (p.1, o) (.tail _ (.tail _ (.tail _ (mem_led.mpr z)))) p hp)
  clear NN No4 Nt4 off4
  (try k_fold)
  walk_at "mine steps"
  exact form_post G (by k_asm) (by k_asm) (ft1.of st0) dm1 TL2 dom4 off5 e1 DM (by rw [beq_self_eq_true])

theorem ls_ret {h₀ : Heap} {L : Addr} {wr : List Addr} {own : List (Addr × Obj)} {Jn : (Str → Option Value) → List (Addr × Obj) → Prop} {s₁ : Shared} {Qr : Value → Shared → Prop} {Qb : Shared → Prop} {v : Value} {s₂ : Shared} (h : Qr v s₂) : LoopStepV h₀ L wr own Jn s₁ Qr Qb (.ret v) s₂ := h
theorem kw_36_0 : True := by
  k_with "LoopStepV" => with_reducible refine ls_ret ?_
  trivial
section
variable {prog : Program} {w : World} {A : Around} {E : Value → Shared → Prop} {s : Shared} {env : Env} {h₀ : Heap} {body : List Stmt} {Q : Flow → Shared → Prop}
/-- a for over the pairs of enumerate, of a list of the base -/
theorem lp_enum {elts : List Expr} {kk : Nat} {pos : Pos} {l : Addr} {vs : List Value} {m₀ : Str → Option Value} {news : List (Addr × Obj)} (J : Nat → (Str → Option Value) → List (Addr × Obj) → Prop) (hh : A.handled = none) (hl0 : h₀.IsList l vs.toArray) (F : Fr h₀ env.locals s.heap m₀) (N : News h₀ env.locals s.heap news) (hj : J 0 m₀ news)
    (turn : ∀ (i : Nat) x t Tu m news₁ h tk I1 o1 I2 o2, vs[i]? = some x → IsTup h Tu #[.int (i : Int) t, x] → J i m news₁ → (∀ p ∈ news₁, p.1 ≠ I1) → (∀ p ∈ news₁, p.1 ≠ I2) → Fr h₀ env.locals h m → News h₀ env.locals h ((I1, o1) :: (I2, o2) :: news₁) →
      wpAny (model prog w) A (assign (.Tuple elts kk pos) env (.ref Tu)) (fun _ s₃ => wpAny (model prog w) A (execs body env) (LoopStepV h₀ env.locals [I1, I2] [(I1, o1), (I2, o2)] (J (i + 1)) { s with heap := h, toks := tk } (fun v s' => Q (.ret v) s') fun s' => Q .next s') E s₃) E { s with heap := h, toks := tk })
    (done : ∀ m news₁ h tk, J vs.length m news₁ → Fr h₀ env.locals h m → News h₀ env.locals h news₁ → Q .next { s with heap := h, toks := tk }) :
    wpAny (model prog w) A (call (.type "enumerate") [.ref l]) (fun xv s₁ => wpAny (model prog w) A (pyIter xv) (fun it s₂ => TurnsAt prog w A h₀ env (.Tuple elts kk pos) body Q E it s₂) E s₁) E s := by
  have hl : s.heap.IsList l vs.toArray := isList_keeps hl0 F.keep
  have hlt : @LT.lt Nat _ l s.heap.objs.size := by obtain ⟨o, ho, _⟩ := hl; exact Heap.lt_size ho
  have hl00 : ∃ o, h₀.get? l = some o := by obtain ⟨o, ho, _⟩ := hl0; exact ⟨o, ho⟩
  have hLs : @LT.lt Nat _ env.locals s.heap.objs.size := F.ns.lt
  have hL : l ≠ env.locals := fun e => by
    obtain ⟨o, ho⟩ := hl00
    exact absurd (Nat.lt_of_lt_of_le (Heap.lt_size ho) F.above) (e ▸ Nat.lt_irrefl _)
  refine call_enumerate_list hl fun h' hE hI hsz hk => ?_
  refine wpAny_pyIter_enum hE ?_
  have W := KTurns.ofWalksU (elts := elts) (k := kk) (pos := pos) (WalksT.enumerate (prog := prog) (w := w) (A := A) hh (s.heap.objs.size + 1) s.heap.objs.size l (Nat.succ_ne_self _) (ktu_ne 1 hlt) (Nat.ne_of_lt hlt) vs.toArray).toU
  have e1 : h₀.get? (s.heap.objs.size + 1) = none := ktu_new F (Nat.le_add_right _ _)
  have e2 : h₀.get? s.heap.objs.size = none := ktu_new F (Nat.le_refl _)
  refine turns_of (s := { s with heap := h' }) J W (fun hI' => (List.mem_cons.mp hI').elim (ktu_ne 1 hLs) fun hI' => (List.mem_cons.mp hI').elim (Nat.ne_of_lt hLs) fun hI' => hL (List.mem_singleton.mp hI').symm) (List.forall_mem_cons.mpr ⟨e1, List.forall_mem_cons.mpr ⟨e2, List.forall_mem_nil _⟩⟩) ⟨⟨.none, hE⟩, hI, hl.at fun o e => hk l o e⟩ (F.keeps hk) (N.grown hk)
    (fun p hp hI' => (List.mem_cons.mp hI').elim (ktu_ne 1 (Heap.lt_size (N p hp).1)) fun hI' => Nat.ne_of_lt (Heap.lt_size (N p hp).1) (List.mem_singleton.mp hI')) hj (fun i v m₁ news₁ h₁ tk₁ own hin hP hJ hoff hown hget hall hst F₁ N₁ => ?_) fun m news₁ h tk hJ F' N' => done m news₁ h tk hJ F' N'
  obtain ⟨Tu, vals, rfl, ⟨t, x, hx, rfl⟩, hT⟩ := hP
  obtain ⟨⟨old, he⟩, ⟨oi, hoi, -⟩, -⟩ := hst
  obtain ⟨oe, hoe⟩ : ∃ oe : Obj, h₁.get? (s.heap.objs.size + 1) = some oe := ⟨_, he⟩
  have m1 := hall (s.heap.objs.size + 1) (.head _) e1 oe hoe
  have m2 := hall s.heap.objs.size (.tail _ (.head _)) e2 oi hoi
  have ownI : ∀ p ∈ own, p ∈ [(s.heap.objs.size + 1, oe), (s.heap.objs.size, oi)] := fun p hp => by
    have h2 := hget p hp
    rcases List.mem_cons.mp (hown p hp) with hb | hb
    · exact List.mem_cons.mpr (.inl (Prod.ext hb (Option.some.inj (h2.symm.trans (hb ▸ hoe)))))
    · rcases List.mem_cons.mp hb with hb | hb
      · exact List.mem_cons.mpr (.inr (List.mem_singleton.mpr (Prod.ext hb (Option.some.inj (h2.symm.trans (hb ▸ hoi))))))
      · obtain ⟨o, ho⟩ := hl00
        exact (no_of (N₁ _ (List.mem_append_left _ hp)).2.2 (show h₀.get? p.1 = some o from (List.mem_singleton.mp hb) ▸ ho)).elim
  exact wpAny_mono (turn i x t Tu m₁ news₁ h₁ tk₁ (s.heap.objs.size + 1) oe s.heap.objs.size oi (List.getElem?_toArray ▸ hx) hT hJ (fun p hp e => hoff p hp (e ▸ .head _)) (fun p hp e => hoff p hp (e ▸ .tail _ (.head _))) F₁ (List.forall_mem_cons.mpr ⟨N₁ _ (List.mem_append_left _ m1), List.forall_mem_cons.mpr ⟨N₁ _ (List.mem_append_left _ m2), fun p hp => N₁ p (List.mem_append_right _ hp)⟩⟩)) (fun _ s₂ h₂ => wpAny_mono h₂ (fun _ _ q => step_own ownI q) fun _ _ e => e) fun _ _ e => e
end

def plainC (c : Int) : Bool := decide (97 ≤ c ∧ c ≤ 122) || decide (48 ≤ c ∧ c ≤ 57) || decide (c = 45)
set_option maxHeartbeats 4000000 in
theorem c_plain (w : World) (s : Shared) (c : Int) (t : Tok) : Callee w 244 [.int c t] 2 s (Ext s fun v _ => v = .bool (plainC c)) := by
  walk_at "mine enter"
  walk_at "mine body"
  walk_at "mine steps"
  all_goals try dsimp only
  all_goals exact Ext.intro (Fr.keep (by assumption)) (congrArg Value.bool (Bool.eq_iff_iff.mpr (by simp only [plainC, Bool.or_eq_true, decide_eq_true_eq, beq_iff_eq]; omega)))
theorem st_ok {c : Int} (hc : c ∈ lawCodes) : (Str.ofString (stOf c) == Str.ofString "disallowed_STD3_valid") = false ∧ (Str.ofString (stOf c) == Str.ofString "disallowed_STD3_mapped") = false := by
  have := List.all_eq_true.mp (by decide +kernel : (lawCodes.all fun c => !(Str.ofString (stOf c) == Str.ofString "disallowed_STD3_valid") && !(Str.ofString (stOf c) == Str.ofString "disallowed_STD3_mapped")) = true) c hc
  simpa using this
theorem row_tup {h : Heap} {v : Value} {x : String} {told : List Int} {a : List Addr} (r : Reads h v (rowD x told) a) : ∃ T t told', v = .ref T ∧ IsTup h T #[.str (Str.ofString x) t, told'] := by
  cases r with
  | @tuple _ o vs n _ _ h1 h2 h3 h4 =>
    obtain ⟨L⟩ := vs
    cases h4 with
    | cons r1 r2 => cases r1; cases r2 with
      | cons r3 r4 => cases r4; exact ⟨_, _, _, rfl, o, h1, h2, n, h3⟩
set_option maxHeartbeats 4000000 in
theorem c_status (w : World) (s : Shared) (S : DSt) (D : LawD w s.heap S) {c : Int} (hc : c ∈ lawCodes) (t : Tok) (b : Bool) : Callee w 251 [.int c t, .ref S.d, .bool b] 5 s (Ext s fun v h' => ∃ T t told, v = .ref T ∧ IsTup h' T #[.str (Str.ofString (stOf c)) t, told]) := by
  have tg_c_status : True := trivial
  obtain ⟨e1, e2⟩ := st_ok hc
  k_with "getMethod ref" => ((fail_if_success (fail_if_success (clear tg_c_status))); k_dflt (refine data_meth D (Fr.keep (by k_asm)) (by k_asm) (by k_asm) rfl ?_))
  walk_at "mine enter"
  walk_at "mine body"
  k_with "call ref" => ((fail_if_success (fail_if_success (clear tg_c_status))); first | (k_dflt (refine Callee.ext (c_idna w _ S (D.keeps (Fr.keep (by k_asm))) hc _ _) (by k_asm) (by k_asm) (by k_asm) (by k_asm) (by k_asm) (by first | exact rfl | assumption) (by walk_at "mine room") (by walk_at "mine room") ?_; rintro v' h' tk' F' N' ST ⟨a, r⟩; obtain ⟨T, t', told', rfl, hT⟩ := row_tup r; replace hT := isTup_keeps ST hT; clear r)) | fail "no")
  walk_at "mine steps"
  all_goals try dsimp only
  all_goals exact Ext.intro (Fr.keep (by assumption)) ⟨_, _, _, rfl, News.isTup (by k_asm) (by k_mem)⟩

structure FlgV where
  tr : Bool
  ol : Bool
  hy : Bool
  jo : Bool
  cx : Bool
abbrev flgEs (w : World) (f : FlgV) (t1 t2 t3 t4 t5 t6 t7 : Tok) : List DictEntry := [⟨PyData.keyHash w.params (Str.ofString "is_transitional"), .str (Str.ofString "is_transitional") t1, .bool f.tr⟩, ⟨PyData.keyHash w.params (Str.ofString "only_letters"), .str (Str.ofString "only_letters") t2, .bool f.ol⟩, ⟨PyData.keyHash w.params (Str.ofString "hyphens"), .str (Str.ofString "hyphens") t3, .bool f.hy⟩, ⟨PyData.keyHash w.params (Str.ofString "joiners"), .str (Str.ofString "joiners") t4, .bool f.jo⟩, ⟨PyData.keyHash w.params (Str.ofString "directions"), .str (Str.ofString "directions") t5, .bool true⟩, ⟨PyData.keyHash w.params (Str.ofString "contexts"), .str (Str.ofString "contexts") t6, .bool f.cx⟩, ⟨PyData.keyHash w.params (Str.ofString "lengths"), .str (Str.ofString "lengths") t7, .bool true⟩]
inductive FlgAt (w : World) (h : Heap) (fa : Addr) (f : FlgV) : Prop
  | mk (fx : Addr) (t1 t2 t3 t4 t5 t6 t7 : Tok) : h.get? fa = some (instObj 233 fx) → h.get? fx = some (dictOf (flgEs w f t1 t2 t3 t4 t5 t6 t7) 7) → FlgAt w h fa f
theorem FlgAt.keeps {w : World} {h h' : Heap} {fa : Addr} {f : FlgV} (x : FlgAt w h fa f) (k : h.StaysIn h') : FlgAt w h' fa f := by
  obtain ⟨fx, t1, t2, t3, t4, t5, t6, t7, a, b⟩ := x
  exact ⟨fx, t1, t2, t3, t4, t5, t6, t7, k _ _ a, k _ _ b⟩
def hyphS (ns : List Int) : Bool := ns.take 1 == [45] || ns.drop (ns.length - 1) == [45] || (ns.drop 2).take 2 == [45, 45]
theorem pick_take_ints {vs : List Value} {ns : List Int} {y : Int} (hi : IntsAre vs ns) (h : 0 ≤ y) : IntsAre (slicePick vs.toArray none (some y) none).toList (ns.take y.toNat) :=
  kmk_upto hi h
theorem pick_last_ints {vs : List Value} {ns : List Int} (hi : IntsAre vs ns) : IntsAre (slicePick vs.toArray (some (-1)) none none).toList (ns.drop (ns.length - 1)) := kmk_from_neg hi (by decide)
theorem pick_mid_ints {vs : List Value} {ns : List Int} (hi : IntsAre vs ns) : IntsAre (slicePick vs.toArray (some 2) (some 4) none).toList ((ns.drop 2).take 2) := by
  have h := kmk_run hi (x := 2) (y := 4) (by decide) (by decide)
  have e : min 4 ns.length - 2 = min 2 (ns.drop 2).length := (Nat.sub_min_sub_right 4 ns.length 2).symm.trans (congrArg (min 2) List.length_drop.symm)
  exact (e.symm ▸ kmk_take_min (ns.drop 2) 2 : (ns.drop 2).take (min 4 ns.length - 2) = (ns.drop 2).take 2) ▸ h
theorem kw_38_1 : True := by
  k_with "subscriptTail Name Slice ref ref" => first | (k_here; (with_reducible show wpAny _ _ (subscriptTail _ (PySem.Expr.Slice _ _ none _) (Value.ref _) (Value.ref _)) _ _ _); k_dflt (refine' kmk_slice_ints (by k_asm) (by k_asm) (by first | kmk_list | exact isList_fr (by k_asm) (by assumption)) (by kmk_part) (by kmk_part) (by first | assumption | l_ints) (by first | exact pick_take_ints (by first | assumption | l_ints) (by decide) | exact pick_last_ints (by first | assumption | l_ints) | exact pick_mid_ints (by first | assumption | l_ints)) (by rfl) ?_ (by with_unfolding_all rfl) (by kmk_pure) (by (rw [len_size' (by first | assumption | l_ints), sizeLine_eq]; (try simp only [List.length_reverse, List.length_take, List.length_drop]); omega))); intro D'_k ws'_k h'_k F'_k N'_k l1_k hI'_k hC'_k hL'_k; (try k_lt l1_k); (try k_sweep)) | fail "no"
  trivial
theorem list_at {w : World} {h : Heap} {a : Addr} {od : Option Addr} {osl : Array (Option Value)} {items : Array Value} {n : Nat} (X : (Tp.heap_1 w.params).In h) (ho : (Tp.heap_1 w.params).lookup a = some ⟨.type "list", od, .seq items n, osl⟩) : h.IsList a items :=
  ⟨_, X _ _ ho, rfl, n, rfl⟩
theorem kw_38_2 : True := by
  k_with "mine lst" => first | (first | exact News.isList (by k_asm) (by k_mem) | kmk_list | exact isList_fr (by k_asm) (by assumption) | exact isList_fr (by k_asm) (list_at (by k_asm) (by k_is))) | fail "no"
  k_with "compareOp Eq ref ref" => first | (k_here; (with_reducible show wpAny _ _ (compareOp CmpOp.Eq (Value.ref _) (Value.ref _)) _ _ _); k_dflt (refine' ke_eq_ints (by walk_at "mine lst") (by walk_at "mine lst") (by first | assumption | l_ints | walk_at "mine are") (by first | assumption | l_ints | walk_at "mine are") (by first | ke_room | (dsimp only [ktrTop, Around.in1, cLine]; omega)) ?_; k_whole)) | fail "no"
  trivial
theorem newstrs_ext {s : Shared} {h' : Heap} {L D : Addr} {m : Str → Option Value} {nn : List (Addr × Obj)} {vs : List Value} {ys : List Str} {k tk : Nat} (F : Fr s.heap L h' m) (N : News s.heap L h' nn) (hm : (D, ({ cls := .type "list", data := .seq vs.toArray k } : Obj)) ∈ nn) (hs : StrsAre vs ys) : Ext s (fun v h' => ∃ xs, NewList s xs v h' ∧ StrsAre xs ys) (.ref D) { s with heap := h', toks := tk } :=
  Ext.intro (Fr.keep F) ⟨vs, ⟨D, k, rfl, (N _ hm).1, (N _ hm).2.2⟩, hs⟩
def Hyp (ns : List Int) : Prop := ns.take 1 = [45] ∨ ns.drop (ns.length - 1) = [45] ∨ (ns.drop 2).take 2 = [45, 45]
theorem hyph_iff {ns : List Int} : hyphS ns = true ↔ Hyp ns := by
  simp only [hyphS, Hyp, Bool.or_eq_true, beq_iff_eq, or_assoc]
theorem hy_true {ns : List Int} {xs : List Value} (h : Hyp ns) (r : StrsAre xs [Str.ofString "hyphens"]) : StrsAre xs (if true && hyphS ns then [Str.ofString "hyphens"] else []) := by
  rw [hyph_iff.mpr h]; exact r
theorem hy_false {ns : List Int} {xs : List Value} (h1 : ¬ ns.take 1 = [45]) (h2 : ¬ ns.drop (ns.length - 1) = [45]) (h3 : ¬ (ns.drop 2).take 2 = [45, 45]) (r : StrsAre xs []) : StrsAre xs (if true && hyphS ns then [Str.ofString "hyphens"] else []) := by
  have : hyphS ns = false := by
    cases z : hyphS ns with
    | false => rfl
    | true => rcases hyph_iff.mp z with e | e | e <;> contradiction
  rw [this]; exact r
theorem no_prefix {ns : List Int} (h : ∀ c ∈ ns, c ∈ lawCodes) : ns.take (Int.toNat 4) ≠ [120, 110, 45, 45] := by
  intro e
  have := h 120 (List.mem_of_mem_take (e.symm ▸ List.Mem.head _ : (120 : Int) ∈ ns.take (Int.toNat 4)))
  exact absurd this (by decide)
set_option maxHeartbeats 4000000 in
theorem c_hyph (w : World) (s : Shared) (l : Addr) (vs : List Value) (ns : List Int) (B : Lab s.heap l vs ns) (b : Bool) :
    Callee w 282 [.ref l, .bool b] 4 s (Ext s fun v h' => ∃ xs, NewList s xs v h' ∧ StrsAre xs (if b && hyphS ns then [Str.ofString "hyphens"] else [])) := by
  have hl := B.list
  have hi := B.nums
  have hn := B.len
  have hcs := B.codes
  have hsz : (vs.length : Int) = ns.length := by rw [hi.length]
  walk_at "mine enter"
  walk_at "mine body"
  cases b
  case true =>
    walk_at "mine steps"
    all_goals first
      | exact newstrs_ext (by k_asm) (by k_asm) (by k_mem) (hy_true (by first | exact .inl (by assumption) | exact .inr (.inl (by assumption)) | exact .inr (.inr (by assumption))) (.cons _ _ .nil))
      | exact newstrs_ext (by k_asm) (by k_asm) (by k_mem) (hy_false (by assumption) (by assumption) (by assumption) .nil)
  case false =>
    have np := no_prefix hcs
    walk_at "mine steps"
    exact newstrs_ext (by k_asm) (by k_asm) (by k_mem) .nil

def badC (f : FlgV) (en : Bool) (c : Int) : Bool := ((Str.ofString (stOf c) != Str.ofString "valid") && !((Str.ofString (stOf c) == Str.ofString "deviation") && (en || !f.tr))) || (f.ol && decide (c ≤ 127) && !plainC c)
section
variable {f : FlgV} {en : Bool} {c : Int}
theorem bad1 (h : (Str.ofString (stOf c) != Str.ofString "valid") = true) (h2 : (Str.ofString (stOf c) == Str.ofString "deviation") = false) : badC f en c = true := by
  unfold badC; rw [h, h2]; rfl
theorem bad2 (h : (Str.ofString (stOf c) != Str.ofString "valid") = true) (h2 : (en || !f.tr) = false) : badC f en c = true := by
  unfold badC; rw [h, h2, Bool.and_false]; rfl
theorem bad3 (h : f.ol = true) (h2 : c ≤ 127) (h3 : plainC c = false) : badC f en c = true := by
  unfold badC; rw [h, h3, decide_eq_true h2]; simp
theorem okA (h : (Str.ofString (stOf c) != Str.ofString "valid") = false) (h2 : (f.ol && decide (c ≤ 127) && !plainC c) = false) : badC f en c = false := by
  unfold badC; rw [h, h2]; rfl
theorem okB (h : (Str.ofString (stOf c) == Str.ofString "deviation") = true) (h1 : (en || !f.tr) = true) (h2 : (f.ol && decide (c ≤ 127) && !plainC c) = false) : badC f en c = false := by
  unfold badC; rw [h, h1, h2]; simp
theorem okC (h : f.ol = false) : (f.ol && decide (c ≤ 127) && !plainC c) = false := by rw [h]; rfl
theorem okD9 (h : ¬ c ≤ 127) : (f.ol && decide (c ≤ 127) && !plainC c) = false := by rw [decide_eq_false h, Bool.and_false]; rfl
theorem okE (h : plainC c = true) : (f.ol && decide (c ≤ 127) && !plainC c) = false := by rw [h]; exact Bool.and_false _
end
abbrev canonW (M S C : Option Value) (m : Str → Option Value) : Str → Option Value := fun y => if y = Str.ofString "may_deviate" then M else if y = Str.ofString "status" then S else if y = Str.ofString "code" then C else m y
theorem canonW_self {m : Str → Option Value} : m = canonW (m (Str.ofString "may_deviate")) (m (Str.ofString "status")) (m (Str.ofString "code")) m := by
  funext y
  unfold canonW
  by_cases h1 : y = Str.ofString "may_deviate"
  · rw [if_pos h1, h1]
  by_cases h2 : y = Str.ofString "status"
  · rw [if_neg h1, if_pos h2, h2]
  by_cases h3 : y = Str.ofString "code"
  · rw [if_neg h1, if_neg h2, if_pos h3, h3]
  · rw [if_neg h1, if_neg h2, if_neg h3]
theorem canonW_twice {A T W A' T' W' : Option Value} {m : Str → Option Value} : canonW A' T' W' (canonW A T W m) = canonW A' T' W' m := by
  funext y
  unfold canonW
  by_cases h1 : y = Str.ofString "may_deviate"
  · rw [if_pos h1, if_pos h1]
  by_cases h2 : y = Str.ofString "status"
  · rw [if_neg h1, if_pos h2, if_neg h1, if_pos h2]
  by_cases h3 : y = Str.ofString "code"
  · rw [if_neg h1, if_neg h2, if_pos h3, if_neg h1, if_neg h2, if_pos h3]
  · simp only [if_neg h1, if_neg h2, if_neg h3]
theorem merged {M : Model} {A : Around} {t : Sem Value} {s : Shared} {Q E : Value → Shared → Prop} (v : Value) (h : wpAny M A t (fun v' s' => v' = v ∧ ∃ tk, s' = { s with toks := tk }) E s) (k : ∀ tk, Q v { s with toks := tk }) : wpAny M A t Q E s := wpAny_mono h (by rintro _ _ ⟨rfl, tk, rfl⟩; exact k tk) fun _ _ x => x
structure Merging : Prop where
  here : True
theorem marked {P : Prop} (h : Merging → P) : P := h ⟨trivial⟩
inductive CwJ (f : FlgV) (en : Bool) (ns : List Int) (m₀ : Str → Option Value) (i : Nat) (m : Str → Option Value) (nx : List (Addr × Obj)) : Prop
  | mk (M S C : Option Value) : nx = [] → (∀ c ∈ ns.take i, badC f en c = false) → m = canonW M S C m₀ → CwJ f en ns m₀ i m nx
theorem cw_end {h₀ h' : Heap} {L I : Addr} {oI : Obj} {s₁ : Shared} {tk i : Nat} {f : FlgV} {en : Bool} {ns : List Int} {m₀ m2 : Str → Option Value} (F : Fr h₀ L h' m2) (N : News h₀ L h' [(I, oI)]) (hb : ∀ c ∈ ns.take i, badC f en c = false) (e : ∃ M S C, m2 = canonW M S C m₀) : LoopStepU h₀ L [I] [(I, oI)] (CwJ f en ns m₀ i) s₁ .next { s₁ with heap := h', toks := tk } :=
  let ⟨M, S, C, e⟩ := e; LoopStepU.intro (news₂ := []) F N (List.forall_mem_nil _) ⟨M, S, C, rfl, hb, e⟩
theorem cw_bad {f : FlgV} {en : Bool} {ns : List Int} {c : Int} {xs : List Value} (hc : c ∈ ns) (h : badC f en c = true) (r : StrsAre xs [Str.ofString "disallowed"]) : StrsAre xs (if ns.any (badC f en) then [Str.ofString "disallowed"] else []) := by
  rw [if_pos (List.any_eq_true.mpr ⟨c, hc, h⟩)]; exact r
theorem cw_next {f : FlgV} {en : Bool} {ns : List Int} {i : Nat} {c : Int} (hc : ns[i]? = some c) (hb : ∀ c ∈ ns.take i, badC f en c = false) (h : badC f en c = false) : ∀ c ∈ ns.take (i + 1), badC f en c = false := by
  intro d hd
  rw [List.take_add_one, hc] at hd
  rcases List.mem_append.mp hd with hd | hd
  · exact hb d hd
  · rw [List.mem_singleton.mp hd]; exact h
theorem cw_none {f : FlgV} {en : Bool} {vs xs : List Value} {ns : List Int} (hi : IntsAre vs ns) (hb : ∀ c ∈ ns.take vs.length, badC f en c = false) (r : StrsAre xs []) : StrsAre xs (if ns.any (badC f en) then [Str.ofString "disallowed"] else []) := by
  rw [hi.length, List.take_length] at hb
  rw [if_neg (fun h => by obtain ⟨c, hc, e⟩ := List.any_eq_true.mp h; rw [hb c hc] at e; cases e)]
  exact r
set_option maxHeartbeats 8000000 in
theorem c_codewords (w : World) (s : Shared) (S : DSt) (D : LawD w s.heap S) (l fa : Addr) (vs : List Value) (ns : List Int) (B : Lab s.heap l vs ns) (f : FlgV) (FA : FlgAt w s.heap fa f) (en : Bool) :
    Callee w 289 [.ref l, .ref S.d, .ref fa, .bool en] 7 s (Ext s fun v h' => ∃ xs, NewList s xs v h' ∧ StrsAre xs (if ns.any (badC f en) then [Str.ofString "disallowed"] else [])) := by
  have tg_c_codewords : True := trivial
  have nf : NoFor := ⟨trivial⟩
  have hl := B.list
  have hi := B.nums
  have hn := B.len
  have hcs := B.codes
  k_with "getMethod ref" => ((fail_if_success (fail_if_success (clear tg_c_codewords))); k_dflt (refine data_meth D (Fr.keep (by k_asm)) (by k_asm) (by k_asm) rfl ?_))
  obtain ⟨fx, t1, t2, t3, t4, t5, t6, t7, hf, hfx⟩ := FA
  walk_at "mine enter"
  walk_at "mine body"
  walk_at "mine steps"
  refine Frozen.mk ?_
  refine lp_listM (CwJ f en ns _) rfl hl (by k_asm) (by k_asm) ⟨_, _, _, rfl, List.forall_mem_nil _, canonW_self⟩ ?_ ?_
  · intro i v m tl1 h2 tk2 I oI hv J9 hoff F2 N2
    walk_at "mine gen"
    obtain ⟨M, C, Cc, rfl, hb, rfl⟩ := J9
    obtain ⟨c, t, rfl, hc0⟩ := ints_get B.nums hv
    have hc := B.codes c (List.mem_of_getElem? hc0)
    (try k_fold)
    k_with "call ref" => ((fail_if_success (fail_if_success (clear tg_c_codewords))); first | (k_dflt (first
      | (refine Callee.ext (c_status w _ S (D.keeps (Fr.keep (by k_asm))) hc _ _) (by k_asm) (by k_asm) (by k_asm) (by k_asm) (by k_asm) (by first | exact rfl | assumption) (by walk_at "mine room") (by walk_at "mine room") ?_; rintro v' h' tk' F' N' - ⟨T, t', told', rfl, hT⟩)
      | (refine Callee.ext (c_plain w _ c _) (by k_asm) (by k_asm) (by k_asm) (by k_asm) (by k_asm) (by first | exact rfl | assumption) (by walk_at "mine room") (by walk_at "mine room") ?_; rintro v' h' tk' F' N' - rfl))) | fail "no")
    k_with "eval BoolOp" => ((fail_if_success (fail_if_success (clear tg_c_codewords))); first | (((fail_if_success (have q9 : Merging := by assumption)); (with_reducible show wpAny _ _ (eval (Expr.BoolOp .Or _ _) _) _ _ _); refine merged (.bool (en || !f.tr)) (marked fun mrg9 => ?_) (fun tk9 => ?_))) | fail "no")
    walk_at "mine steps"
    all_goals first
      | (refine newstrs_ext (by k_asm) (by k_asm) (by k_mem) (cw_bad (List.mem_of_getElem? hc0) ?_ (.cons _ _ .nil)); first | exact bad1 (by assumption) (by assumption) | exact bad2 (by assumption) (by assumption) | exact bad3 (by assumption) (by assumption) (by assumption))
      | (refine cw_end (by k_asm) (by k_asm) (cw_next hc0 hb ?_) ?_; rotate_left; (exact ⟨_, _, _, canonW_twice⟩); first | (refine okA (by assumption) ?_; first | exact okC (by assumption) | exact okD9 (by assumption) | exact okE (by assumption)) | (refine okB (by assumption) (by assumption) ?_; first | exact okC (by assumption) | exact okD9 (by assumption) | exact okE (by assumption)))
      | ((have e9 : en = true := by assumption); subst e9; rfl)
      | ((have e9 : en = false := by assumption); subst e9; first | rfl | (rw [(by assumption : f.tr = true)]; rfl))
  · rintro m tl1 h2 tk2 ⟨M, C, Cc, rfl, hb, rfl⟩ F2 N2
    (try k_fold)
    walk_at "mine steps"
    exact newstrs_ext (by k_asm) (by k_asm) (by k_mem) (cw_none B.nums hb .nil)

/-- the words of a place -/
def wordsAt (f : FlgV) (ns : List Int) (i : Nat) : List Str :=
  (if f.jo && ([8205, 8204].any (· == ns.getD i 0)) && !joined ns i then [Str.ofString "joiner"] else []) ++ (if f.cx && !company ns i then [Str.ofString "context"] else [])
def wordsTo (f : FlgV) (ns : List Int) (n : Nat) : List Str := (List.range n).flatMap (wordsAt f ns)
theorem wordsTo_succ {f : FlgV} {ns : List Int} {n : Nat} : wordsTo f ns (n + 1) = wordsTo f ns n ++ wordsAt f ns n := by
  unfold wordsTo
  rw [List.range_succ, List.flatMap_append, List.flatMap_singleton]
def markS (ns : List Int) : Bool := [Str.ofString "Mn", Str.ofString "Mc", Str.ofString "Me"].any (· == Str.ofString (gcOf (ns.getD 0 0)))
def words (f : FlgV) (en : Bool) (ns : List Int) : List Str :=
  (if f.hy && hyphS ns then [Str.ofString "hyphens"] else []) ++ (if markS ns then [Str.ofString "mark"] else []) ++ (if ns.any (badC f en) then [Str.ofString "disallowed"] else []) ++ wordsTo f ns ns.length
theorem StrsAre.app {a b : List Value} {x y : List Str} (h : StrsAre a x) (k : StrsAre b y) : StrsAre (a ++ b) (x ++ y) := by
  induction h with
  | nil => exact k
  | cons n t _ ih => exact .cons n t ih
theorem StrsOk.app {a b : List Value} {x y : List Str} (h : StrsOk a x) (k : StrsOk b y) : StrsOk (a ++ b) (x ++ y) := ⟨StrsAre.app h.are k.are, by rw [List.all_append, h.ok, k.ok]; rfl⟩
theorem StrsOk.one {x : Str} {t : Tok} (h : PyData.strOk x = true) : StrsOk [.str x t] [x] := ⟨.cons _ _ .nil, by rw [List.all_cons, h]; rfl⟩
section
variable {prog : Program} {w : World} {A : Around} {E : Value → Shared → Prop} {s : Shared} {h₀ : Heap} {L W : Addr} {m : Str → Option Value} {pre post : List (Addr × Obj)} {xs ys : List Value} {k c : Nat} {Q : Value → Shared → Prop}
theorem append_pp {x : Value} (F : Fr h₀ L s.heap m) (N : News h₀ L s.heap (pre ++ (W, lstO xs k) :: post)) (h1 : ∀ p ∈ pre, p.1 ≠ W) (h2 : ∀ p ∈ post, p.1 ≠ W)
    (h : ∀ h', Fr h₀ L h' m → News h₀ L h' (pre ++ (W, lstO (xs ++ [x]) (k + 1)) :: post) → Q .none { s with heap := h' }) (hz : xs.length ≤ sizeLine) : wpAny (model prog w) A (call (.builtin "list.append") [.ref W, x]) Q E s := by
  have z := N (W, lstO xs k) (List.mem_append.mpr (.inr (.head _)))
  refine append_at z.1 (fun h' hs ho' => h h' (F.change hs z.2.1 z.2.2) (news_set N h1 h2 hs ?_)) (by rw [List.size_toArray]; exact hz)
  rw [ho']
  simp
theorem extend_pp {b : Addr} (F : Fr h₀ L s.heap m) (N : News h₀ L s.heap (pre ++ (W, lstO xs k) :: post)) (hb : (b, lstO ys c) ∈ pre) (h1 : ∀ p ∈ pre, p.1 ≠ W) (h2 : ∀ p ∈ post, p.1 ≠ W)
    (h : ∀ h' k', Fr h₀ L h' m → News h₀ L h' (pre ++ (W, lstO (xs ++ ys) k') :: post) → Q .none { s with heap := h' }) (hz : xs.length + ys.length ≤ 1000) : wpAny (model prog w) A (call (.builtin "list.extend") [.ref W, .ref b]) Q E s := by
  have z := N (W, lstO xs k) (List.mem_append.mpr (.inr (.head _)))
  have e : (xs.toArray ++ ys.toArray) = (xs ++ ys).toArray := by simp
  have q0 : ¬(!xs.toArray.isEmpty && Builtin.List.listTooLong (xs.toArray.size + ys.toArray.size)) = true := by
    have : Builtin.List.listTooLong (xs.toArray.size + ys.toArray.size) = false := decide_eq_false (by rw [List.size_toArray, List.size_toArray, sizeLine_eq]; omega)
    rw [this, Bool.and_false]; exact Bool.false_ne_true
  refine call_meets PySem.F.slot_list_extend ⟨_, z.1, rfl⟩ PySem.F.entry_list_extend (PySem.F.args_list_extend_2 _ _) (PySem.AutoSeq1.list_extend_list_list_0 W _ k b _ c q0 (by rw [List.size_toArray, sizeLine_eq]; omega) (by rw [List.size_toArray, List.size_toArray, sizeLine_eq]; omega)) ⟨z.1, (N _ (List.mem_append_left _ hb)).1, ?_⟩
  by_cases hy : ys.length = 0
  · exact h _ k (F.change (Heap.SameBut.update ..) z.2.1 z.2.2) (kl_turn0 _ N h1 h2 e (by simpa using hy))
  · exact h _ (k + 1) (F.change (Heap.SameBut.update ..) z.2.1 z.2.2) (kl_turn _ N h1 h2 e (by simpa using hy))
end
theorem Callee.at {w : World} {f : Addr} {vs vs' : List Value} {d : Nat} {s : Shared} {post : Value → Shared → Prop} (C : Callee w f vs d s post) (e : vs = vs') : Callee w f vs' d s post := e ▸ C
theorem CalleeN.at {w : World} {f : Addr} {vs vs' : List Value} {d : Nat} {s : Shared} {n : List (Addr × Obj)} {post : Value → Shared → Prop} (C : CalleeN w f vs d s n post) (e : vs = vs') : CalleeN w f vs' d s n post := e ▸ C
/-- a call that gives back a new list of strings -/
theorem Callee.strs {w : World} {f : Addr} {vs : List Value} {ys : List Str} {d : Nat} {s : Shared} {A : Around}
    {p : Program} {loose : List Str} {mean : ExcName → Option Value} {mg mb : Str → Option Value} {dp un : Nat} {gd : Option (List Code)} {cn : Str} {cs : Scope} {L a : Addr} {ccd : Value} {cl : List (Str × Addr)} {outer : List Env} {A₀ : Around} {base h₀ : Heap} {m : Str → Option Value} {Q E : Value → Shared → Prop} {own : List (Addr × Obj)}
    (e : A = ktrTop dp un gd cn cs L a ccd cl outer) (C : Callee w f vs d s (Ext s fun v h' => ∃ xs, NewList s xs v h' ∧ StrsAre xs ys)) (B : Below A₀ base outer h₀) (F : Fr h₀ L s.heap m) (No : News h₀ L s.heap own) (X : (Tp.heap_1 w.params).In h₀) (T : Top p loose mean mg mb h₀) (hk : cs.kind = .function) (hdp : dp + d < 1000) (hun : un + 40 * d < 9900)
    (k : ∀ h' tk D xs c, Fr h₀ L h' m → News h₀ L h' ((D, lstO xs c) :: own) → StrsAre xs ys → (∀ q ∈ own, @Ne Nat q.1 D) → Q (.ref D) { s with heap := h', toks := tk }) : wpAny (model PR w) A (call (.ref f) vs) Q E s := by
  subst e
  refine C.ext B F No X T hk hdp hun ?_
  rintro v h' tk F' No' st ⟨xs, ⟨D, c, rfl, hD, hn⟩, hs⟩
  exact k h' tk D xs c F' (List.forall_mem_cons.mpr ⟨new_news F hn hD, No'⟩) hs (new_off No hn)
/-- the caller's side of a call that turns the data and the table -/
theorem CalleeN.fuse {w : World} {f : Addr} {vs : List Value} {d : Nat} {s : Shared} {hD : Heap} {da : Addr} {tl own : List (Addr × Obj)} {P : Value → Heap → Prop} {A : Around}
    {p : Program} {loose : List Str} {mean : ExcName → Option Value} {mg mb : Str → Option Value} {dp un : Nat} {gd : Option (List Code)} {cn : Str} {cs : Scope} {L a : Addr} {ccd : Value} {cl : List (Str × Addr)} {outer : List Env} {A₀ : Around} {base h₀ : Heap} {m : Str → Option Value} {Q E : Value → Shared → Prop}
    (e : A = ktrTop dp un gd cn cs L a ccd cl outer) (C : CalleeN w f vs d s (led hD ++ tl) (FormPost w s hD tl da P)) (B : Below A₀ base outer h₀) (F : Fr h₀ L s.heap m) (N : News h₀ L s.heap (own ++ (led hD ++ tl))) (X : (Tp.heap_1 w.params).In h₀) (T : Top p loose mean mg mb h₀) (hk : cs.kind = .function) (hdp : dp + d < 1000) (hun : un + 40 * d < 9900)
    (hoff : ∀ q ∈ own, ∀ p ∈ led hD ++ tl, p.1 ≠ q.1)
    (k : ∀ v h' tk hD' tl' S' r, Fr h₀ L h' m → News h₀ L h' (own ++ (led hD' ++ tl')) → (∀ q ∈ own, ∀ p ∈ led hD' ++ tl', p.1 ≠ q.1) → Foot s.heap hD hD' → Dom hD hD' → TabL tl' → (∀ p ∈ tl, p.1 ∈ tl'.map (·.1)) → (∀ p ∈ tl', hD'.get? p.1 = none) → S'.d = da → LawDm w hD' S' r → P v h' → Q v { s with heap := h', toks := tk }) : wpAny (model PR w) A (call (.ref f) vs) Q E s := by
  subst e
  have Nt : News h₀ L s.heap (led hD ++ tl) := fun p hp => N p (List.mem_append_right _ hp)
  have No : News h₀ L s.heap own := fun p hp => N p (List.mem_append_left _ hp)
  refine wpAny_mono (C p loose mean mg mb dp un gd cn cs L a ccd cl outer A₀ base h₀ m B F Nt X T hk hdp hun) ?_ (fun _ _ h => h.elim)
  rintro v s' ⟨h', tk, hD', tl', S', r, rfl, kp, st, ft, dm, TL, ht, hn, dt, od, ed, DM, hP⟩
  have offD : ∀ b o, hD.get? b = some o → b ≠ L ∧ h₀.get? b = none := fun b o e => (Nt (b, o) (List.mem_append_left _ (mem_led.mpr e))).2
  have offT : ∀ b, b ∈ tl.map (·.1) → b ≠ L ∧ h₀.get? b = none := fun b hb => by
    obtain ⟨q, hq, rfl⟩ := List.mem_map.mp hb
    exact (Nt q (List.mem_append_right _ hq)).2
  have kp' : ∀ b o, s.heap.get? b = some o → (∀ p ∈ led hD ++ tl, p.1 ≠ b) → h'.get? b = some o := fun b o e n => kp b o e (by
    cases z : hD.get? b with
    | none => rfl
    | some o' => exact absurd rfl (n (b, o') (List.mem_append_left _ (mem_led.mpr z)))) (fun z => by
      obtain ⟨q, hq, e⟩ := List.mem_map.mp z
      exact n q (List.mem_append_right _ hq) e)
  have offL : ∀ p ∈ led hD ++ tl, p.1 ≠ L := fun p hp => (Nt p hp).2.1
  have off0 : ∀ b o, h₀.get? b = some o → ∀ p ∈ led hD ++ tl, p.1 ≠ b := fun b o e p hp z => by
    exact no_of (Nt p hp).2.2 (z ▸ e)
  obtain ⟨⟨oL, a1, a2, hL, a3⟩, k1, k2⟩ := id F
  have new : ∀ b, s.heap.get? b = none → b ≠ L ∧ h₀.get? b = none := fun b z => ⟨fun e => no_of z (e ▸ hL), none_back k1 z⟩
  have frm : ∀ p ∈ led hD' ++ tl', (∃ q ∈ led hD ++ tl, q.1 = p.1) ∨ s.heap.get? p.1 = none := fun p hp => by
    rcases List.mem_append.mp hp with hp | hp
    · obtain ⟨b, o⟩ := p
      rcases ft b o (mem_led.mp hp) with ⟨o', e⟩ | e
      · exact .inl ⟨(b, o'), List.mem_append_left _ (mem_led.mpr e), rfl⟩
      · exact .inr e
    · rcases hn p hp with z | z
      · obtain ⟨q, hq, e⟩ := List.mem_map.mp z
        exact .inl ⟨q, List.mem_append_right _ hq, e⟩
      · exact .inr z
  have at' : ∀ p ∈ led hD' ++ tl', h'.get? p.1 = some p.2 := fun p hp => by
    rcases List.mem_append.mp hp with hp | hp
    · obtain ⟨b, o⟩ := p
      exact st b o (mem_led.mp hp)
    · exact ht p hp
  refine k v h' tk hD' tl' S' r ⟨⟨oL, a1, a2, kp' _ _ hL offL, a3⟩, fun b o e => kp' b o (k1 b o e) (off0 b o e), k2⟩ (fun p hp => ?_) (fun q hq p hp e => ?_) ft dm TL dt od ed DM hP
  · rcases List.mem_append.mp hp with hp | hp
    · exact ⟨kp' _ _ (No p hp).1 (hoff p hp), (No p hp).2⟩
    · refine ⟨at' p hp, ?_⟩
      rcases frm p hp with ⟨q, hq, e⟩ | z
      · rw [← e]; exact (Nt q hq).2
      · exact new _ z
  · rcases frm p hp with ⟨q', hq', e'⟩ | z
    · exact hoff q hq q' hq' (e'.trans e)
    · exact no_of z (e ▸ (No q hq).1)

theorem key_strN {w : World} {A : Around} {E : Value → Shared → Prop} {s : Shared} {h₀ : Heap} {L d : Addr} {o : Obj} {nn : List (Addr × Obj)} {kvs : List (Str × Value)} {x : Str} {t : Tok} {v : Value} {Q : Value → Shared → Prop} {value slice : PySem.Expr} (N : News h₀ L s.heap nn) (hm : (d, o) ∈ nn) (hd : o.IsDictOf (strKind PR w) kvs) (hv : valueAt kvs x = some v) (h : Q v { s with toks := s.toks + 1 })
    (hs : subscripted slice false (.ref d) (.str x t) = operate [.ref d, .str x t] (getItem (.ref d) (.str x t)) := by with_unfolding_all rfl) :
    wpAny (model PR w) A (subscriptTail value slice (.ref d) (.str x t)) Q E s :=
  have hm' := (Heap.dictOf_iff.mpr ⟨_, (N _ hm).1, hd⟩ : s.heap.DictOf (strKind PR w) d kvs).mapOf
  tail_any hm'.typeIs slot_dict_getitem.lookup (wpAny_getItem_of (strKind_is PR w x t) hm' hv h) hs
abbrev deckK (c : Addr) (m : Int) (t : Tok) : List (Str × Value) := [(Str.ofString "cells", .ref c), (Str.ofString "mixed", .int m t)]
/-- the deck as a ledger -/
inductive Deck (w : World) (dk c : Addr) (l : List (Addr × Obj)) : Prop
  | mk : ∀ o m t xs ns k, l = [(dk, o), (c, lstO xs k)] → o.IsDictOf (strKind PR w) (deckK c m t) → 0 ≤ m → m < 2147483647 → IntsAre xs ns → ns.length ≤ 40 → Deck w dk c l
theorem deck_set {c : Addr} {m : Int} {t : Tok} {v : Value} : stored (deckK c m t) (Str.ofString "mixed") v = [(Str.ofString "cells", .ref c), (Str.ofString "mixed", v)] := by
  have e1 : Str.ofString "cells" ≠ Str.ofString "mixed" := by decide
  unfold stored deckK
  simp [e1]
theorem ne_nilI {prog : Program} {w : World} {A : Around} {E : Value → Shared → Prop} {s : Shared} {a b : Addr} {xs ys : List Value} {ns ms : List Int} {Q : Value → Shared → Prop} (ha : s.heap.IsList a xs.toArray) (hb : s.heap.IsList b ys.toArray) (hi : IntsAre xs ns) (hj : IntsAre ys ms) (hu : A.units + 64 < cLine) (h : Q (.bool (!decide (ns = ms))) s) :
    wpAny (model prog w) A (compareOp .NotEq (.ref a) (.ref b)) Q E s := ke_ne_ints ha hb hi hj hu h
section
theorem kw_43_1 : True := by
  k_with "subscriptTail Name Constant ref str" => ((fail_if_success (fail_if_success (clear tg_draw))); first | (k_here; (with_reducible show wpAny _ _ (subscriptTail _ _ (Value.ref _) (Value.str _ _)) _ _ _); k_dflt (refine' key_strN (by k_asm) (by k_mem) (by assumption) (by rfl) ?_); k_whole) | fail "no")
  k_with "setItem ref str" => ((fail_if_success (fail_if_success (clear tg_draw))); first | (k_here; (with_reducible show wpAny _ _ (setItem (Value.ref _) (Value.str _ _) _) _ _ _); k_dflt (refine' set_any (pre := []) (by k_asm) (by k_asm) (by assumption) (by (show 2 < 1000; omega)) (by exact List.forall_mem_nil _) (by exact List.forall_mem_cons.mpr ⟨by assumption, List.forall_mem_nil _⟩) ?_); (intro h'_k o'_k F'_k N'_k d'_k); rw [deck_set] at d'_k; (try dsimp only [List.nil_append] at N'_k)) | fail "no")
  k_with "compareOp NotEq ref ref" => ((fail_if_success (fail_if_success (clear tg_draw))); first | (k_here; (with_reducible show wpAny _ _ (compareOp CmpOp.NotEq (Value.ref _) (Value.ref _)) _ _ _); k_dflt (refine' ne_nilI (by exact News.isList (by k_asm) (by k_mem)) (by exact News.isList (by k_asm) (by k_mem)) (by first | assumption | exact IntsAre.nil) (by exact IntsAre.nil) (by first | ke_room | (dsimp only [ktrTop, Around.in1, cLine]; omega)) ?_; k_whole)) | fail "no")
  trivial
set_option maxHeartbeats 4000000 in
theorem c_draw0 (w : World) (s : Shared) (dk c : Addr) (ne : dk ≠ c) (o : Obj) (t3 : Tok) (m : Int) (h0 : 0 ≤ m) (h1 : m < 2147483647) (hd : o.IsDictOf (strKind PR w) (deckK c m t3)) (k : Nat) (many : Int) (hm : 0 < many) (hm2 : many < 1000) (t : Tok) :
    CalleeN w 433 [.ref dk, .int many t] 4 s [(dk, o), (c, lstO [] k)] (ExtN s [(dk, o), (c, lstO [] k)] fun v news' h' => Deck w dk c news' ∧ ∃ r t', v = .int r t' ∧ 0 ≤ r ∧ r < many) := by
  have tg_draw : True := trivial
  have ne' : c ≠ dk := Ne.symm ne
  walk_at "mine enterN"
  walk_at "mine bodyN"
  walk_at "mine steps"
  rename Obj.IsDictOf _ _ _ => hd2
  dsimp only
  refine ExtN.intro (by assumption) (by k_asm) (by k_asm) (by walk_at "mine sub") (by rfl) ⟨⟨_, _, _, [], [], _, rfl, hd2, fmod_lo _ (by decide), fmod_hi _ (by decide), .nil, Nat.zero_le _⟩, _, _, rfl, fmod_lo _ hm, fmod_hi _ hm⟩
set_option maxHeartbeats 4000000 in
theorem c_draw1 (w : World) (s : Shared) (dk c : Addr) (ne : dk ≠ c) (o : Obj) (t3 : Tok) (m : Int) (h0 : 0 ≤ m) (h1 : m < 2147483647) (hd : o.IsDictOf (strKind PR w) (deckK c m t3)) (xs : List Value) (ns : List Int) (hi : IntsAre xs ns) (hn : ns.length ≤ 40) (hp : 0 < xs.length) (k : Nat) (many : Int) (hm : 0 < many) (hm2 : many < 1000) (t : Tok) :
    CalleeN w 433 [.ref dk, .int many t] 4 s [(dk, o), (c, lstO xs k)] (ExtN s [(dk, o), (c, lstO xs k)] fun v news' h' => Deck w dk c news' ∧ ∃ r t', v = .int r t' ∧ 0 ≤ r ∧ r < many) := by
  have tg_draw : True := trivial
  have ne' : c ≠ dk := Ne.symm ne
  have hl9 : xs.length ≤ 40 := by rw [hi.length]; exact hn
  have nn : ns ≠ [] := fun e => by rw [hi.length, e] at hp; exact absurd hp (by decide)
  walk_at "mine enterN"
  walk_at "mine bodyN"
  walk_at "mine steps"
  dsimp only
  refine ExtN.intro (by assumption) (by k_asm) (by k_asm) (by walk_at "mine sub") (by rfl) ⟨⟨_, _, _, _, _, _, rfl, hd, h0, h1, by assumption, by rw [List.length_dropLast]; omega⟩, _, _, rfl, fmod_lo _ hm, fmod_hi _ hm⟩
end

theorem c_draw (w : World) (s : Shared) (dk c : Addr) (ne : dk ≠ c) (l : List (Addr × Obj)) (hd : Deck w dk c l) (many : Int) (hm : 0 < many) (hm2 : many < 1000) (t : Tok) :
    CalleeN w 433 [.ref dk, .int many t] 4 s l (ExtN s l fun v news' h' => Deck w dk c news' ∧ ∃ r t', v = .int r t' ∧ 0 ≤ r ∧ r < many) := by
  obtain ⟨o, m, t3, xs, ns, k, rfl, hd, h0, h1, hi, hn⟩ := hd
  by_cases hp : 0 < xs.length
  · exact c_draw1 w s dk c ne o t3 m h0 h1 hd xs ns hi hn hp k many hm hm2 t
  · have e : xs = [] := List.eq_nil_of_length_eq_zero (by omega)
    subst e
    exact c_draw0 w s dk c ne o t3 m h0 h1 hd k many hm hm2 t

/-- a new deck -/
inductive NewDeck (w : World) (s : Shared) (v : Value) (h' : Heap) : Prop
  | mk : ∀ dk c l', v = .ref dk → dk ≠ c → Deck w dk c l' → (∀ p ∈ l', h'.get? p.1 = some p.2 ∧ s.heap.get? p.1 = none) → NewDeck w s v h'
theorem deck_of {w : World} {s : Shared} {h : Heap} {L d c : Addr} {o : Obj} {xs : List Value} {k : Nat} {nn : List (Addr × Obj)} {m : Int} {t : Tok} {ns : List Int} (N : News s.heap L h nn) (h1 : (d, o) ∈ nn) (h2 : (c, lstO xs k) ∈ nn) (hd : o.IsDictOf (strKind PR w) (deckK c m t)) (ne : @Ne Nat d c) (h0 : 0 ≤ m) (h0b : m < 1000003) (hi : IntsAre xs ns) (hn : ns.length ≤ 40) : NewDeck w s (.ref d) h :=
  ⟨d, c, [(d, o), (c, lstO xs k)], rfl, ne, ⟨o, m, t, xs, ns, k, rfl, hd, h0, by omega, hi, hn⟩, List.forall_mem_cons.mpr ⟨⟨(N _ h1).1, (N _ h1).2.2⟩, List.forall_mem_cons.mpr ⟨⟨(N _ h2).1, (N _ h2).2.2⟩, List.forall_mem_nil _⟩⟩⟩
theorem intsR {ns : List Int} {ys : List Value} (h : F2 (fun k y => ∃ t, y = .int k t) ns ys) : IntsAre ys ns := F2.ints (T := fun _ => true) h
set_option maxHeartbeats 8000000 in
theorem c_deck (w : World) (s : Shared) (l : Addr) (vs : List Value) (ns : List Int) (hl : s.heap.IsList l vs.toArray) (hi : IntsAre vs ns) (hn : ns.length ≤ 63) :
    Callee w 426 [.ref l] 4 s (Ext s (NewDeck w s)) := by
  have tg_c_deck : True := trivial
  have nf : NoFor := ⟨trivial⟩
  have hl9 : vs.length ≤ 63 := by rw [hi.length]; exact hn
  walk_at "mine enter"
  walk_at "mine body"
  walk_at "mine steps"
  walk_at "mine comp"
  refine LCg.CompSrc.ledger (by rfl) (by k_asm) (by k_asm) (by k_mem) (by rw [len_size' (by assumption), sizeLine_eq]; simp only [List.length_take]; omega) ?_
  intro g'
  refine m_list (ns := List.take 40 ns) (fun k y => ∃ t, y = .int k t) (by assumption) ?_ ?_
  · intro k t I oI C oC Dd m₂ ys h tk2 E' hk hC hx F2 N2 off ne
    skip
    (try k_fold)
    walk_at "mine gen"
    walk_at "mine steps"
  · intro ys hys
    have hb := intsR hys
    clear hys nf
    k_with "pyIter ref" => ((fail_if_success (fail_if_success (clear tg_c_deck))); first | (k_state (fun pre mixed => 0 ≤ mixed ∧ mixed < 1000003) "mixed") | fail "no")
    (try k_fold)
    walk_at "mine steps"
    dsimp only
    rename Obj.IsDictOf _ _ _ => hd2
    refine Ext.intro (Fr.keep (by k_asm)) (deck_of (by k_asm) (by k_mem) (by k_mem) hd2 (by k_ne) (by assumption) (by assumption) (by assumption) (by simp only [List.length_reverse, List.length_take]; omega))

abbrev flagsL (f : FlgV) : List Value := [.bool f.tr, .bool f.ol, .bool f.hy, .bool f.jo, .bool f.cx]
def letC (f : FlgV) (en : Bool) (c : Int) : Bool := if ([223, 8204, 8205].any fun x => x == c) = true then en || !f.tr else (c != 66) && !(f.ol && (c == 95))
theorem item_flag {prog : Program} {w : World} {A : Around} {E : Value → Shared → Prop} {s : Shared} {l : Addr} {value slice : PySem.Expr} {xs : List Value} {k : Int} {u : Tok} {v : Value} {Q : Value → Shared → Prop}
    (hl : s.heap.IsList l xs.toArray) (h0 : 0 ≤ k) (hhi : k < 2 ^ 63) (hx : xs[k.toNat]? = some v) (h : Q v s)
    (hs : subscripted slice false (.ref l) (.int k u) = operate [.ref l, .int k u] (getItem (.ref l) (.int k u)) := by with_unfolding_all rfl) :
    wpAny (model prog w) A (subscriptTail value slice (.ref l) (.int k u)) Q E s :=
  tail_any hl.typeIs slot_list_getitem.lookup (wpAny_getItem_list hl h0 hhi (by simpa using hx) h) hs
theorem kw_45_1 : True := by
  k_with "subscriptTail Name Constant ref int" => first | (k_here; (with_reducible show wpAny _ _ (subscriptTail _ _ (Value.ref _) (Value.int _ _)) _ _ _); k_dflt (refine' item_flag (xs := flagsL _) (by exact isList_fr (by k_asm) (by assumption)) (by decide) (by decide) (by exact rfl) ?_); k_whole) | fail "no"
  trivial
set_option maxHeartbeats 4000000 in
theorem c_islet (w : World) (s : Shared) (c : Int) (t : Tok) (fl : Addr) (f : FlgV) (hf : s.heap.IsList fl (flagsL f).toArray) (en : Bool) : Callee w 457 [.int c t, .ref fl, .bool en] 2 s (Ext s fun v _ => v = .bool (letC f en c)) := by
  walk_at "mine enter"
  walk_at "mine body"
  walk_at "mine steps"
  all_goals try dsimp only
  all_goals exact Ext.intro (Fr.keep (by assumption)) (congrArg Value.bool (by unfold letC; simp_all))
theorem let_bad : ∀ c ∈ lawCodes, ∀ (tr ol en : Bool), letC ⟨tr, ol, true, true, true⟩ en c = !badC ⟨tr, ol, true, true, true⟩ en c := by decide +kernel
theorem islet_bad {c : Int} (hc : c ∈ lawCodes) (f : FlgV) (en : Bool) : letC f en c = !badC f en c := by
  have := let_bad c hc f.tr f.ol en
  exact this

theorem kw_46_1 : True := by
  k_with "call ref" => first | (k_here; (with_reducible show wpAny _ _ (call (Value.ref 211) _) _ _ _); refine frozen ?_) | fail "no"
  k_with "call ref" => first | (k_here; (with_reducible show wpAny _ _ (call (Value.ref 282) _) _ _ _); refine frozen ?_) | fail "no"
  k_with "call ref" => first | (k_here; (with_reducible show wpAny _ _ (call (Value.ref 289) _) _ _ _); refine frozen ?_) | fail "no"
  k_with "call builtin:list.extend" => first | (k_here; refine frozen ?_) | fail "no"
  trivial
structure NoIf : Prop where
  here : True
theorem kw_46_2 : True := by
  k_with "exec If" => first | (k_here; (have nf9 : NoIf := by assumption); refine frozen ?_) | fail "no"
  k_with "exec For Tuple Call" => first | (k_here; (have nf9 : NoFor := by assumption); refine frozen ?_) | fail "no"
  k_with "exec For Tuple Call cons nil" => first | (k_here; (have nf9 : NoFor := by assumption); refine frozen ?_) | fail "no"
  k_with "call type:enumerate" => first | (k_here; (have nf9 : NoFor := by assumption); refine frozen ?_) | fail "no"
  k_with "mine noif" => first | (repeat (rename NoIf => zz9; clear zz9)) | fail "no"
  trivial
theorem c_gcA (w : World) (s : Shared) (S : DSt) (da : Addr) (e : S.d = da) (D : LawD w s.heap S) {c : Int} (hc : c ∈ lawCodes) (tn t : Tok) : Callee w 392 [.ref da, .str (Str.ofString "gc") tn, .int c t] 3 s (Ext s fun v _ => ∃ t, v = .str (Str.ofString (gcOf c)) t) := e ▸ c_gc w s S D hc tn t
theorem c_codewordsA (w : World) (s : Shared) (S : DSt) (da : Addr) (e : S.d = da) (D : LawD w s.heap S) (l fa : Addr) (vs : List Value) (ns : List Int) (B : Lab s.heap l vs ns) (f : FlgV) (FA : FlgAt w s.heap fa f) (en : Bool) :
    Callee w 289 [.ref l, .ref da, .ref fa, .bool en] 7 s (Ext s fun v h' => ∃ xs, NewList s xs v h' ∧ StrsAre xs (if ns.any (badC f en) then [Str.ofString "disallowed"] else [])) := e ▸ c_codewords w s S D l fa vs ns B f FA en
theorem c_companyA (w : World) (s : Shared) (S : DSt) (da : Addr) (e : S.d = da) (D : LawD w s.heap S) (l : Addr) (vs : List Value) (ns : List Int) (B : Lab s.heap l vs ns) (a : Int) (t : Tok) (ha : 0 ≤ a) (hb : a < ns.length) :
    Callee w 275 [.ref l, .int a t, .ref da] 5 s (Ext s fun v _ => v = .bool (company ns a)) := e ▸ c_company w s S D l vs ns B a t ha hb
theorem c_mayjoinA (w : World) (s : Shared) (S : DSt) (da : Addr) (e : S.d = da) (D : LawD w s.heap S) (l : Addr) (vs : List Value) (ns : List Int) (B : Lab s.heap l vs ns) (a : Int) (t : Tok) (ha : 0 ≤ a) (hb : a < ns.length) :
    Callee w 265 [.ref l, .int a t, .ref da] 6 s (Ext s fun v _ => v = .bool (joined ns a)) := e ▸ c_mayjoin w s S D l vs ns B a t ha hb
abbrev wdA (f : FlgV) (ns : List Int) : List Str := if f.hy && hyphS ns then [Str.ofString "hyphens"] else []
abbrev wdB (f : FlgV) (ns : List Int) : List Str := wdA f ns ++ (if markS ns then [Str.ofString "mark"] else [])
abbrev wdC (f : FlgV) (en : Bool) (ns : List Int) : List Str := wdB f ns ++ (if ns.any (badC f en) then [Str.ofString "disallowed"] else [])
theorem if_len (b : Bool) (x : Str) : (if b = true then [x] else []).length ≤ 1 := by cases b <;> simp
theorem wdA_len (f : FlgV) (ns : List Int) : (wdA f ns).length ≤ 1 := if_len _ _
theorem wdB_len (f : FlgV) (ns : List Int) : (wdB f ns).length ≤ 2 := by have := wdA_len f ns; have := if_len (markS ns) (Str.ofString "mark"); rw [List.length_append]; omega
theorem wdC_len (f : FlgV) (en : Bool) (ns : List Int) : (wdC f en ns).length ≤ 3 := by have := wdB_len f ns; have := if_len (ns.any (badC f en)) (Str.ofString "disallowed"); rw [List.length_append]; omega
theorem ok_yes {xs : List Value} {ys : List Str} {b : Bool} {x : Str} {t : Tok} (h : StrsOk xs ys) (e : b = true) (hx : PyData.strOk x = true := by decide +kernel) : StrsOk (xs ++ [.str x t]) (ys ++ if b = true then [x] else []) := by
  rw [if_pos e]; exact h.app (.one hx)
theorem ok_no {xs : List Value} {ys : List Str} {b : Bool} {x : Str} (h : StrsOk xs ys) (e : b = false) : StrsOk xs (ys ++ if b = true then [x] else []) := by
  rw [e]; simpa using h
theorem mark_is {ns : List Int} {b : Bool} (h : (Str.ofString "Mn" == Str.ofString (gcOf (ns.getD 0 0)) || (Str.ofString "Mc" == Str.ofString (gcOf (ns.getD 0 0)) || Str.ofString "Me" == Str.ofString (gcOf (ns.getD 0 0)))) = b) : markS ns = b := by
  rw [← h]; simp [markS]
abbrev canonA (A C : Option Value) (m : Str → Option Value) : Str → Option Value := fun y => if y = Str.ofString "code" then C else if y = Str.ofString "at" then A else m y
theorem canonA_self {m : Str → Option Value} : m = canonA (m (Str.ofString "at")) (m (Str.ofString "code")) m := by
  funext y
  unfold canonA
  by_cases h1 : y = Str.ofString "code"
  · rw [if_pos h1, h1]
  by_cases h2 : y = Str.ofString "at"
  · rw [if_neg h1, if_pos h2, h2]
  · rw [if_neg h1, if_neg h2]
theorem canonA_twice {A C A' C' : Option Value} {m : Str → Option Value} : canonA A' C' (canonA A C m) = canonA A' C' m := by
  funext y
  unfold canonA
  by_cases h1 : y = Str.ofString "code"
  · rw [if_pos h1, if_pos h1]
  by_cases h2 : y = Str.ofString "at"
  · rw [if_neg h1, if_pos h2, if_neg h1, if_pos h2]
  · simp only [if_neg h1, if_neg h2]
/-- between the turns of the loop over a label's places -/
inductive LwJ (W : Addr) (rest : List (Addr × Obj)) (f : FlgV) (ns : List Int) (pre : List Str) (m₀ : Str → Option Value) (i : Nat) (m : Str → Option Value) (nx : List (Addr × Obj)) : Prop
  | mk : ∀ xs k a c, nx = (W, lstO xs k) :: rest → StrsOk xs (pre ++ wordsTo f ns i) → m = canonA a c m₀ → LwJ W rest f ns pre m₀ i m nx
abbrev joC (f : FlgV) (ns : List Int) (c : Int) (i : Nat) : Bool := f.jo && ([8205, 8204].any fun x => x == c) && !joined ns i
abbrev cxC (f : FlgV) (ns : List Int) (i : Nat) : Bool := f.cx && !company ns i
theorem wordsAt_eq {f : FlgV} {ns : List Int} {i : Nat} {c : Int} (h : ns[i]? = some c) : wordsAt f ns i = (if joC f ns c i = true then [Str.ofString "joiner"] else []) ++ (if cxC f ns i = true then [Str.ofString "context"] else []) := by
  have : ns.getD i 0 = c := by rw [List.getD_eq_getElem?_getD, h]; rfl
  unfold wordsAt joC cxC
  rw [this]
section
variable {f : FlgV} {ns : List Int} {c : Int} {i : Nat}
theorem jo1 (h : f.jo = false) : joC f ns c i = false := by unfold joC; rw [h]; rfl
theorem jo2 (h : ([8205, 8204].any fun x => x == c) = false) : joC f ns c i = false := by unfold joC; rw [h]; simp
theorem jo3 (h : joined ns i = true) : joC f ns c i = false := by unfold joC; rw [h]; simp
theorem jo4 (h : f.jo = true) (h2 : ([8205, 8204].any fun x => x == c) = true) (h3 : joined ns i = false) : joC f ns c i = true := by unfold joC; rw [h, h2, h3]; rfl
theorem cx1 (h : f.cx = false) : cxC f ns i = false := by unfold cxC; rw [h]; rfl
theorem cx2 (h : company ns i = true) : cxC f ns i = false := by unfold cxC; rw [h]; simp
theorem cx3 (h : f.cx = true) (h2 : company ns i = false) : cxC f ns i = true := by unfold cxC; rw [h, h2]; rfl
end
theorem wordsTo_next {f : FlgV} {ns : List Int} {i : Nat} {c : Int} {pre : List Str} (h : ns[i]? = some c) : pre ++ wordsTo f ns i ++ (if joC f ns c i = true then [Str.ofString "joiner"] else []) ++ (if cxC f ns i = true then [Str.ofString "context"] else []) = pre ++ wordsTo f ns (i + 1) := by
  rw [wordsTo_succ, wordsAt_eq h]
  simp only [List.append_assoc]
theorem wordsTo_len (f : FlgV) (ns : List Int) : ∀ n : Nat, (wordsTo f ns n).length ≤ 2 * n
  | 0 => Nat.le_refl _
  | n + 1 => by
    have h := wordsTo_len f ns n
    have h1 := if_len (f.jo && ([8205, 8204].any (· == ns.getD n 0)) && !joined ns n) (Str.ofString "joiner")
    have h2 := if_len (f.cx && !company ns n) (Str.ofString "context")
    rw [wordsTo_succ, List.length_append]
    unfold wordsAt
    rw [List.length_append]
    omega
theorem kw_46_3 : True := by
  k_with "mine sub4" => first | (first | exact fun p hp => hp | exact fun p hp => .tail _ hp | exact fun p hp => .tail _ (.tail _ hp)) | fail "no"
  trivial
theorem in_ints_no {prog : Program} {w : World} {A : Around} {E : Value → Shared → Prop} {s : Shared} {l : Addr} {vs : List Value} {ns : List Int} {k : Int} {t : Tok} {Q : Value → Shared → Prop} (hl : s.heap.IsList l vs.toArray) (hi : IntsAre vs ns) (hk : k ∉ ns)
    (h : Q (.bool false) s) : wpAny (model prog w) A (compareOp .In (.int k t) (.ref l)) Q E s :=
  in_list_ints hl hi (by
    have : ns.any (· == k) = false := by
      cases z : ns.any (· == k) with
      | false => rfl
      | true => obtain ⟨c, hc, e⟩ := List.any_eq_true.mp z; exact absurd (eq_of_beq e ▸ hc) hk
    rw [this]; exact h)
theorem ne_nil_yes {prog : Program} {w : World} {A : Around} {E : Value → Shared → Prop} {s : Shared} {a b : Addr} {xs : List Value} {ns : List Int} {Q : Value → Shared → Prop} (ha : s.heap.IsList a xs.toArray) (hb : s.heap.IsList b ([] : List Value).toArray) (hi : IntsAre xs ns) (hu : A.units + 64 < cLine) (hn : ns ≠ []) (h : Q (.bool true) s) :
    wpAny (model prog w) A (compareOp .NotEq (.ref a) (.ref b)) Q E s := ke_ne_ints ha hb hi .nil hu (by rw [decide_eq_false hn]; exact h)
/-- what an if may leave that adds to a list -/
inductive IfPost (h₀ : Heap) (L : Addr) (m : Str → Option Value) (pre post : List (Addr × Obj)) (W : Addr) (ys : List Str) (s : Shared) (fl : Flow) (s' : Shared) : Prop
  | mk : fl = .next → ∀ h' tk xs' k' nn, s' = { s with heap := h', toks := tk } → Fr h₀ L h' m → News h₀ L h' nn → (∀ p ∈ pre ++ (W, lstO xs' k') :: post, p ∈ nn) → StrsOk xs' ys → IfPost h₀ L m pre post W ys s fl s'
theorem ifpost {h₀ : Heap} {L : Addr} {m : Str → Option Value} {pre post : List (Addr × Obj)} {W : Addr} {ys : List Str} {s : Shared} {h' : Heap} {tk : Nat} {xs' : List Value} {k' : Nat} {nn : List (Addr × Obj)} (F : Fr h₀ L h' m) (N : News h₀ L h' nn) (hs : ∀ p ∈ pre ++ (W, lstO xs' k') :: post, p ∈ nn) (ok : StrsOk xs' ys) : IfPost h₀ L m pre post W ys s .next { s with heap := h', toks := tk } := ⟨rfl, h', tk, xs', k', nn, rfl, F, N, hs, ok⟩
theorem merge_if {M : Model} {A : Around} {t : Sem Flow} {s : Shared} {h₀ : Heap} {L W : Addr} {m : Str → Option Value} {pre post : List (Addr × Obj)} {xs : List Value} {k0 : Nat} {Q : Flow → Shared → Prop} {E : Value → Shared → Prop} (ys : List Str) (F : Fr h₀ L s.heap m) (N : News h₀ L s.heap (pre ++ (W, lstO xs k0) :: post))
    (h : wpAny M A t (IfPost h₀ L m pre post W ys s) E s) (k : ∀ h' tk xs' k', Fr h₀ L h' m → News h₀ L h' (pre ++ (W, lstO xs' k') :: post) → StrsOk xs' ys → Q .next { s with heap := h', toks := tk }) : wpAny M A t Q E s :=
  wpAny_mono h (by rintro _ _ ⟨rfl, h', tk, xs', k', nn, rfl, F', N', hs, ok⟩; exact k h' tk xs' k' F' (news_less N' hs) ok) fun _ _ x => x
theorem no46 {ns : List Int} (h : ∀ c ∈ ns, c ∈ lawCodes) : 46 ∉ ns := fun e => absurd (h 46 e) (by decide)
theorem wd_ok1 {b : Bool} {x : Str} (h : PyData.strOk x = true) : (if b then [x] else []).all PyData.strOk = true := by
  cases b
  · rfl
  · simpa using h
theorem wd_len {b : Bool} {x : Str} {xs : List Value} (h : StrsAre xs (if b then [x] else [])) : xs.length ≤ 1 := by
  rw [h.length]
  cases b <;> simp
theorem StrsOk.len {xs : List Value} {ys : List Str} (h : StrsOk xs ys) : xs.length = ys.length := h.are.length
set_option maxHeartbeats 16000000 in
theorem c_labelwords (w : World) (s : Shared) (hD : Heap) (S : DSt) (da : Addr) (e0 : S.d = da) (D : DataSt w hD S) (hS : hD.StaysIn s.heap) (l fa fx : Addr) (vs : List Value) (ns : List Int) (B : Lab s.heap l vs ns) (tl : List (Addr × Obj)) (TL : TabL tl) (ht : ∀ p ∈ tl, hD.get? p.1 = none) (hl : ∀ p ∈ led hD ++ tl, p.1 ≠ l)
    (f : FlgV) (t1 t2 t3 t4 t5 t6 t7 : Tok) (hf : s.heap.get? fa = some (instObj 233 fx)) (hfx : s.heap.get? fx = some (dictOf (flgEs w f t1 t2 t3 t4 t5 t6 t7) 7)) (hl1 : ∀ p ∈ led hD ++ tl, p.1 ≠ fa) (hl2 : ∀ p ∈ led hD ++ tl, p.1 ≠ fx) (en : Bool) :
    CalleeN w 296 [.ref l, .ref da, .ref fa, .bool en] 22 s (led hD ++ tl) (FormPost w s hD tl da fun v h' => ∃ xs, NewList s xs v h' ∧ StrsOk xs (words f en ns)) := by
  have tg_c_labelwords : True := trivial
  subst e0
  have nf : NoFor := ⟨trivial⟩
  walk_at "mine enterN"
  intro p loose mean mg mb dp un gd outer A₀ base g L' h₁ tk BB F N G Z l1 X T hdp hun
  refine wpAny_gen ?_
  intro Q_k hQ_k
  have hlg := ground_list B.list G hl
  have BG : Lab g l vs ns := ⟨hlg, B.nums, B.len, B.pos, B.codes⟩
  have ninn : ∀ {q : Addr}, (∀ p ∈ led hD ++ tl, p.1 ≠ q) → q ∉ (led hD ++ tl).map (·.1) := fun h z => by
    obtain ⟨p, hp, e⟩ := List.mem_map.mp z
    exact h p hp e
  have gf := G _ _ hf (ninn hl1)
  have gfx := G _ _ hfx (ninn hl2)
  clear hf hfx
  have hi := B.nums
  have hn := B.len
  have hcs := B.codes
  (try k_lt l1)
  (try dsimp only)
  (try k_fold)
  walk_at "mine steps"
  refine Frozen.mk ?_
  rename News _ _ _ (_ :: (led hD ++ tl)) => NN
  rename (∀ p ∈ led hD ++ tl, @LT.lt Nat _ p.1 _) => lt0
  have st0 := stays_any G Z (Fr.keep (by k_asm)) (fun p hp => (NN p (.tail _ hp)).1)
  have offW0 : ∀ p ∈ led hD ++ tl, p.1 ≠ _ := fun p hp => Nat.ne_of_lt (lt0 p hp)
  refine CalleeN.fuse (own := [(_, lstO [] 0)]) rfl (c_isform w _ hD S D (led_stays NN (fun p hp => .tail _ (List.mem_append_left _ hp))) l vs ns (BG.keeps (Fr.keep (by k_asm))) _ tl TL ht hl) (by k_asm) (by k_asm) NN (by k_asm) (by k_asm) (by first | exact rfl | assumption) (by walk_at "mine room") (by walk_at "mine room") (List.forall_mem_cons.mpr ⟨fun p hp => Nat.ne_of_lt (lt0 p hp), List.forall_mem_nil _⟩) ?_
  rintro v' h' tk' hD1 tl1 S1 r F1 N1 off1 ft1 dm1 TL1 dom1 ot1 e1 DM rfl
  dsimp only [List.cons_append, List.nil_append] at N1
  have offW := off1 _ (.head _)
  dsimp only at offW
  clear off1
  clear NN lt0
  (try k_fold)
  walk_at "mine steps"
  refine Frozen.mk ?_
  rename News _ _ _ (_ :: (led hD1 ++ tl1)) => NN
  refine Callee.strs rfl (c_hyph w _ l vs ns (BG.keeps (Fr.keep (by k_asm))) _) (by k_asm) (by k_asm) NN (by k_asm) (by k_asm) (by first | exact rfl | assumption) (by walk_at "mine room") (by walk_at "mine room") ?_
  intro h2 tk2 D2 xs2 c2 F2 N2 hs2 nD2
  clear NN
  (try k_fold)
  walk_at "mine steps"
  refine Frozen.mk ?_
  refine extend_pp (pre := [_]) (by k_asm) N2 (.head _) (List.forall_mem_cons.mpr ⟨fun e => nD2 _ (.head _) e.symm, List.forall_mem_nil _⟩) offW ?_ (by have := wd_len hs2; simp only [List.length_nil]; omega)
  intro h3 k3 F3 N3
  have ok3 : StrsOk ([] ++ xs2) _ := StrsOk.app .nil ⟨hs2, wd_ok1 (by decide +kernel)⟩
  have M3 : News g L' h3 ((_, lstO xs2 k3) :: (led hD1 ++ tl1)) := news_less N3 (fun p hp => .tail _ hp)
  dsimp only [List.nil_append] at ok3
  clear N2 N3 F2 nD2 hs2
  (try k_fold)
  have ni : NoIf := ⟨trivial⟩
  have n46 := no46 hcs
  have n0 : ns ≠ [] := fun e => by have z := B.pos; rw [e] at z; exact absurd z (by decide)
  k_with "compareOp In int ref" => ((fail_if_success (fail_if_success (clear tg_c_labelwords))); first | (k_dflt (refine' in_ints_no (by exact isList_fr (by k_asm) hlg) (by exact hi) n46 ?_)) | fail "no")
  walk_at "mine steps"
  refine Frozen.mk ?_
  refine merge_if (pre := []) (wdA f ns) (by k_asm) M3 ?_ ?_
  · walk_at "mine noif"
    walk_at "mine steps"
    exact (ifpost (by k_asm) (by k_asm) (fun p hp => hp) (ok3))
  intro h4 tk4 xs4 k4 F4 N4 ok4
  dsimp only [List.nil_append] at N4
  clear M3 F3 ok3
  (try k_fold)
  walk_at "mine steps"
  refine Frozen.mk ?_
  refine merge_if (pre := []) (wdB f ns) (by k_asm) (by k_asm) ?_ ?_
  · walk_at "mine noif"
    have hpos := B.pos
    have hsz : (vs.length : Int) = ns.length := by rw [hi.length]
    have hc0 : ns.getD 0 0 ∈ lawCodes := lab_at B (a := 0) (by decide) (by have := B.pos; omega)
    k_with "call ref" => ((fail_if_success (fail_if_success (clear tg_c_labelwords))); first | (k_dflt (refine Callee.ext (c_gcA w _ S1 _ e1 (DM.ok.keeps (led_stays (by k_asm) (by walk_at "mine sub"))) hc0 _ _) (by k_asm) (by k_asm) (by k_asm) (by k_asm) (by k_asm) (by first | exact rfl | assumption) (by walk_at "mine room") (by walk_at "mine room") ?_; rintro v' h' tk' F' N' - ⟨t', rfl⟩)) | fail "no")
    k_with "getMethod ref" => ((fail_if_success (fail_if_success (clear tg_c_labelwords))); first | (k_dflt (refine data_meth DM.ok (led_stays (by k_asm) (by walk_at "mine sub")) (by k_asm) (by k_asm) e1 ?_)) | fail "no")
    k_with "compareOp NotEq ref ref" => ((fail_if_success (fail_if_success (clear tg_c_labelwords))); first | (k_dflt (refine' ne_nil_yes (by exact isList_fr (by k_asm) hlg) (by exact News.isList (by k_asm) (by k_mem)) (by exact hi) (by first | ke_room | (dsimp only [ktrTop, Around.in1, cLine]; omega)) n0 ?_)) | fail "no")
    walk_at "mine steps"
    · refine append_pp (pre := [_]) (by k_asm) (by k_asm) (List.forall_mem_cons.mpr ⟨by (show @Ne Nat _ _; k_ne), List.forall_mem_nil _⟩) offW ?_ (by rw [ok4.len, sizeLine_eq]; have := wdA_len f ns; omega)
      intro h6 F6 N6
      walk_at "mine steps"
      exact (ifpost (by k_asm) (by k_asm) (fun p hp => .tail _ hp) (ok_yes ok4 (mark_is (by assumption))))
    · exact (ifpost (by k_asm) (by k_asm) (fun p hp => .tail _ hp) (ok_no ok4 (mark_is (by assumption))))
  intro h5 tk5 xs5 k5 F5 N5 ok5
  dsimp only [List.nil_append] at N5
  clear N4 F4 ok4
  (try k_fold)
  walk_at "mine steps"
  refine Frozen.mk ?_
  refine Callee.strs rfl (c_codewordsA w _ S1 _ e1 (DM.ok.keeps (led_stays N5 (fun p hp => .tail _ (List.mem_append_left _ hp)))) l fa vs ns (BG.keeps (Fr.keep (by k_asm))) f ⟨fx, t1, t2, t3, t4, t5, t6, t7, Fr.keep (by k_asm) _ _ gf, Fr.keep (by k_asm) _ _ gfx⟩ en) (by k_asm) (by k_asm) N5 (by k_asm) (by k_asm) (by first | exact rfl | assumption) (by walk_at "mine room") (by walk_at "mine room") ?_
  intro h6 tk6 D6 xs6 c6 F6 N6 hs6 nD6
  clear F5 N5
  (try k_fold)
  walk_at "mine steps"
  refine Frozen.mk ?_
  refine extend_pp (pre := [_]) (by k_asm) N6 (.head _) (List.forall_mem_cons.mpr ⟨fun e => nD6 _ (.head _) e.symm, List.forall_mem_nil _⟩) offW ?_ (by have := wd_len hs6; rw [ok5.len]; have := wdB_len f ns; omega)
  intro h7 k7 F7 N7
  have ok7 : StrsOk (xs5 ++ xs6) (wdC f en ns) := StrsOk.app ok5 ⟨hs6, wd_ok1 (by decide +kernel)⟩
  have M7 : News g L' h7 ((_, lstO (xs5 ++ xs6) k7) :: (led hD1 ++ tl1)) := news_less N7 (fun p hp => .tail _ hp)
  clear N6 N7 F6 nD6 hs6 ok5
  walk_at "mine noif"
  (try k_fold)
  walk_at "mine steps"
  refine Frozen.mk ?_
  with_unfolding_all refine For_turns (by k_asm) ?_
  walk_at "mine steps"
  refine Frozen.mk ?_
  refine lp_enum (LwJ _ (led hD1 ++ tl1) f ns (wdC f en ns) _) rfl hlg (by k_asm) M7 ⟨_, _, _, _, rfl, by simpa [wordsTo] using ok7, canonA_self⟩ ?_ ?_
  · intro i x t Tu m nx h8 tk8 I1 o1 I2 o2 hx hTu J9 hI1 hI2 F8 N8
    walk_at "mine gen"
    obtain ⟨xs8, k8, a8, c8, rfl, ok8, rfl⟩ := J9
    obtain ⟨c, tc, rfl, hc0⟩ := ints_get hi hx
    have hiL : i < ns.length := (List.getElem?_eq_some_iff.mp hc0).1
    have hl8 : xs8.length ≤ 100 := by
      rw [ok8.len, List.length_append]
      have := wdC_len f en ns
      have := wordsTo_len f ns i
      omega
    have oW1 : ∀ p ∈ [(I1, o1), (I2, o2)], p.1 ≠ _ := List.forall_mem_cons.mpr ⟨fun e => hI1 _ (.head _) e.symm, List.forall_mem_cons.mpr ⟨fun e => hI2 _ (.head _) e.symm, List.forall_mem_nil _⟩⟩
    (try k_fold)
    have ni : NoIf := ⟨trivial⟩
    walk_at "mine steps"
    refine Frozen.mk ?_
    refine merge_if (pre := [_, _]) (wdC f en ns ++ wordsTo f ns i ++ (if joC f ns c i = true then [Str.ofString "joiner"] else [])) (by k_asm) (by k_asm) ?_ ?_
    · walk_at "mine noif"
      k_with "call ref" => ((fail_if_success (fail_if_success (clear tg_c_labelwords))); first | (k_dflt (refine Callee.ext (c_mayjoinA w _ S1 _ e1 (DM.ok.keeps (led_stays (by k_asm) (by walk_at "mine sub"))) l vs ns (BG.keeps (Fr.keep (by k_asm))) (i : Int) _ (by omega) (by omega)) (by k_asm) (by k_asm) (by k_asm) (by k_asm) (by k_asm) (by first | exact rfl | assumption) (by walk_at "mine room") (by walk_at "mine room") ?_; rintro v' h' tk' F' N' - rfl)) | fail "no")
      walk_at "mine steps"
      all_goals first
        | exact (ifpost (by k_asm) (by k_asm) (by walk_at "mine sub4") (ok_no ok8 (by first | exact jo1 (by assumption) | exact jo2 (by assumption) | exact jo3 (by assumption))))
        | (refine append_pp (pre := [_, _, _]) (by k_asm) (by k_asm) (List.forall_mem_cons.mpr ⟨by (show @Ne Nat _ _; k_ne), oW1⟩) offW ?_ (by rw [sizeLine_eq]; omega); intro h9 F9 N9; walk_at "mine steps"; exact (ifpost (by k_asm) (by k_asm) (fun p hp => .tail _ hp) (ok_yes ok8 (jo4 (by assumption) (by assumption) (by assumption)))))
    intro h9 tk9 xs9 k9 F9 N9 ok9
    dsimp only [List.nil_append, List.cons_append] at N9
    have hl9 : xs9.length ≤ 101 := by
      rw [ok9.len, List.length_append, ← ok8.len]
      have := if_len (joC f ns c i) (Str.ofString "joiner")
      omega
    (try clear F8); (try clear N8)
    (try k_fold)
    walk_at "mine steps"
    refine Frozen.mk ?_
    refine merge_if (pre := [_, _]) (wdC f en ns ++ wordsTo f ns i ++ (if joC f ns c i = true then [Str.ofString "joiner"] else []) ++ (if cxC f ns i = true then [Str.ofString "context"] else [])) (by k_asm) (by k_asm) ?_ ?_
    · walk_at "mine noif"
      k_with "call ref" => ((fail_if_success (fail_if_success (clear tg_c_labelwords))); first | (k_dflt (refine Callee.ext (c_companyA w _ S1 _ e1 (DM.ok.keeps (led_stays (by k_asm) (by walk_at "mine sub"))) l vs ns (BG.keeps (Fr.keep (by k_asm))) (i : Int) _ (by omega) (by omega)) (by k_asm) (by k_asm) (by k_asm) (by k_asm) (by k_asm) (by first | exact rfl | assumption) (by walk_at "mine room") (by walk_at "mine room") ?_; rintro v' h' tk' F' N' - rfl)) | fail "no")
      walk_at "mine steps"
      all_goals first
        | exact (ifpost (by k_asm) (by k_asm) (by walk_at "mine sub4") (ok_no ok9 (by first | exact cx1 (by assumption) | exact cx2 (by assumption))))
        | (refine append_pp (pre := [_, _]) (by k_asm) (by k_asm) oW1 offW ?_ (by rw [sizeLine_eq]; omega); intro h9 F9 N9; walk_at "mine steps"; exact (ifpost (by k_asm) (by k_asm) (fun p hp => hp) (ok_yes ok9 (cx3 (by assumption) (by assumption)))))
    intro h10 tk10 xs10 k10 F10 N10 ok10
    dsimp only [List.nil_append, List.cons_append] at N10
    (try clear F9); (try clear N9); clear ok9
    (try k_fold)
    walk_at "mine steps"
    rw [wordsTo_next hc0] at ok10
    refine ⟨rfl, _, _, _, _ :: (led hD1 ++ tl1), rfl, by k_asm, N10, fun p hp e => ?_, _, _, _, _, rfl, ok10, canonA_twice⟩
    have h1 : p.1 ≠ I1 := (List.mem_cons.mp hp).elim (fun z => by rw [z]; exact hI1 (_, lstO xs8 k8) (.head _)) fun z => hI1 p (.tail _ z)
    have h2 : p.1 ≠ I2 := (List.mem_cons.mp hp).elim (fun z => by rw [z]; exact hI2 (_, lstO xs8 k8) (.head _)) fun z => hI2 p (.tail _ z)
    simp only [List.mem_cons, List.not_mem_nil, or_false] at e
    exact e.elim h1 h2
  · rintro m nx h8 tk8 ⟨xs8, k8, a8, c8, rfl, ok8, rfl⟩ F8 N8
    walk_at "mine steps"
    rw [hi.length] at ok8
    exact form_post G (by k_asm) (news_less N8 (fun p hp => .tail _ hp)) (ft1.of st0) dm1 TL1 dom1 ot1 e1 DM ⟨_, newlist_of G Z N8 (.head _) offW0, ok8⟩

section
variable {f : FlgV} {ns : List Int} {c : Int} {i : Nat}
theorem getD_one {k : Nat} (hk : k < ns.length) : List.take 1 (List.drop k ns) = [ns.getD k 0] := by
  rw [List.drop_eq_getElem_cons hk, List.getD_eq_getElem?_getD, List.getElem?_eq_getElem hk]; rfl
theorem hyp_0 (hp : 0 < ns.length) : ns.take 1 = [45] ↔ ns.getD 0 0 = 45 := by
  have := getD_one (k := 0) hp
  rw [List.drop_zero] at this
  rw [this]; simp
theorem hyp_1 (hp : 0 < ns.length) : ns.drop (ns.length - 1) = [45] ↔ ns.getD (-1 + (ns.length : Int)).toNat 0 = 45 := by
  have h1 : (-1 + (ns.length : Int)).toNat = ns.length - 1 := by omega
  have := getD_one (ns := ns) (k := ns.length - 1) (by omega)
  rw [List.take_of_length_le (by rw [List.length_drop]; omega)] at this
  rw [this, h1]; simp
theorem hy_of (h : f.hy = true) (k : Hyp ns) : (f.hy && hyphS ns) = true := by rw [h, hyph_iff.mpr k]; rfl
theorem hy_a (hp : 0 < ns.length) (h : f.hy = true) (k : ns.getD (Int.toNat 0) 0 = 45) : (f.hy && hyphS ns) = true := hy_of h (.inl ((hyp_0 hp).mpr k))
theorem hy_b (hp : 0 < ns.length) (h : f.hy = true) (k : ns.getD (-1 + (ns.length : Int)).toNat 0 = 45) : (f.hy && hyphS ns) = true := hy_of h (.inr (.inl ((hyp_1 hp).mpr k)))
theorem hy_c (h : f.hy = true) (k : List.take 2 (List.drop 2 ns) = [45, 45]) : (f.hy && hyphS ns) = true := hy_of h (.inr (.inr k))
theorem hy_d (hp : 0 < ns.length) (k1 : ns.getD (Int.toNat 0) 0 ≠ 45) (k2 : ns.getD (-1 + (ns.length : Int)).toNat 0 ≠ 45) (k3 : ¬ List.take 2 (List.drop 2 ns) = [45, 45]) : (f.hy && hyphS ns) = false := by
  cases z : hyphS ns with
  | false => rw [Bool.and_false]
  | true => rcases hyph_iff.mp z with e | e | e
            · exact absurd ((hyp_0 hp).mp e) k1
            · exact absurd ((hyp_1 hp).mp e) k2
            · exact absurd e k3
theorem hy_e (h : f.hy = false) : (f.hy && hyphS ns) = false := by rw [h]; rfl
theorem mark_any : markS ns = ([2381, 1611].any fun x => x == ns.getD 0 0) := by
  unfold markS gcOf
  generalize ns.getD 0 0 = a
  by_cases h1 : a = 2381
  · subst h1; decide +kernel
  by_cases h2 : a = 1611
  · subst h2; decide +kernel
  rw [if_neg (by simp [h1, h2])]
  have e1 : (2381 == a) = false := by simpa using Ne.symm h1
  have e2 : (1611 == a) = false := by simpa using Ne.symm h2
  simp only [List.any_cons, List.any_nil, e1, e2]
  decide +kernel
theorem mark_at {b : Bool} (h : ([2381, 1611].any fun x => x == ns.getD (Int.toNat 0) 0) = b) : markS ns = b := mark_any.trans h
theorem any_swap (c : Int) : ([8205, 8204].any fun x => x == c) = ([8204, 8205].any fun x => x == c) := by simp [Bool.or_comm]
theorem jo2' (h : ([8204, 8205].any fun x => x == c) = false) : joC f ns c i = false := jo2 ((any_swap c).trans h)
theorem jo4' (h : f.jo = true) (h2 : ([8204, 8205].any fun x => x == c) = true) (h3 : joined ns i = false) : joC f ns c i = true := jo4 h ((any_swap c).trans h2) h3
end
theorem any_bad {ns : List Int} {f : FlgV} {en : Bool} (hc : ∀ c ∈ ns, c ∈ lawCodes) : (ns.any fun c => !letC f en c) = ns.any (badC f en) := by
  induction ns with
  | nil => rfl
  | cons a r ih =>
    rw [List.any_cons, List.any_cons, ih fun c h => hc c (.tail _ h), islet_bad (hc a (.head _)), Bool.not_not]
theorem dis_no {ns : List Int} {f : FlgV} {en : Bool} (hc : ∀ c ∈ ns, c ∈ lawCodes) (h : decide (List.filter (fun c => !letC f en c) ns = []) = true) : ns.any (badC f en) = false := by
  rw [fil_any, any_bad hc] at h; simpa using h
theorem dis_yes {ns : List Int} {f : FlgV} {en : Bool} (hc : ∀ c ∈ ns, c ∈ lawCodes) (h : decide (List.filter (fun c => !letC f en c) ns = []) = false) : ns.any (badC f en) = true := by
  rw [fil_any, any_bad hc] at h; simpa using h
set_option maxHeartbeats 16000000 in
theorem c_lawwords (w : World) (s : Shared) (l fl : Addr) (vs : List Value) (ns : List Int) (B : Lab s.heap l vs ns) (f : FlgV) (hf : s.heap.IsList fl (flagsL f).toArray) (en : Bool) :
    Callee w 462 [.ref l, .ref fl, .bool en] 9 s (Ext s fun v h' => ∃ xs, NewList s xs v h' ∧ StrsOk xs (words f en ns)) := by
  have tg_c_lawwords : True := trivial
  have nf : NoFor := ⟨trivial⟩
  have hl := B.list
  have hi := B.nums
  have hn := B.len
  have hpos := B.pos
  have hcs := B.codes
  have hsz : (vs.length : Int) = ns.length := by rw [hi.length]
  walk_at "mine enterC"
  walk_at "mine bodyC"
  have ni : NoIf := ⟨trivial⟩
  walk_at "mine steps"
  refine Frozen.mk ?_
  refine merge_if (pre := []) (wdA f ns) (by k_asm) (by k_asm) ?_ ?_
  · walk_at "mine noif"
    walk_at "mine steps"
    all_goals first
      | exact (ifpost (by k_asm) (by k_asm) (by walk_at "mine sub4") (ok_yes (ys := []) .nil (by first | exact hy_a hpos (by assumption) (by assumption) | exact hy_b hpos (by assumption) (by assumption) | exact hy_c (by assumption) (by assumption))))
      | exact (ifpost (xs' := []) (by k_asm) (by k_asm) (by walk_at "mine sub4") (ok_no (ys := []) .nil (by first | exact hy_d hpos (by assumption) (by assumption) (by assumption) | exact hy_e (by assumption))))
  intro h1 tk1 xs1 k1 F1 N1 ok1
  dsimp only [List.nil_append] at N1
  (try k_fold)
  walk_at "mine steps"
  refine Frozen.mk ?_
  refine merge_if (pre := []) (wdB f ns) (by k_asm) (by k_asm) ?_ ?_
  · walk_at "mine noif"
    walk_at "mine steps"
    · refine append_pp (pre := [_]) (by k_asm) (by k_asm) (List.forall_mem_cons.mpr ⟨by (show @Ne Nat _ _; k_ne), List.forall_mem_nil _⟩) (List.forall_mem_cons.mpr ⟨by (show @Ne Nat _ _; k_ne), List.forall_mem_cons.mpr ⟨by (show @Ne Nat _ _; k_ne), List.forall_mem_nil _⟩⟩) ?_ (by rw [ok1.len, sizeLine_eq]; have := wdA_len f ns; omega)
      intro h6 F6 N6
      walk_at "mine steps"
      exact (ifpost (by k_asm) (by k_asm) (by walk_at "mine sub4") (ok_yes ok1 (mark_at (by assumption))))
    · exact (ifpost (by k_asm) (by k_asm) (by walk_at "mine sub4") (ok_no ok1 (mark_at (by assumption))))
  intro h2 tk2 xs2 k2 F2 N2 ok2
  dsimp only [List.nil_append] at N2
  (try clear F1); (try clear N1); clear ok1
  (try k_fold)
  walk_at "mine steps"
  refine Frozen.mk ?_
  refine merge_if (pre := []) (wdC f en ns) (by k_asm) (by k_asm) ?_ ?_
  · walk_at "mine noif"
    walk_at "mine steps"
    walk_at "mine compT"
    refine LCt.CompSrcT.base (by rfl) (by k_asm) (by k_asm) hl (size_ok hi hn) ?_
    intro g'
    refine m_listT (fun c => !letC f en c) (fun k y => ∃ t, y = .int k t) hi ?_ ?_
    · intro k t I oI C oC Dd m₂ ys h tk2 E' hk hC hx F2 N2 off ne
      (try k_fold)
      walk_at "mine gen"
      k_with "call ref" => ((fail_if_success (fail_if_success (clear tg_c_lawwords))); first | (k_dflt (refine Callee.ext (c_islet w _ k _ fl f (isList_fr (by k_asm) hf) en) (by k_asm) (by k_asm) (by k_asm) (by k_asm) (by k_asm) (by first | exact rfl | assumption) (by walk_at "mine room") (by walk_at "mine room") ?_; rintro v' h' tk' F' N' - rfl)) | fail "no")
      walk_at "mine steps"
      rw [(by assumption : letC f en k = true)]
      rfl
    · intro ys hys
      have hb := intsR hys
      (try k_fold)
      walk_at "mine steps"
      · exact (ifpost (by k_asm) (by k_asm) (by walk_at "mine sub4") (ok_no ok2 (dis_no hcs (by assumption))))
      · refine append_pp (pre := [_, _]) (by k_asm) (by k_asm) (List.forall_mem_cons.mpr ⟨by (show @Ne Nat _ _; k_ne), List.forall_mem_cons.mpr ⟨by (show @Ne Nat _ _; k_ne), List.forall_mem_nil _⟩⟩) (List.forall_mem_cons.mpr ⟨by (show @Ne Nat _ _; k_ne), List.forall_mem_cons.mpr ⟨by (show @Ne Nat _ _; k_ne), List.forall_mem_nil _⟩⟩) ?_ (by rw [ok2.len, sizeLine_eq]; have := wdB_len f ns; omega)
        intro h6 F6 N6
        walk_at "mine steps"
        exact (ifpost (by k_asm) (by k_asm) (by walk_at "mine sub4") (ok_yes ok2 (dis_yes hcs (by assumption))))
  intro h7 tk7 xs7 k7 F7 N7 ok7
  dsimp only [List.nil_append] at N7
  (try clear F2); (try clear N2); clear ok2
  walk_at "mine noif"
  (try k_fold)
  walk_at "mine steps"
  refine Frozen.mk ?_
  with_unfolding_all refine For_turns (by k_asm) ?_
  walk_at "mine steps"
  refine Frozen.mk ?_
  refine lp_enum (LwJ _ _ f ns (wdC f en ns) _) rfl hl (by k_asm) N7 ⟨_, _, _, _, rfl, by simpa [wordsTo] using ok7, canonA_self⟩ ?_ ?_
  · intro i x t Tu m nx h8 tk8 I1 o1 I2 o2 hx hTu J9 hI1 hI2 F8 N8
    walk_at "mine gen"
    obtain ⟨xs8, k8, a8, c8, rfl, ok8, rfl⟩ := J9
    obtain ⟨c, tc, rfl, hc0⟩ := ints_get hi hx
    have hiL : i < ns.length := (List.getElem?_eq_some_iff.mp hc0).1
    have hl8 : xs8.length ≤ 100 := by
      rw [ok8.len, List.length_append]
      have := wdC_len f en ns
      have := wordsTo_len f ns i
      omega
    have oW1 : ∀ p ∈ [(I1, o1), (I2, o2)], p.1 ≠ _ := List.forall_mem_cons.mpr ⟨fun e => hI1 _ (.head _) e.symm, List.forall_mem_cons.mpr ⟨fun e => hI2 _ (.head _) e.symm, List.forall_mem_nil _⟩⟩
    clear F7 N7 ok7
    (try k_fold)
    have ni : NoIf := ⟨trivial⟩
    walk_at "mine steps"
    refine Frozen.mk ?_
    refine merge_if (pre := [_, _]) (wdC f en ns ++ wordsTo f ns i ++ (if joC f ns c i = true then [Str.ofString "joiner"] else [])) (by k_asm) (by k_asm) ?_ ?_
    · walk_at "mine noif"
      k_with "call ref" => ((fail_if_success (fail_if_success (clear tg_c_lawwords))); first | (k_dflt (refine Callee.ext (c_lawjoin w _ l vs ns (B.keeps (Fr.keep (by k_asm))) (i : Int) _ (by omega) (by omega)) (by k_asm) (by k_asm) (by k_asm) (by k_asm) (by k_asm) (by first | exact rfl | assumption) (by walk_at "mine room") (by walk_at "mine room") ?_; rintro v' h' tk' F' N' - rfl)) | fail "no")
      walk_at "mine steps"
      all_goals first
        | (refine (ifpost (by k_asm) (by k_asm) (by walk_at "mine sub4") (ok_no ok8 ?_)); first | exact jo1 (by assumption) | exact jo2' (by assumption) | exact jo3 (by assumption))
        | (refine append_pp (pre := [_, _, _]) (by k_asm) (by k_asm) (List.forall_mem_cons.mpr ⟨by (show @Ne Nat _ _; k_ne), oW1⟩) (List.forall_mem_cons.mpr ⟨by (show @Ne Nat _ _; k_ne), List.forall_mem_cons.mpr ⟨by (show @Ne Nat _ _; k_ne), List.forall_mem_nil _⟩⟩) ?_ (by rw [sizeLine_eq]; omega); intro h9 F9 N9; walk_at "mine steps"; exact (ifpost (by k_asm) (by k_asm) (fun p hp => .tail _ hp) (ok_yes ok8 (jo4' (by assumption) (by assumption) (by assumption)))))
    intro h9 tk9 xs9 k9 F9 N9 ok9
    dsimp only [List.nil_append, List.cons_append] at N9
    have hl9 : xs9.length ≤ 101 := by
      rw [ok9.len, List.length_append, ← ok8.len]
      have := if_len (joC f ns c i) (Str.ofString "joiner")
      omega
    (try clear F8); (try clear N8)
    (try k_fold)
    walk_at "mine steps"
    refine Frozen.mk ?_
    refine merge_if (pre := [_, _]) (wdC f en ns ++ wordsTo f ns i ++ (if joC f ns c i = true then [Str.ofString "joiner"] else []) ++ (if cxC f ns i = true then [Str.ofString "context"] else [])) (by k_asm) (by k_asm) ?_ ?_
    · walk_at "mine noif"
      k_with "call ref" => ((fail_if_success (fail_if_success (clear tg_c_lawwords))); first | (k_dflt (refine Callee.ext (c_lawcomp w _ l vs ns (B.keeps (Fr.keep (by k_asm))) (i : Int) _ (by omega) (by omega)) (by k_asm) (by k_asm) (by k_asm) (by k_asm) (by k_asm) (by first | exact rfl | assumption) (by walk_at "mine room") (by walk_at "mine room") ?_; rintro v' h' tk' F' N' - rfl)) | fail "no")
      walk_at "mine steps"
      all_goals first
        | (refine (ifpost (by k_asm) (by k_asm) (by walk_at "mine sub4") (ok_no ok9 ?_)); first | exact cx1 (by assumption) | exact cx2 (by assumption))
        | (refine append_pp (pre := [_, _]) (by k_asm) (by k_asm) oW1 (List.forall_mem_cons.mpr ⟨by (show @Ne Nat _ _; k_ne), List.forall_mem_cons.mpr ⟨by (show @Ne Nat _ _; k_ne), List.forall_mem_nil _⟩⟩) ?_ (by rw [sizeLine_eq]; omega); intro h9 F9 N9; walk_at "mine steps"; exact (ifpost (by k_asm) (by k_asm) (fun p hp => hp) (ok_yes ok9 (cx3 (by assumption) (by assumption)))))
    intro h10 tk10 xs10 k10 F10 N10 ok10
    dsimp only [List.nil_append, List.cons_append] at N10
    (try clear F9); (try clear N9); clear ok9
    (try k_fold)
    walk_at "mine steps"
    rw [wordsTo_next hc0] at ok10
    refine ⟨rfl, _, _, _, _ :: _, rfl, by k_asm, N10, fun p hp e => ?_, _, _, _, _, rfl, ok10, canonA_twice⟩
    have h1 : p.1 ≠ I1 := (List.mem_cons.mp hp).elim (fun z => by rw [z]; exact hI1 (_, lstO xs8 k8) (.head _)) fun z => hI1 p (.tail _ z)
    have h2 : p.1 ≠ I2 := (List.mem_cons.mp hp).elim (fun z => by rw [z]; exact hI2 (_, lstO xs8 k8) (.head _)) fun z => hI2 p (.tail _ z)
    simp only [List.mem_cons, List.not_mem_nil, or_false] at e
    exact e.elim h1 h2
  · rintro m nx h8 tk8 ⟨xs8, k8, a8, c8, rfl, ok8, rfl⟩ F8 N8
    walk_at "mine steps"
    rw [hi.length] at ok8
    exact Ext.intro (Fr.keep (by k_asm)) ⟨_, ⟨_, _, rfl, (N8 _ (.head _)).1, (N8 _ (.head _)).2.2⟩, ok8⟩

/-- the caller's side of _law_deck -/
theorem deck_use {w : World} {s : Shared} {f : Addr} {vs : List Value} {d : Nat} {A : Around}
    {p : Program} {loose : List Str} {mean : ExcName → Option Value} {mg mb : Str → Option Value} {dp un : Nat} {gd : Option (List Code)} {cn : Str} {cs : Scope} {L a : Addr} {ccd : Value} {cl : List (Str × Addr)} {outer : List Env} {A₀ : Around} {base h₀ : Heap} {m : Str → Option Value} {Q E : Value → Shared → Prop} {own : List (Addr × Obj)}
    (e : A = ktrTop dp un gd cn cs L a ccd cl outer) (C : Callee w f vs d s (Ext s (NewDeck w s))) (B : Below A₀ base outer h₀) (F : Fr h₀ L s.heap m) (N : News h₀ L s.heap own) (X : (Tp.heap_1 w.params).In h₀) (T : Top p loose mean mg mb h₀) (hk : cs.kind = .function) (hdp : dp + d < 1000) (hun : un + 40 * d < 9900)
    (k : ∀ h' tk dk c l', Fr h₀ L h' m → News h₀ L h' (own ++ l') → Deck w dk c l' → dk ≠ c → (∀ q ∈ own, ∀ p ∈ l', p.1 ≠ q.1) → Q (.ref dk) { s with heap := h', toks := tk }) : wpAny (model PR w) A (call (.ref f) vs) Q E s := by
  refine Callee.ext_at e C B F N X T hk hdp hun ?_
  rintro v h' tk F' N' st ⟨dk, c, l', rfl, ne, D, hl⟩
  refine k h' tk dk c l' F' (fun p hp => ?_) D ne (fun q hq p hp z => ?_)
  · rcases List.mem_append.mp hp with hp | hp
    · exact N' p hp
    · obtain ⟨h1, h2⟩ := hl p hp
      refine ⟨h1, fun z => ?_, ?_⟩
      · obtain ⟨⟨oL, _, _, hL, _⟩, _, _⟩ := F
        rw [z, hL] at h2; cases h2
      · cases y : h₀.get? p.1 with
        | none => rfl
        | some o => rw [F.keep _ _ y] at h2; cases h2
  · have h2 := (hl p hp).2
    rw [z, (N q hq).1] at h2; cases h2
/-- the caller's side of _law_draw -/
theorem draw_use {w : World} {s : Shared} {dk c : Addr} {many : Int} {t : Tok} {A : Around}
    {p : Program} {loose : List Str} {mean : ExcName → Option Value} {mg mb : Str → Option Value} {dp un : Nat} {gd : Option (List Code)} {cn : Str} {cs : Scope} {L a : Addr} {ccd : Value} {cl : List (Str × Addr)} {outer : List Env} {A₀ : Around} {base h₀ : Heap} {m : Str → Option Value} {Q E : Value → Shared → Prop} {pre dl post : List (Addr × Obj)}
    (e : A = ktrTop dp un gd cn cs L a ccd cl outer) (dd : Deck w dk c dl) (ne : dk ≠ c) (hm : 0 < many) (hm2 : many < 1000) (B : Below A₀ base outer h₀) (F : Fr h₀ L s.heap m) (N : News h₀ L s.heap (pre ++ (dl ++ post))) (X : (Tp.heap_1 w.params).In h₀) (T : Top p loose mean mg mb h₀) (hk : cs.kind = .function) (hdp : dp + 4 < 1000) (hun : un + 40 * 4 < 9900)
    (h1 : ∀ q ∈ pre, ∀ p ∈ dl, p.1 ≠ q.1) (h2 : ∀ q ∈ post, ∀ p ∈ dl, p.1 ≠ q.1)
    (k : ∀ h' tk dl' r t', Fr h₀ L h' m → News h₀ L h' (pre ++ (dl' ++ post)) → Deck w dk c dl' → (∀ q ∈ pre, ∀ p ∈ dl', p.1 ≠ q.1) → (∀ q ∈ post, ∀ p ∈ dl', p.1 ≠ q.1) → 0 ≤ r → r < many → Q (.int r t') { s with heap := h', toks := tk }) : wpAny (model PR w) A (call (.ref 433) [.ref dk, .int many t]) Q E s := by
  subst e
  have sub : ∀ (dl : List (Addr × Obj)) (p : Addr × Obj), p ∈ dl ++ (pre ++ post) ↔ p ∈ pre ++ (dl ++ post) := fun dl p => by
    simp only [List.mem_append]
    constructor
    · rintro (h | h | h)
      · exact .inr (.inl h)
      · exact .inl h
      · exact .inr (.inr h)
    · rintro (h | h | h)
      · exact .inr (.inl h)
      · exact .inl h
      · exact .inr (.inr h)
  have hoff : ∀ q ∈ pre ++ post, ∀ b ∈ dl.map (·.1), q.1 ≠ b := fun q hq b hb z => by
    obtain ⟨p, hp, rfl⟩ := List.mem_map.mp hb
    rcases List.mem_append.mp hq with hq | hq
    · exact h1 q hq p hp z.symm
    · exact h2 q hq p hp z.symm
  refine (c_draw w s dk c ne dl dd many hm hm2 t).ext (rest := pre ++ post) B F (news_less N fun p hp => (sub dl p).mp hp) X T hk hdp hun hoff ?_
  rintro v h' tk dl' F' N' - ed ⟨D', r, t', rfl, r0, r1⟩
  have back : ∀ p ∈ dl', ∃ p' ∈ dl, p'.1 = p.1 := fun p hp => by
    have : p.1 ∈ dl.map (·.1) := ed ▸ List.mem_map_of_mem hp
    obtain ⟨p', h, z⟩ := List.mem_map.mp this
    exact ⟨p', h, z⟩
  refine k h' tk dl' r t' F' (news_less N' fun p hp => (sub dl' p).mpr hp) D' (fun q hq p hp z => ?_) (fun q hq p hp z => ?_) r0 r1
  · obtain ⟨p', hp', e'⟩ := back p hp
    exact h1 q hq p' hp' (e'.trans z)
  · obtain ⟨p', hp', e'⟩ := back p hp
    exact h2 q hq p' hp' (e'.trans z)
section
variable {prog : Program} {w : World} {A : Around} {E : Value → Shared → Prop} {s : Shared} {env : Env} {h₀ : Heap} {x : Str} {body : List Stmt} {Q : Flow → Shared → Prop}
/-- a for over a range; its body may store names -/
theorem lp_rangeM {r : Addr} {b : Int} {t u v : Tok} {n : Nat} {m₀ : Str → Option Value} {news : List (Addr × Obj)} (J : Nat → (Str → Option Value) → List (Addr × Obj) → Prop) (hh : A.handled = none) (hr : IsRange s.heap r 0 b 1 t u v) (hsm : Builtin.Range.small 0 b 1 = true) (hn : Builtin.Range.rangeSize 0 b 1 = ((n : Nat) : Int)) (F : Fr h₀ env.locals s.heap m₀) (N : News h₀ env.locals s.heap news) (hj : J 0 m₀ news)
    (turn : ∀ (i : Nat) t m news₁ h tk I oI, i < n → J i m news₁ → (∀ p ∈ news₁, p.1 ≠ I) → Fr h₀ env.locals h (fun y => if y = x then some (.int (i : Int) t) else m y) → News h₀ env.locals h ((I, oI) :: news₁) →
      wpAny (model prog w) A (execs body env) (LoopStepV h₀ env.locals [I] [(I, oI)] (J (i + 1)) { s with heap := h, toks := tk } (fun v s' => Q (.ret v) s') fun s' => Q .next s') E { s with heap := h, toks := tk })
    (done : ∀ m news₁ h tk, J n m news₁ → Fr h₀ env.locals h m → News h₀ env.locals h news₁ → Q .next { s with heap := h, toks := tk }) :
    wpAny (model prog w) A (pyIter (.ref r)) (fun it s₂ => LoopAtV prog w A h₀ env x body Q E it s₂) E s := by
  refine wpAny_pyIter_range hr hsm ?_
  refine loopAt_of J (LCg.range_walks (I := s.heap.objs.size) hh 0 n) (fun hm => Nat.ne_of_lt F.ns.lt (List.mem_singleton.mp hm)) (by show IsRangeIter _ _ _ _ _; rw [hn]; simpa using Heap.get?_push_size _ rfl) F N hj (fun i v m₁ news₁ h tk own hin hP hJ hoff hown hst' F₁ N₁ => ?_) done
  obtain ⟨tv, rfl⟩ := hP
  have ownI := own_one (show h.get? s.heap.objs.size = some _ from hst') (fun p hp => List.mem_singleton.mp (hown p hp)) N₁
  rw [Int.zero_add] at F₁
  exact wpAny_mono (turn i tv m₁ news₁ h tk _ _ hin hJ hoff F₁ (List.forall_mem_cons.mpr ⟨⟨hst', Nat.ne_of_gt F.ns.lt, next_is_new F⟩, fun p hp => N₁ p (List.mem_append_right _ hp)⟩)) (fun _ _ q => step_own ownI q) fun _ _ e => e
end

/-- facts kept through a clearing -/
inductive Keep5 (a b c d e : Prop) : Prop
  | mk : a → b → c → d → e → Keep5 a b c d e
/-- between the draws of a comprehension -/
inductive DrJ (w : World) (dk c : Addr) (pre post : List (Addr × Obj)) (R : Nat → List Value → Prop) (i : Nat) (ys : List Value) (nx : List (Addr × Obj)) : Prop
  | mk : ∀ dl, nx = pre ++ (dl ++ post) → Deck w dk c dl → (∀ q ∈ pre, ∀ p ∈ dl, p.1 ≠ q.1) → (∀ q ∈ post, ∀ p ∈ dl, p.1 ≠ q.1) → R i ys → DrJ w dk c pre post R i ys nx
inductive BoolsN (i : Nat) (ys : List Value) : Prop
  | mk : ∀ bs : List Bool, bs.length = i → ys = bs.map Value.bool → BoolsN i ys
theorem BoolsN.snoc {i : Nat} {ys : List Value} (h : BoolsN i ys) (b : Bool) : BoolsN (i + 1) (ys ++ [.bool b]) := by
  obtain ⟨bs, h1, rfl⟩ := h
  exact ⟨bs ++ [b], by rw [List.length_append, h1]; rfl, by rw [List.map_append]; rfl⟩
abbrev canonT (T B W C : Option Value) (m : Str → Option Value) : Str → Option Value := fun y => if y = Str.ofString "at" then T else if y = Str.ofString "was" then B else if y = Str.ofString "label" then W else if y = Str.ofString "turn" then C else m y
theorem canonT_self {m : Str → Option Value} : m = canonT (m (Str.ofString "at")) (m (Str.ofString "was")) (m (Str.ofString "label")) (m (Str.ofString "turn")) m := by
  funext y
  unfold canonT
  by_cases h1 : y = Str.ofString "at"
  · rw [if_pos h1, h1]
  by_cases h2 : y = Str.ofString "was"
  · rw [if_neg h1, if_pos h2, h2]
  by_cases h3 : y = Str.ofString "label"
  · rw [if_neg h1, if_neg h2, if_pos h3, h3]
  by_cases h4 : y = Str.ofString "turn"
  · rw [if_neg h1, if_neg h2, if_neg h3, if_pos h4, h4]
  · simp only [if_neg h1, if_neg h2, if_neg h3, if_neg h4]
/-- between the turns of the law -/
structure TurnSt (w : World) (dk c da : Addr) (own dl : List (Addr × Obj)) (hD : Heap) (tl : List (Addr × Obj)) (S : DSt) : Prop where
  deck : Deck w dk c dl
  off1 : ∀ q ∈ own, ∀ p ∈ dl ++ (led hD ++ tl), p.1 ≠ q.1
  off2 : ∀ q ∈ dl, ∀ p ∈ led hD ++ tl, p.1 ≠ q.1
  data : DataSt w hD S
  eq : S.d = da
  tab : TabL tl
  off3 : ∀ p ∈ tl, hD.get? p.1 = none
inductive TurnJ (w : World) (dk c da : Addr) (own : List (Addr × Obj)) (m₀ : Str → Option Value) (i : Nat) (m : Str → Option Value) (nx : List (Addr × Obj)) : Prop
  | mk : ∀ dl hD tl S, nx = own ++ (dl ++ (led hD ++ tl)) → TurnSt w dk c da own dl hD tl S → ∀ T B W C, m = canonT T B W C m₀ → TurnJ w dk c da own m₀ i m nx
theorem off1_mem {D : Addr} : ∀ {l : List (Addr × Obj)}, LCg.Off1 D l → ∀ p ∈ l, p.1 ≠ D
  | [], _, _, h => nomatch h
  | _ :: _, x, p, h => by
    rcases List.mem_cons.mp h with rfl | h
    · exact x.1
    · exact off1_mem x.2 p h
theorem off3_turn {I C D : Addr} {pre dl dl' post : List (Addr × Obj)} {oI oC oD : Obj} (h : LCg.Off3 I C D (pre ++ (dl ++ post))) (o1 : ∀ q ∈ (I, oI) :: (C, oC) :: (D, oD) :: pre, ∀ p ∈ dl', p.1 ≠ q.1) : LCg.Off3 I C D (pre ++ (dl' ++ post)) := LCg.Off3.of fun p hp => by
  rcases List.mem_append.mp hp with hp | hp
  · exact h.mem p (List.mem_append_left _ hp)
  · rcases List.mem_append.mp hp with hp | hp
    · exact ⟨o1 _ (.head _) p hp, o1 _ (.tail _ (.head _)) p hp, o1 _ (.tail _ (.tail _ (.head _))) p hp⟩
    · exact h.mem p (List.mem_append_right _ (List.mem_append_right _ hp))
theorem off3_dl {I C D : Addr} {pre dl post : List (Addr × Obj)} {oI oC oD : Obj} (h : LCg.Off3 I C D (pre ++ (dl ++ post))) (o1 : ∀ q ∈ pre, ∀ p ∈ dl, p.1 ≠ q.1) : ∀ q ∈ (I, oI) :: (C, oC) :: (D, oD) :: pre, ∀ p ∈ dl, p.1 ≠ q.1 := by
  have z : ∀ p ∈ dl, _ := fun p hp => h.mem p (List.mem_append_right _ (List.mem_append_left _ hp))
  exact List.forall_mem_cons.mpr ⟨fun p hp => (z p hp).1, List.forall_mem_cons.mpr ⟨fun p hp => (z p hp).2.1, List.forall_mem_cons.mpr ⟨fun p hp => (z p hp).2.2, o1⟩⟩⟩
theorem ledger_pick {h₀ h : Heap} {L : Addr} {a b c e f k t : Addr × Obj} {dl l : List (Addr × Obj)} (N : News h₀ L h (a :: b :: c :: ([e, f, k, t] ++ (dl ++ l)))) : News h₀ L h ([a, b, e, k] ++ (dl ++ (l ++ [t]))) := news_less N fun p hp => by
  simp only [List.mem_append, List.mem_cons, List.not_mem_nil, or_false] at hp ⊢
  rcases hp with (h | h | h | h) | h | h | h <;> simp [h]
theorem turn_off {x d : Addr} {ox od : Obj} {e f k t : Addr × Obj} {dl dl0 dl3 l : List (Addr × Obj)} (A : AllLt d ([e, f, k, t] ++ (dl ++ l))) (hx : @LT.lt Nat _ d x) (o41 : ∀ q ∈ [e, f, k, t], ∀ p ∈ dl, p.1 ≠ q.1) (o1 : LCg.Off1 e.1 ([f, k, t] ++ (dl3 ++ l))) (hc : ∀ p ∈ dl0 ++ l, p.1 ≠ k.1) (hkt : @Ne Nat t.1 k.1) : ∀ q ∈ [(x, ox), (d, od), e, k], ∀ p ∈ dl ++ (l ++ [t]), p.1 ≠ q.1 := by
  have A1 := allLt_mem A
  have O := off1_mem o1
  have A2 : ∀ p ∈ dl ++ (l ++ [t]), @LT.lt Nat _ p.1 d := fun p hp => A1 p (by
    simp only [List.mem_append, List.mem_cons, List.not_mem_nil, or_false] at hp ⊢
    rcases hp with h | h | h <;> simp [h])
  refine List.forall_mem_cons.mpr ⟨fun p hp => Nat.ne_of_lt (Nat.lt_trans (A2 p hp) hx), List.forall_mem_cons.mpr ⟨fun p hp => Nat.ne_of_lt (A2 p hp), List.forall_mem_cons.mpr ⟨fun p hp => ?_, List.forall_mem_cons.mpr ⟨fun p hp => ?_, List.forall_mem_nil _⟩⟩⟩⟩
  · rcases List.mem_append.mp hp with hp | hp
    · exact o41 e (.head _) p hp
    · rcases List.mem_append.mp hp with hp | hp
      · exact O p (List.mem_append_right _ (List.mem_append_right _ hp))
      · rw [List.mem_singleton.mp hp]; exact O t (.tail _ (.tail _ (.head _)))
  · rcases List.mem_append.mp hp with hp | hp
    · exact o41 k (.tail _ (.tail _ (.head _))) p hp
    · rcases List.mem_append.mp hp with hp | hp
      · exact hc p (List.mem_append_right _ hp)
      · rw [List.mem_singleton.mp hp]; exact hkt

structure NoSplit : Prop where
  here : True
theorem codes_item {w : World} {A : Around} {E : Value → Shared → Prop} {s : Shared} {h₀ : Heap} {L : Addr} {m : Str → Option Value} {value slice : PySem.Expr} {k : Int} {u : Tok} {Q : Value → Shared → Prop} (F : Fr h₀ L s.heap m) (X : (Tp.heap_1 w.params).In h₀) (h0 : 0 ≤ k) (h1 : k < 27) (h : ∀ c t, c ∈ lawCodes → Q (.int c t) s)
    (hs : subscripted slice false (.ref 407) (.int k u) = operate [.ref 407, .int k u] (getItem (.ref 407) (.int k u)) := by with_unfolding_all rfl) :
    wpAny (model PR w) A (subscriptTail value slice (.ref 407) (.int k u)) Q E s := by
  obtain ⟨items, hT, hI, hl⟩ := codes_tuple w (Frag.In.keeps X F.keep)
  have hk : k.toNat < items.length := by omega
  obtain ⟨c, t, e, hc⟩ := ints_get hI (List.getElem?_eq_getElem hk)
  exact tail_any hT.typeIs slot_tuple_getitem.lookup (getItem_tuple hT (by omega) (by omega) (seqIndex_of h0 (by simp only [List.size_toArray]; omega)) (x := .int c t) (by simpa [List.getElem?_eq_getElem hk] using e) (h c t (List.mem_of_getElem? hc))) hs
theorem ne_same {prog : Program} {w : World} {A : Around} {E : Value → Shared → Prop} {s : Shared} {b : Bool} {Q : Value → Shared → Prop} (h : Q (.bool false) s) : wpAny (model prog w) A (compareOp .NotEq (.bool b) (.bool b)) Q E s := ne_bool (by rw [bne_self_eq_false]; exact h)
theorem DataSt.law {w : World} {hD : Heap} {S : DSt} (D : DataSt w hD S) : LawD w hD S := D.elim (·.1) fun ⟨_, D⟩ => D.ok
section
variable {prog : Program} {w : World} {A : Around} {E : Value → Shared → Prop} {s : Shared} {env : Env} {h₀ : Heap} {x : Str} {body : List Stmt} {Q : Flow → Shared → Prop}
/-- a for over a range; its body stores no name and leaves the ledger as it was -/
theorem lp_rangeS {r : Addr} {b : Int} {t u v : Tok} {n : Nat} {m₀ : Str → Option Value} {news : List (Addr × Obj)} (hh : A.handled = none) (hr : IsRange s.heap r 0 b 1 t u v) (hsm : Builtin.Range.small 0 b 1 = true) (hn : Builtin.Range.rangeSize 0 b 1 = ((n : Nat) : Int)) (F : Fr h₀ env.locals s.heap m₀) (N : News h₀ env.locals s.heap news)
    (turn : ∀ (i : Nat) t h tk I oI, i < n → (∀ p ∈ news, p.1 ≠ I) → Fr h₀ env.locals h (fun y => if y = x then some (.int (i : Int) t) else m₀ y) → News h₀ env.locals h ((I, oI) :: news) →
      wpAny (model prog w) A (execs body env) (LoopStepV h₀ env.locals [I] [(I, oI)] (fun m nx => nx = news ∧ ∃ u, m = fun y => if y = x then u else m₀ y) { s with heap := h, toks := tk } (fun v s' => Q (.ret v) s') fun s' => Q .next s') E { s with heap := h, toks := tk })
    (done : ∀ u h tk, Fr h₀ env.locals h (fun y => if y = x then u else m₀ y) → News h₀ env.locals h news → Q .next { s with heap := h, toks := tk }) :
    wpAny (model prog w) A (pyIter (.ref r)) (fun it s₂ => LoopAtV prog w A h₀ env x body Q E it s₂) E s :=
  lp_rangeM (fun _ m nx => nx = news ∧ ∃ u, m = fun y => if y = x then u else m₀ y) hh hr hsm hn F N ⟨rfl, _, one_self⟩
    (fun i t m nx h tk I oI hi ⟨e, u, e'⟩ hI F₂ N₂ => by
      rw [e', one_twice] at F₂
      rw [e] at N₂ hI
      exact turn i t h tk I oI hi hI F₂ N₂)
    (fun m nx h tk ⟨e, u, e'⟩ F₂ N₂ => by
      rw [e'] at F₂
      rw [e] at N₂
      exact done u h tk F₂ N₂)
end
theorem rs_end {s₁ : Shared} {h₀ h : Heap} {L I : Addr} {oI : Obj} {x : Str} {u : Option Value} {m₀ : Str → Option Value} {tk : Nat} {news nn : List (Addr × Obj)} (F : Fr h₀ L h (fun y => if y = x then u else m₀ y)) (N : News h₀ L h nn) (hs : ∀ p ∈ (I, oI) :: news, p ∈ nn) (hI : ∀ p ∈ news, p.1 ≠ I) :
    LoopStepU h₀ L [I] [(I, oI)] (fun m nx => nx = news ∧ ∃ u, m = fun y => if y = x then u else m₀ y) s₁ .next { s₁ with heap := h, toks := tk } :=
  ⟨rfl, h, tk, _, news, rfl, F, news_less N hs, fun p hp e => hI p hp (List.mem_singleton.mp e), rfl, _, rfl⟩
theorem CalleeN.fuseS {w : World} {f : Addr} {vs : List Value} {d : Nat} {s : Shared} {hD : Heap} {da : Addr} {tl own : List (Addr × Obj)} {ys : List Str} {A : Around}
    {p : Program} {loose : List Str} {mean : ExcName → Option Value} {mg mb : Str → Option Value} {dp un : Nat} {gd : Option (List Code)} {cn : Str} {cs : Scope} {L a : Addr} {ccd : Value} {cl : List (Str × Addr)} {outer : List Env} {A₀ : Around} {base h₀ : Heap} {m : Str → Option Value} {Q E : Value → Shared → Prop}
    (e : A = ktrTop dp un gd cn cs L a ccd cl outer) (C : CalleeN w f vs d s (led hD ++ tl) (FormPost w s hD tl da fun v h' => ∃ xs, NewList s xs v h' ∧ StrsOk xs ys)) (B : Below A₀ base outer h₀) (F : Fr h₀ L s.heap m) (N : News h₀ L s.heap (own ++ (led hD ++ tl))) (X : (Tp.heap_1 w.params).In h₀) (T : Top p loose mean mg mb h₀) (hk : cs.kind = .function) (hdp : dp + d < 1000) (hun : un + 40 * d < 9900)
    (hoff : ∀ q ∈ own, ∀ p ∈ led hD ++ tl, p.1 ≠ q.1)
    (k : ∀ h' tk hD' tl' S' r W xs cW, Fr h₀ L h' m → News h₀ L h' ((W, lstO xs cW) :: (own ++ (led hD' ++ tl'))) → (∀ q ∈ own, ∀ p ∈ led hD' ++ tl', p.1 ≠ q.1) → TabL tl' → (∀ p ∈ tl', hD'.get? p.1 = none) → S'.d = da → LawDm w hD' S' r → StrsOk xs ys → Q (.ref W) { s with heap := h', toks := tk }) : wpAny (model PR w) A (call (.ref f) vs) Q E s := by
  refine CalleeN.fuse e C B F N X T hk hdp hun hoff ?_
  rintro v h' tk hD' tl' S' r F' N' off' - - TL' - ot ed DM ⟨xs, ⟨W, cW, rfl, hW, nW⟩, ok⟩
  refine k h' tk hD' tl' S' r W xs cW F' (fun q hq => ?_) off' TL' ot ed DM ok
  rcases List.mem_cons.mp hq with rfl | hq
  · refine ⟨hW, fun e => ?_, ?_⟩
    · obtain ⟨⟨oL, _, _, hL, _⟩, _, _⟩ := F
      rw [show W = L from e, hL] at nW; cases nW
    · cases y : h₀.get? W with
      | none => rfl
      | some o => rw [F.keep _ _ y] at nW; cases nW
  · exact N' q hq
theorem turn_own {hD : Heap} {D' D2 I : Addr} {o1 o2 oI : Obj} {a b c d : Addr × Obj} {dl dl' tl : List (Addr × Obj)} (h1 : AllLt D' (dl ++ (led hD ++ tl))) (h2 : ∀ p ∈ (I, oI) :: ([a, b, c, d] ++ (dl ++ (led hD ++ tl))), p.1 ≠ D2) (h3 : ∀ p ∈ [a, b, c, d] ++ (dl' ++ (led hD ++ tl)), p.1 ≠ I) (h4 : ∀ q ∈ [a, b, c, d], ∀ p ∈ dl' ++ (led hD ++ tl), p.1 ≠ q.1) (h5 : ∀ q ∈ led hD ++ tl, ∀ p ∈ dl, p.1 ≠ q.1) :
    ∀ q ∈ (D', o1) :: (D2, o2) :: (I, oI) :: a :: b :: c :: d :: dl, ∀ p ∈ led hD ++ tl, p.1 ≠ q.1 := by
  refine List.forall_mem_cons.mpr ⟨fun p hp => Nat.ne_of_lt (allLt_mem h1 p (List.mem_append_right _ hp)), List.forall_mem_cons.mpr ⟨fun p hp => h2 p (.tail _ (List.mem_append_right _ (List.mem_append_right _ hp))), List.forall_mem_cons.mpr ⟨fun p hp => h3 p (List.mem_append_right _ (List.mem_append_right _ hp)), fun q hq => ?_⟩⟩⟩
  rcases List.mem_append.mp (show q ∈ [a, b, c, d] ++ dl from hq) with hq | hq
  · exact fun p hp => h4 q hq p (List.mem_append_right _ hp)
  · exact fun p hp e => h5 p hp q hq e.symm
theorem words_len (f : FlgV) (en : Bool) (ns : List Int) (h : ns.length ≤ 6) : (words f en ns).length ≤ 100 := by
  have h1 := wdC_len f en ns
  have h2 := wordsTo_len f ns ns.length
  show (wdC f en ns ++ wordsTo f ns ns.length).length ≤ 100
  rw [List.length_append]
  omega
theorem ne_strs_same {prog : Program} {w : World} {A : Around} {E : Value → Shared → Prop} {s : Shared} {a b : Addr} {xs ys : List Value} {ns : List Str} {Q : Value → Shared → Prop} (ha : s.heap.IsList a xs.toArray) (hb : s.heap.IsList b ys.toArray) (hi : StrsOk xs ns) (hj : StrsOk ys ns) (hu : A.units + 64 < cLine) (h : Q (.bool false) s) :
    wpAny (model prog w) A (compareOp .NotEq (.ref a) (.ref b)) Q E s := ne_strsK ha hb hi hj hu (by rw [decide_eq_true rfl]; exact h)
theorem ne_ints_same {prog : Program} {w : World} {A : Around} {E : Value → Shared → Prop} {s : Shared} {a b : Addr} {xs ys : List Value} {ns : List Int} {Q : Value → Shared → Prop} (ha : s.heap.IsList a xs.toArray) (hb : s.heap.IsList b ys.toArray) (hi : IntsAre xs ns) (hj : IntsAre ys ns) (hu : A.units + 64 < cLine) (h : Q (.bool false) s) :
    wpAny (model prog w) A (compareOp .NotEq (.ref a) (.ref b)) Q E s := ke_ne_ints ha hb hi hj hu (by rw [decide_eq_true rfl]; exact h)
theorem canonT_turn {T B W C T0 B0 W0 C0 : Option Value} {m : Str → Option Value} : (fun y => if y = Str.ofString "at" then T else if y = Str.ofString "was" then B else if y = Str.ofString "label" then W else (fun y => if y = Str.ofString "turn" then C else canonT T0 B0 W0 C0 m y) y) = canonT T B W C m := by
  funext y
  unfold canonT
  by_cases h1 : y = Str.ofString "at"
  · simp only [if_pos h1]
  by_cases h2 : y = Str.ofString "was"
  · simp only [if_neg h1, if_pos h2]
  by_cases h3 : y = Str.ofString "label"
  · simp only [if_neg h1, if_neg h2, if_pos h3]
  by_cases h4 : y = Str.ofString "turn"
  · simp only [if_neg h1, if_neg h2, if_neg h3, if_pos h4]
  · simp only [if_neg h1, if_neg h2, if_neg h3, if_neg h4]
theorem turn_end {w : World} {s₁ : Shared} {h₀ h hD : Heap} {L dk c da D' D2 I : Addr} {o1 o2 oI : Obj} {a b e d : Addr × Obj} {dl dl' l' tl nn : List (Addr × Obj)} {S : DSt} {rr : Addr} {T B W C T0 B0 W0 C0 : Option Value} {m₀ : Str → Option Value} {tk i : Nat}
    (F : Fr h₀ L h (fun y => if y = Str.ofString "at" then T else if y = Str.ofString "was" then B else if y = Str.ofString "label" then W else (fun y => if y = Str.ofString "turn" then C else canonT T0 B0 W0 C0 m₀ y) y)) (N : News h₀ L h nn) (hs : ∀ p ∈ (I, oI) :: ([a, b, e, d] ++ (dl ++ (led hD ++ tl))), p ∈ nn)
    (h3 : ∀ p ∈ [a, b, e, d] ++ (dl' ++ l'), p.1 ≠ I) (h7 : ∀ q ∈ [(I, oI), a, b, e, d], ∀ p ∈ dl, p.1 ≠ q.1) (ho : ∀ q ∈ (D', o1) :: (D2, o2) :: (I, oI) :: a :: b :: e :: d :: dl, ∀ p ∈ led hD ++ tl, p.1 ≠ q.1)
    (D7 : Deck w dk c dl) (TL : TabL tl) (ot : ∀ p ∈ tl, hD.get? p.1 = none) (e1 : S.d = da) (DM : LawDm w hD S rr) :
    LoopStepU h₀ L [I] [(I, oI)] (TurnJ w dk c da [a, b, e, d] m₀ (i + 1)) s₁ .next { s₁ with heap := h, toks := tk } := by
  rw [canonT_turn] at F
  refine ⟨rfl, h, tk, _, _, rfl, F, news_less N hs, fun p hp z => ?_, dl, hD, tl, S, rfl, ⟨D7, fun q hq p hp => ?_, fun q hq p hp => ?_, .inr ⟨rr, DM⟩, e1, TL, ot⟩, _, _, _, _, rfl⟩
  · have z := List.mem_singleton.mp z
    have hp : p ∈ [a, b, e, d] ++ (dl ++ (led hD ++ tl)) := hp
    rcases List.mem_append.mp hp with hp | hp
    · exact h3 p (List.mem_append_left _ hp) z
    · rcases List.mem_append.mp hp with hp | hp
      · exact h7 _ (.head _) p hp z
      · exact ho _ (.tail _ (.tail _ (.head _))) p hp z
  · rcases List.mem_append.mp hp with hp | hp
    · exact h7 q (.tail _ hq) p hp
    · exact ho q (.tail _ (.tail _ (.tail _ (show q ∈ [a, b, e, d] ++ dl from List.mem_append_left _ hq)))) p hp
  · exact ho q (.tail _ (.tail _ (.tail _ (show q ∈ [a, b, e, d] ++ dl from List.mem_append_right _ hq)))) p hp
inductive CodesN (i : Nat) (ys : List Value) : Prop
  | mk : ∀ ns : List Int, ns.length = i → IntsAre ys ns → (∀ c ∈ ns, c ∈ lawCodes) → CodesN i ys
theorem CodesN.snoc {i : Nat} {ys : List Value} (h : CodesN i ys) {c : Int} (t : Tok) (hc : c ∈ lawCodes) : CodesN (i + 1) (ys ++ [.int c t]) := by
  obtain ⟨ns, h1, h2, h3⟩ := h
  exact ⟨ns ++ [c], by rw [List.length_append, h1]; rfl, h2.append (.cons _ _ .nil), fun x hx => by
    rcases List.mem_append.mp hx with hx | hx
    · exact h3 x hx
    · rw [List.mem_singleton.mp hx]; exact hc⟩
theorem tab_grown {h₀ h : Heap} {L : Addr} {tl nn : List (Addr × Obj)} (T : TabL tl) (N : News h₀ L h nn) (hs : ∀ p ∈ tl, p ∈ nn) : GrownAll [(114, 112)] h := by
  refine ⟨?_, trivial⟩
  rcases T with rfl | ⟨c', oc, vs, t, n1, n2, rfl, d1, d2⟩
  · exact GrownAt.of N (hs _ (.head _))
  · exact GrownAt.of N (hs _ (.head _))
theorem kw_49_1 : True := by
  k_with "call ref" => first | (k_here; (first | (with_reducible show wpAny _ _ (call (Value.ref 426) _) _ _ _) | (with_reducible show wpAny _ _ (call (Value.ref 440) _) _ _ _) | (with_reducible show wpAny _ _ (call (Value.ref 433) _) _ _ _) | (with_reducible show wpAny _ _ (call (Value.ref 275) _) _ _ _) | (with_reducible show wpAny _ _ (call (Value.ref 445) _) _ _ _) | (with_reducible show wpAny _ _ (call (Value.ref 265) _) _ _ _) | (with_reducible show wpAny _ _ (call (Value.ref 450) _) _ _ _) | (with_reducible show wpAny _ _ (call (Value.ref 296) _) _ _ _) | (with_reducible show wpAny _ _ (call (Value.ref 462) _) _ _ _)); refine frozen ?_) | fail "no"
  k_with "call type:range" => first | (k_here; (have nsp9_k : NoSplit := by assumption); (rename Fr _ _ _ _ => F'_k); (rename News _ _ _ _ => N'_k); (with_unfolding_all refine range1_rows F'_k N'_k ?_); intro _ _ _ _ _ _ _ _ _) | fail "no"
  k_with "subscriptTail Name Call ref int" => first | (k_here; k_dflt (refine codes_item (by k_asm) (by k_asm) (by assumption) (by assumption) ?_); intro c9_k t9_k hc9_k) | fail "no"
  k_with "compareOp In int ref" => first | (k_here; (with_reducible show wpAny _ _ (compareOp CmpOp.In (Value.int _ _) (Value.ref _)) _ _ _); k_dflt (refine in_tuple_ints (News.isTup (by k_asm) (by k_mem)) (by walk_at "mine are") ?_)) | fail "no"
  k_with "compareOp NotEq bool bool" => first | (k_here; with_reducible refine ne_same ?_) | fail "no"
  k_with "compareOp NotEq ref ref" => first | (k_here; (with_reducible show wpAny _ _ (compareOp CmpOp.NotEq (Value.ref _) (Value.ref _)) _ _ _); k_dflt (first | refine ne_strs_same (News.isList (by k_asm) (by k_mem)) (News.isList (by k_asm) (by k_mem)) (by assumption) (by assumption) (by first | ke_room | (dsimp only [ktrTop, Around.in1, cLine]; omega) | decide) ?_ | refine ne_ints_same (News.isList (by k_asm) (by k_mem)) (News.isList (by k_asm) (by k_mem)) (by assumption) (by assumption) (by first | ke_room | (dsimp only [ktrTop, Around.in1, cLine]; omega) | decide) ?_)) | fail "no"
  trivial
local macro_rules | `(tactic| k_qdec) => `(tactic| fail "no")
theorem wpAny_gen2 {M : Model} {A : Around} {t : Sem Flow} {Q0 : Flow → Shared → Prop} {E0 : Value → Shared → Prop} {s : Shared} (h : ∀ Q : Flow → Shared → Prop, (∀ f s', Q0 f s' → Q f s') → wpAny M A t Q (fun _ _ => False) s) : wpAny M A t Q0 E0 s := wpAny_mono (h Q0 fun _ _ x => x) (fun _ _ x => x) fun _ _ x => x.elim
set_option maxHeartbeats 16000000 in
theorem final : PySem.Challenge.rw_on0379_01.Holds := by
  w_on
  refine holds_law said_law fun said => ?_
  refine holds_open (q := vw) (loose := looseL) (Xt := XtL) (XP := XL vw lvL) (Yf := HK.obs) (Ya := HK.val) (YP := HK.says) (N := 6600) left_law HK.of HK.keeps (fun s e => xl_of s (Bool.and_eq_true_iff.mp e).1) XL.keeps (by rfl) (by rfl) (by rfl) (fun s e => recFacts_of (Bool.and_eq_true_iff.mp e).2) (by rfl) (by first | assumption | decide +kernel) (by decide +kernel) ⟨rfl, rfl, rfl, rfl, rfl, by decide +kernel⟩ ?hw ?hc
  case hw => w_witness2
  w_strict k_go0
  show wpAny _ (ktrTop _ _ _ _ _ _ _ _ _ _) _ _ _ _
  with_reducible rename World => w
  with_reducible rename Heap.IsList (ghostOf _ _) _ _ => hscr
  with_reducible rename IntsAre _ _ => hI
  with_reducible rename Below _ _ _ _ => BB
  with_reducible rename Top topProg _ _ _ _ _ => TT
  with_reducible rename (Tp.heap_1 w.params).In (ghostOf _ _) => XX
  with_reducible rename CodeHd _ _ _ => CH
  (try (with_reducible rename Ground _ _ _ _ _ _ _ _ => zz9; clear zz9))
  (try (with_reducible rename Hook.says _ _ _ => zz9; clear zz9))
  (try (with_reducible rename Heap.CodeRec _ _ _ => zz9; clear zz9))
  (try (with_reducible rename Flt.MathXP _ _ _ => zz9; clear zz9))
  (try (with_reducible rename LooseAre _ _ _ => zz9; clear zz9))
  (try (with_reducible rename Top vw _ _ _ _ _ => zz9; clear zz9))
  (try (with_reducible rename Tables _ _ _ _ => zz9; clear zz9))
  (try (with_reducible rename TopE _ _ _ _ => zz9; clear zz9))
  (try (with_reducible rename TopW _ _ _ => zz9; clear zz9))
  (try (with_reducible rename TabsAt _ _ => zz9; clear zz9))
  (try (with_reducible rename Dflts _ _ _ => zz9; clear zz9))
  (try (with_reducible rename ReadsAllW _ _ _ _ _ _ => zz9; clear zz9))
  (try (with_reducible rename Well _ _ _ _ => zz9; clear zz9))
  (try (with_reducible rename Reads _ _ _ _ => zz9; clear zz9))
  (try (with_reducible rename ReadsAll _ _ _ _ => zz9; clear zz9))
  (try (with_reducible rename CellsAre _ _ _ => zz9; clear zz9))
  (try (with_reducible rename WData.layableAll _ = true => zz9; clear zz9))
  (try (with_reducible rename WShape.hasAll _ _ _ = true => zz9; clear zz9))
  (try (with_reducible rename PyData.layable0 _ = true => zz9; clear zz9))
  (try (with_reducible rename PyData.layableAll0 _ = true => zz9; clear zz9))
  (try (with_reducible rename Shape.has _ _ = true => zz9; clear zz9))
  (try (with_reducible rename Heap.get? _ _ = some _ => zz9; clear zz9))
  (with_reducible rename Shared.gens _ = #[] => HG)
  (try (with_reducible rename ∀ P ∈ [112], _ => zz9; clear zz9))
  (try (with_reducible rename RowW.wellSaid _ = true => zz9; clear zz9))
  (try (with_reducible rename OpenRow.wellSaid _ = true => zz9; clear zz9))
  refine wpAny_gen2 ?_
  intro Q_k hQ_k
  have nf : NoFor := ⟨trivial⟩
  (try k_fold)
  walk_at "mine steps"
  refine Frozen.mk ?_
  refine deck_use rfl (c_deck _ _ _ _ _ (isList_fr (by k_asm) hscr) hI (by omega)) BB (by k_asm) (by k_asm) XX TT rfl (by decide) (by decide) ?_
  intro h1 tk1 dk c dl F1 N1 DD ne offd
  walk_at "mine steps"
  refine Frozen.mk ?_
  refine Callee.ext_new rfl (c_ldata _ _) BB (by k_asm) (by k_asm) XX TT rfl (by decide) (by decide) ?_
  rintro v2 h2 tk2 hN F2 N2 offN - ⟨S, rfl, DO, eD, hR⟩
  have offC : ∀ p ∈ dl ++ led hN, p.1 ≠ _ := fun p hp => (List.mem_append.mp hp).elim (fun h => offd _ (.head _) p h) (fun h => offN _ (.head _) p h)
  have offT : ∀ p ∈ dl ++ led hN, p.1 ≠ _ := fun p hp => (List.mem_append.mp hp).elim (fun h => offd _ (.tail _ (.head _)) p h) (fun h => offN _ (.tail _ (.head _)) p h)
  have offD : ∀ q ∈ dl, ∀ p ∈ led hN, p.1 ≠ q.1 := fun q hq p hp => offN q (List.mem_append_right _ hq) p hp
  clear offd offN N1 F1
  dsimp only [List.cons_append, List.nil_append] at N2
  walk_at "mine steps"
  walk_at "mine comp"
  refine LCg.CompSrc.range (n := 5) (by rfl) (by k_asm) (by k_asm) (by assumption) (by decide) (by decide) (by rw [sizeLine_eq]; decide) ?_
  intro g'
  refine m_restJ (DrJ w dk c [_, _, _] (led hN) BoolsN) ⟨dl, rfl, DD, List.forall_mem_cons.mpr ⟨fun p hp => Nat.ne_of_lt (allLt_mem (by assumption : _ ∧ _ ∧ AllLt _ (dl ++ led hN)).2.2 p (List.mem_append_left _ hp)), List.forall_mem_cons.mpr ⟨fun p hp => offC p (List.mem_append_left _ hp), List.forall_mem_cons.mpr ⟨fun p hp => offT p (List.mem_append_left _ hp), List.forall_mem_nil _⟩⟩⟩, fun q hq p hp e => offD p hp q hq e.symm, [], rfl, rfl⟩ ?_ ?_
  · intro i v I oI C oC D m₂ ys nx h3 tk3 E' hi hP J9 hC hx F3 N3 off3 ne3
    walk_at "mine gen"
    obtain ⟨dl3, rfl, DD3, o31, o32, hB⟩ := J9
    dsimp only [List.cons_append, List.nil_append] at N3
    (try k_fold)
    walk_at "mine steps"
    refine Frozen.mk ?_
    refine draw_use (pre := [_, _, _, _, _, _]) rfl DD3 ne (by decide) (by decide) BB (by k_asm) N3 XX TT rfl (by decide) (by decide) (off3_dl off3 o31) o32 ?_
    intro h4 tk4 dl4 r t4 F4 N4 DD4 o41 o42 r0 r1
    walk_at "mine steps"
    refine LCg.CompEnd.intro (by k_asm) N4 _ ?_ (off3_turn off3 o41) trivial ⟨dl4, rfl, DD4, fun q hq => o41 q (.tail _ (.tail _ (.tail _ hq))), o42, hB.snoc _⟩
    exact fun p hp => hp
  · rintro ys nx ⟨dl3, rfl, DD3, o31, o32, bs, hbs, rfl⟩
    match bs, hbs with
    | [b0, b1, b2, b3, b4], _ =>
      (try k_fold)
      walk_at "mine steps"
      refine Frozen.mk ?_
      refine draw_use (pre := [_, _, _, _]) (dl := dl3) (post := led hN) rfl DD3 ne (by decide) (by decide) BB (by k_asm) (by k_asm) XX TT rfl (by decide) (by decide) (List.forall_mem_cons.mpr ⟨fun p hp => off1_mem (by assumption : LCg.Off1 _ (_ ++ (dl3 ++ led hN))) p (List.mem_append_right _ (List.mem_append_left _ hp)), o31⟩) o32 ?_
      intro h4 tk4 dl4 r t4 F4 N4 DD4 o41 o42 r0 r1
      walk_at "mine steps"
      refine Frozen.mk ?_
      have LD : LawD w hN S := ⟨DO, eD, .inl (by show S.abs = (runA dflD (some []) lawPuts).getD []; rw [hR]; rfl)⟩
      have habs : S.abs = finA := by show S.abs = (runA dflD (some []) lawPuts).getD []; rw [hR]; rfl
      rename News (ghostOf _ _) _ _ ((_, instObj 233 _) :: _) => NF
      have M := ledger_pick NF
      refine lp_rangeM (n := 3) (TurnJ w dk c S.d _ _) rfl (by assumption) (by decide) (by decide) (by k_asm) M ⟨dl4, hN, [(112, tabObj #[])], S, rfl, ?_, _, _, _, _, canonT_self⟩ ?_ ?_
      · exact ⟨DD4, turn_off (by assumption : _ ∧ AllLt _ ([_, _, _, _] ++ (dl4 ++ led hN))).2 (by assumption) o41 (by assumption : LCg.Off1 _ ([_, _, _] ++ (dl3 ++ led hN))) offC (Nat.ne_of_lt (Nat.lt_succ_of_lt (by assumption : _ ∧ True).1)), fun q hq p hp e => (List.mem_append.mp hp).elim (fun h => o42 p h q hq e.symm) (fun h => o41 _ (.tail _ (.tail _ (.tail _ (.head _)))) q hq (by rw [← e, List.mem_singleton.mp h])), .inl ⟨LD, habs⟩, rfl, .e rfl, fun p hp => by
          rw [List.mem_singleton.mp hp]
          cases z : hN.get? 112 with
          | none => rfl
          | some o => exact absurd rfl (offT (112, o) (List.mem_append_right _ (mem_led.mpr z)))⟩
      · intro i tt m nx h5 tk5 I oI hi J9 hI F5 N5
        walk_at "mine gen"
        obtain ⟨dl5, hD5, tl5, S5, rfl, TS, T0, B0, W0, C0, rfl⟩ := J9
        dsimp only [List.cons_append, List.nil_append] at N5
        obtain ⟨TD, To1, To2, TDat, TE, TTab, To3⟩ := TS
        have PK := Keep5.mk F5 N5 TT BB XX
        clear F5 N5 TT BB XX NF M LD habs o31 o32 o41 o42 r0 r1 DD3 DD4 DD hbs hR eD DO offC offT offD hscr
        (repeat (rename IsRange _ _ _ _ _ _ _ _ => z; clear z))
        (repeat (rename Fr _ _ _ _ => z; clear z))
        (repeat (rename News _ _ _ _ => z; clear z))
        (repeat (rename Top _ _ _ _ _ _ => z; clear z))
        (repeat (rename Below _ _ _ _ => z; clear z))
        (repeat (rename Frag.In _ _ => z; clear z))
        (repeat (rename LCg.Off1 _ _ => z; clear z))
        (repeat (rename @LT.lt Nat _ _ _ ∧ _ => z; clear z))
        (repeat (rename @LT.lt Nat _ _ _ => z; clear z))
        (repeat (rename (∀ p ∈ (_ : List (Addr × Obj)), @LT.lt Nat _ p.1 _) => z; clear z))
        (repeat (rename (∀ (b : Addr) (o : Obj), Heap.get? _ b = some o → _) => z; clear z))
        (repeat (rename Obj.data _ = Data.cell (bindC _ _ _ _) => z; clear z))
        (repeat (rename List.length _ = 5 => z; clear z))
        obtain ⟨F5, N5, TT, BB, XX⟩ := PK
        (repeat (rename Heap.IsList _ _ _ => z; clear z))
        (repeat (rename IntsAre _ _ => z; clear z))
        (repeat (rename Ground _ _ _ _ _ _ _ _ => z; clear z))
        (repeat (rename Dflts _ _ _ => z; clear z))
        (try k_fold)
        walk_at "mine steps"
        refine Frozen.mk ?_
        k_dflt (refine LCg.Assign_ListComp_U (F₀ := by k_asm) (by rfl) (by with_unfolding_all rfl) (by with_unfolding_all rfl) (by decide) (by rfl) (by decide) (by rfl) (by rfl) (by rfl) ?_)
        walk_at "mine steps"
        refine Frozen.mk ?_
        refine draw_use (pre := [_, _, _, _, _]) rfl TD ne (by decide) (by decide) BB (by k_asm) N5 XX TT rfl (by decide) (by decide) (List.forall_mem_cons.mpr ⟨fun p hp => hI p (by simp [hp]), fun q hq p hp => To1 q hq p (List.mem_append_left _ hp)⟩) (fun q hq p hp e => To2 p hp q hq e.symm) ?_
        intro h6 tk6 dl6 r6 t6 F6 N6 D6 o61 o62 r60 r61
        clear N5
        walk_at "mine steps"
        (try clear F6); (try clear N6)
        refine Frozen.mk ?_
        refine LCg.CompSrc.range (n := (1 + r6).toNat) (by rfl) (by k_asm) (by k_asm) (by assumption) (small_one (by decide) (by decide) (by omega) (by omega)) (by rw [rangeSize_one]; split <;> omega) (by rw [sizeLine_eq]; omega) ?_
        intro g'
        refine m_restJ (DrJ w dk c [_, _, _, _, _] (led hD5 ++ tl5) CodesN) ⟨dl6, rfl, D6, o61, o62, [], rfl, .nil, fun _ h => nomatch h⟩ ?_ ?_
        · rintro j v I2 oI2 C2 oC2 DD2 m₂ ys nx h7 tk7 E' hj hP ⟨dl7, rfl, D7, o71, o72, hB⟩ hC hx F7 N7 off7 ne7
          dsimp only [List.cons_append, List.nil_append] at N7
          (try k_fold)
          walk_at "mine steps"
          refine Frozen.mk ?_
          refine draw_use (pre := [_, _, _, _, _, _, _, _]) rfl D7 ne (by decide) (by decide) BB (by k_asm) N7 XX TT rfl (by decide) (by decide) (off3_dl off7 o71) o72 ?_
          intro h8 tk8 dl8 r8 t8 F8 N8 D8 o81 o82 r80 r81
          walk_at "mine steps"
          exact LCg.CompEnd.intro (by k_asm) N8 _ (fun p hp => hp) (off3_turn off7 o81) trivial ⟨dl8, rfl, D8, fun q hq => o81 q (.tail _ (.tail _ (.tail _ hq))), o82, hB.snoc _ (by assumption)⟩
        · rintro ys nx ⟨dl7, rfl, D7, o71, o72, ns, hns, hi7, hc7⟩
          have nsp : NoSplit := ⟨trivial⟩
          (try k_fold)
          walk_at "mine steps"
          refine Frozen.mk ?_
          rename News _ _ _ ((_, listOf ys.toArray _) :: _) => NN
          have LDt := TDat.law
          have hn6 : ns.length ≤ 6 := by omega
          have hn0 : 0 < ns.length := by omega
          refine lp_rangeS (n := ns.length) rfl (by assumption) (small_one (by decide) (by decide) (by omega) (by omega)) (by rw [rangeSize_one]; split <;> omega) (by k_asm) NN ?_ ?_
          · intro k tk0 h9 tk9 I9 oI9 hk hI9 F9 N9
            clear NN
            (try k_fold)
            walk_at "mine gen"
            walk_at "mine steps"
            refine Frozen.mk ?_
            have k0 : (0 : Int) ≤ (k : Int) := by omega
            have k1 : (k : Int) < ns.length := by omega
            rename News _ _ _ ((I9, oI9) :: _) => NN
            refine Callee.ext_at rfl (c_companyA w _ S5 _ TE (LDt.keeps (led_stays NN (by walk_at "mine sub"))) _ ys ns ⟨News.isList NN (by k_mem), hi7, hn6, hn0, hc7⟩ (k : Int) _ k0 k1) BB (by k_asm) NN XX TT rfl (by decide) (by decide) ?_
            clear NN
            rintro v' h10 tk10 F10 N10 - rfl
            (try k_fold)
            walk_at "mine steps"
            refine Frozen.mk ?_
            rename News _ _ _ ((I9, oI9) :: _) => NN
            refine Callee.ext_at rfl (c_lawcomp w _ _ ys ns ⟨News.isList NN (by k_mem), hi7, hn6, hn0, hc7⟩ (k : Int) _ k0 k1) BB (by k_asm) NN XX TT rfl (by decide) (by decide) ?_
            clear NN
            rintro v' h11 tk11 F11 N11 - rfl
            (try k_fold)
            walk_at "mine steps"
            · refine Frozen.mk ?_
              rename News _ _ _ (_ :: (I9, oI9) :: _) => NN
              refine Callee.ext_at rfl (c_mayjoinA w _ S5 _ TE (LDt.keeps (led_stays NN (by walk_at "mine sub"))) _ ys ns ⟨News.isList NN (by k_mem), hi7, hn6, hn0, hc7⟩ (k : Int) _ k0 k1) BB (by k_asm) NN XX TT rfl (by decide) (by decide) ?_
              clear NN
              rintro v' h12 tk12 F12 N12 - rfl
              (try k_fold)
              walk_at "mine steps"
              refine Frozen.mk ?_
              rename News _ _ _ (_ :: (I9, oI9) :: _) => NN
              refine Callee.ext_at rfl (c_lawjoin w _ _ ys ns ⟨News.isList NN (by k_mem), hi7, hn6, hn0, hc7⟩ (k : Int) _ k0 k1) BB (by k_asm) NN XX TT rfl (by decide) (by decide) ?_
              clear NN
              rintro v' h13 tk13 F13 N13 - rfl
              (try k_fold)
              walk_at "mine steps"
              exact rs_end (by k_asm) (by k_asm) (fun p hp => .tail _ hp) hI9
            · exact rs_end (by k_asm) (by k_asm) (fun p hp => .tail _ hp) hI9
          · intro u9 h9 tk9 F9 N9
            clear NN
            (try k_fold)
            walk_at "mine steps"
            refine Frozen.mk ?_
            rename News _ _ _ ((_, listOf ys.toArray _) :: _) => NN
            have ho := fun (o1 : Obj) => turn_own (o1 := o1) (o2 := LCg.lst ys) (by assumption : _ ∧ _ ∧ _ ∧ _ ∧ _ ∧ _ ∧ AllLt _ (dl7 ++ (led hD5 ++ tl5))).2.2.2.2.2.2 (off1_mem (by assumption : LCg.Off1 _ ((I, oI) :: _))) hI To1 o72
            refine CalleeN.fuseS (own := _ :: _ :: _ :: _ :: _ :: _ :: _ :: dl7) rfl (c_labelwords w _ hD5 S5 S.d TE TDat (led_stays NN (by walk_at "mine sub")) _ _ _ ys ns ⟨News.isList NN (by k_mem), hi7, hn6, hn0, hc7⟩ tl5 TTab To3 (ho oI _ (.tail _ (.head _))) ⟨b0, b1, b2, b3, b4⟩ _ _ _ _ _ _ _ (NN _ (.tail _ (.tail _ (.tail _ (.head _))))).1 (NN _ (.tail _ (.tail _ (.tail _ (.tail _ (.head _)))))).1 (ho oI _ (.tail _ (.tail _ (.tail _ (.head _))))) (ho oI _ (.tail _ (.tail _ (.tail _ (.tail _ (.head _)))))) (r == 1)) BB (by k_asm) NN XX TT rfl (by decide) (by decide) (ho _) ?_
            clear NN
            intro h10 tk10 hD1 tl1 S1 rr W xs cW F10 N10 o10 TL1 ot1 e1 DM okW
            have hx9 : xs.length ≤ 100 := by rw [okW.len]; exact words_len _ _ _ hn6
            dsimp only [List.cons_append, List.nil_append] at N10
            (try k_fold)
            walk_at "mine steps"
            refine Frozen.mk ?_
            rename News _ _ _ ((_, PySem.W.listOf xs.toArray _) :: _) => NN
            refine Callee.strs rfl ((c_lawwords w _ _ _ ys ns ⟨News.isList NN (by k_mem), hi7, hn6, hn0, hc7⟩ ⟨b0, b1, b2, b3, b4⟩ (News.isList NN (by k_mem)) (r == 1)).to (d' := 9) fun v s' x => x.to fun v h' ⟨xs, hN, ok⟩ => ⟨xs, hN, ok.are⟩) BB (by k_asm) NN XX TT rfl (by decide) (by decide) ?_
            clear NN
            intro h12 tk12 W3 xs3 c3 F12 N12 hs3 nW3
            have ok3 : StrsOk xs3 _ := ⟨hs3, okW.ok⟩
            clear hs3
            (try k_fold)
            walk_at "mine steps"
            exact turn_end (by k_asm) (by k_asm) (fun p hp => .tail _ (.tail _ (.tail _ (.tail _ (.tail _ hp))))) hI o71 o10 D7 TL1 ot1 e1 DM
      · rintro m9 nx9 h9 tk9 ⟨dl9, hD9, tl9, S9, rfl, TS, T9, B9, W9, C9, rfl⟩ F9 N9
        dsimp only [List.cons_append, List.nil_append] at N9
        obtain ⟨TD, To1, To2, TDat, TE, TTab, To3⟩ := TS
        have PK := Keep5.mk F9 N9 TT BB XX
        clear F9 N9 TT BB XX NF M LD habs o31 o32 o41 o42 r0 r1 DD3 DD4 DD hbs hR eD DO offC offT offD hscr
        (repeat (rename IsRange _ _ _ _ _ _ _ _ => z; clear z))
        (repeat (rename Fr _ _ _ _ => z; clear z))
        (repeat (rename News _ _ _ _ => z; clear z))
        (repeat (rename Top _ _ _ _ _ _ => z; clear z))
        (repeat (rename Below _ _ _ _ => z; clear z))
        (repeat (rename Frag.In _ _ => z; clear z))
        (repeat (rename LCg.Off1 _ _ => z; clear z))
        (repeat (rename @LT.lt Nat _ _ _ ∧ _ => z; clear z))
        (repeat (rename @LT.lt Nat _ _ _ => z; clear z))
        (repeat (rename (∀ p ∈ (_ : List (Addr × Obj)), @LT.lt Nat _ p.1 _) => z; clear z))
        (repeat (rename (∀ (b : Addr) (o : Obj), Heap.get? _ b = some o → _) => z; clear z))
        (repeat (rename Obj.data _ = Data.cell (bindC _ _ _ _) => z; clear z))
        (repeat (rename List.length _ = 5 => z; clear z))
        obtain ⟨F9, N9, TT, BB, XX⟩ := PK
        (try dsimp only)
        iterate 4 (first | walk1 | (dsimp only; walk1))
        exact hQ_k _ _ ⟨goodW_bool (by k_asm) HG (fun _ => rfl) (by first | rfl | with_unfolding_all rfl | kernel_rfl), tab_grown TTab N9 (fun p hp => .tail _ (.tail _ (.tail _ (.tail _ (List.mem_append_right _ (List.mem_append_right _ hp))))))⟩


end Mine
set_option maxHeartbeats 4000000 in
theorem PySem.Challenge.cw_on0379_01_holds : PySem.Challenge.rw_on0379_01.Holds := by
  exact Mine.final
namespace Mine


end Mine
