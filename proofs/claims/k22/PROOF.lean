import PyProof.Rows.All
import Wide.All
import OpenK.AllK
import Wide.FinOn
import HandS.ForMost
import HandS.ForExc
import HandS.Wide
import HandS.Flow
import HandS.IsInst
import HandS.EndBits
import HandS.Lambda
import HandS.TupAny
import HandS.More
import HandS.StrMore
import PyProof.ReprRoads
import HandS.Style
import HandS.Dict
import HandS.Codes
import PyProof.Rows.StrMul
import HandS.Property
import HandS.ClsMeth
import HandS.MakeKwOnly
import HandS.Star
import KE.KOpsOwn
import PyProof.InstEq
import PyProof.Rows.RegFStrParts
import KE.RegKIsAll
import HandS.RaiseMore
import KE.GoesMore
import HandS.DictComp
import HandS.WordsDict
import HandS.FStr
import KE.GoesEnum
import HandS.Strs
import PyProof.ReprNest
import KE.KExcSuper
import HandS.ExcInit
import HandS.EndTab
import HandS.ExcField
import HandS.HotCalls
import HandS.Conv
import HandS.NoneIn
import HandS.Head0
import HandS.Head1
import HandS.Head2
import HandS.HeadHook1
import HandS.HeadHook2
import HandS.TupMul
import PyProof.FactsAll.int_1
import PyProof.Rows.FactsN_abs
import PyProof.FactsAll.int_3
import PyProof.FactsAll.int_5
import HandS.Iter
import PySem.Challenge.RW_waitshares_k22_facts_refused
set_option Elab.async false
set_option linter.all false
set_option maxRecDepth 100000
set_option maxHeartbeats 4000000
/-! DL1: data, memory, the judgements -/
namespace DL
open PySem PySem.Spec PyProof.Rows L2

/-! ### heaps -/
def Ex (H H' : Hp) : Prop := ∀ a o, H a = some o → H' a = some o
theorem Ex.refl (H : Hp) : Ex H H := fun _ _ h => h
theorem Ex.trans {H H1 H2 : Hp} (a : Ex H H1) (b : Ex H1 H2) : Ex H H2 := fun x o h => b x o (a x o h)
theorem Ex.new {H : Hp} {p : Addr} {o : HO} (h : H p = none) : Ex H (upd H p o) := fun a u e => by
  rw [upd_ne (ne_of_none e h)]
  exact e
/-- an object that F does not know may change in H -/
theorem Ex.mut {F H : Hp} {p : Addr} {o : HO} (e : Ex F H) (h : F p = none) : Ex F (upd H p o) := fun a u ha => by
  rw [upd_ne (ne_of_none ha h)]
  exact e a u ha
/-- the same object on both sides -/
theorem Ex.both {F H : Hp} {p : Addr} {o : HO} (e : Ex F H) : Ex (upd F p o) (upd H p o) := fun a u ha => by
  by_cases h : a = p
  · subst h
    rw [upd_same] at ha ⊢
    exact ha
  · rw [upd_ne h] at ha ⊢
    exact e a u ha
theorem Ex.back {H H' : Hp} {p : Addr} (e : Ex H H') (h : H' p = none) : H p = none := by
  cases h1 : H p with
  | none => rfl
  | some o =>
    rw [e p o h1] at h
    cases h
theorem ex_rd {H H' : Hp} {a : Addr} {u : HO} (e : Ex H H') (h : Rd H a u) : Rd H' a u := by
  rcases h with h | ⟨o, h⟩
  · exact Or.inl (e a _ h)
  · exact Or.inr ⟨o, e a _ h⟩
theorem ex_l {K : PySem.W.Frag} {H H' : Hp} {a : Addr} {xs : List V} (e : Ex H H') (h : SqL K H a xs) : SqL K H' a xs := by
  rcases h with h | h
  · exact Or.inl (ex_rd e h)
  · exact Or.inr h
theorem ex_t {K : PySem.W.Frag} {H H' : Hp} {a : Addr} {xs : List V} (e : Ex H H') (h : SqT K H a xs) : SqT K H' a xs := by
  rcases h with h | h
  · exact Or.inl (ex_rd e h)
  · exact Or.inr h

/-! ### data -/
inductive Dat where
  | non | bl (b : Bool) | int (i : Int) | str (x : Str) | ty (n : String) | ptr (a : Addr)
  | scr (ns : List Int)
  | lst (ds : List Dat) | tup (ds : List Dat)
  | obj (C : Addr) (ns : List Str) (ds : List Dat)
  | dct (ks : List Key) (ds : List Dat)
  | tpx (ds : List Dat)
  | dcf (ks : List Key) (ds : List Dat)
  | lam (cl : List (Str × Addr)) (q : Str) (pa : Arguments) (b : Expr) (sc : Scope)

/-- a cell's object as it stands -/
def CelO (c : Addr) (o : Obj) : HO := .ext fun h => h.get? c = some o
/-- a lambda's function -/
abbrev lamFn (cl : List (Str × Addr)) (q : Str) (pa : Arguments) (b : Expr) (sc : Scope) (pm cdv ct dv : Value) : FuncData :=
  { name := "<lambda>", qualname := q, params := pa, body := .expr b, scope := sc, globals := mainGlobals, closure := cl, defaults := dv, kwdefaults := .none, doc := .none, pyModule := pm, annotations := none, code := cdv, closureTuple := ct, builtins := builtinsNs }
def LamO (f : Addr) (cl : List (Str × Addr)) (q : Str) (pa : Arguments) (b : Expr) (sc : Scope) (c : Addr) (dv : Value) : HO := .ext fun h => ∃ pm ct : Value, h.get? f = some { cls := .type "function", data := .func (lamFn cl q pa b sc pm (.ref c) ct dv) }
/-- a lambda's defaults -/
def DflO (F : Hp) (n : Nat) (dv : Value) : Prop := (n = 0 ∧ dv = .none) ∨ (n ≠ 0 ∧ ∃ (t : Addr) (xs : List V), dv = .ref t ∧ xs.length = n ∧ F t = some (.tup xs))
theorem DflO.mono {F F' : Hp} (e : Ex F F') {n : Nat} {dv : Value} (h : DflO F n dv) : DflO F' n dv := by
  rcases h with h | ⟨h1, t, xs, h2, h3, h4⟩
  · exact .inl h
  · exact .inr ⟨h1, t, xs, h2, h3, e _ _ h4⟩

mutual
def Rep (K : PySem.W.Frag) (F : Hp) : Dat → V → Prop
  | .non, v => v = .non
  | .bl b, v => v = .bl b
  | .int i, v => v = .int i
  | .str x, v => v = .str x
  | .ty n, v => v = .ty n
  | .ptr a, v => v = .ref a
  | .scr ns, v => ∃ p, v = .ref p ∧ SqL K F p (ns.map V.int)
  | .lst ds, v => ∃ p xs, v = .ref p ∧ F p = some (.lst xs) ∧ Reps K F ds xs
  | .tup ds, v => ∃ p xs, v = .ref p ∧ SqT K F p xs ∧ Reps K F ds xs
  | .obj C ns ds, v => ∃ p dx xs, v = .ref p ∧ F p = some (.ins C dx (ns.zip xs)) ∧ ns.length = xs.length ∧ Reps K F ds xs
  | .dct ks ds, v => ∃ p xs, v = .ref p ∧ F p = some (.dK (ks.zip xs)) ∧ ks.length = xs.length ∧ Reps K F ds xs
  | .tpx ds, v => ∃ p xs o, v = .ref p ∧ F p = some (.frz o (.tup xs)) ∧ o.cls = .type "tuple" ∧ o.dict = none ∧ Reps K F ds xs
  | .dcf ks ds, v => ∃ p xs o, v = .ref p ∧ F p = some (.frz o (.dK (ks.zip xs))) ∧ ks.length = xs.length ∧ Reps K F ds xs
  | .lam cl q pa b sc, v => ∃ f c dv, v = .ref f ∧ F f = some (LamO f cl q pa b sc c dv) ∧ F c = some (LamX.CodeO c q) ∧ DflO F pa.args.length dv
def Reps (K : PySem.W.Frag) (F : Hp) : List Dat → List V → Prop
  | [], xs => xs = []
  | d :: ds, xs => ∃ x r, xs = x :: r ∧ Rep K F d x ∧ Reps K F ds r
end

mutual
theorem Rep.mono {K : PySem.W.Frag} {F F' : Hp} (e : Ex F F') : ∀ {d : Dat} {v : V}, Rep K F d v → Rep K F' d v
  | .non, _, h => h
  | .bl _, _, h => h
  | .int _, _, h => h
  | .str _, _, h => h
  | .ty _, _, h => h
  | .ptr _, _, h => h
  | .scr ns, v, h => by
    obtain ⟨p, h1, h2⟩ := h
    exact ⟨p, h1, ex_l e h2⟩
  | .lst ds, v, h => by
    obtain ⟨p, xs, h1, h2, h3⟩ := h
    exact ⟨p, xs, h1, e _ _ h2, Reps.mono e h3⟩
  | .tup ds, v, h => by
    obtain ⟨p, xs, h1, h2, h3⟩ := h
    exact ⟨p, xs, h1, ex_t e h2, Reps.mono e h3⟩
  | .obj C ns ds, v, h => by
    obtain ⟨p, dx, xs, h1, h2, h3, h4⟩ := h
    exact ⟨p, dx, xs, h1, e _ _ h2, h3, Reps.mono e h4⟩
  | .dct ks ds, v, h => by
    obtain ⟨p, xs, h1, h2, h3, h4⟩ := h
    exact ⟨p, xs, h1, e _ _ h2, h3, Reps.mono e h4⟩
  | .tpx ds, v, h => by
    obtain ⟨p, xs, o, h1, h2, h3, h4, h5⟩ := h
    exact ⟨p, xs, o, h1, e _ _ h2, h3, h4, Reps.mono e h5⟩
  | .dcf ks ds, v, h => by
    obtain ⟨p, xs, o, h1, h2, h3, h4⟩ := h
    exact ⟨p, xs, o, h1, e _ _ h2, h3, Reps.mono e h4⟩
  | .lam cl q pa b sc, v, h => by
    obtain ⟨f, c, dv, h1, h2, h3, h4⟩ := h
    exact ⟨f, c, dv, h1, e _ _ h2, e _ _ h3, h4.mono e⟩
theorem Reps.mono {K : PySem.W.Frag} {F F' : Hp} (e : Ex F F') : ∀ {ds : List Dat} {vs : List V}, Reps K F ds vs → Reps K F' ds vs
  | [], _, h => h
  | d :: ds, vs, h => by
    obtain ⟨x, r, h1, h2, h3⟩ := h
    exact ⟨x, r, h1, Rep.mono e h2, Reps.mono e h3⟩
end
section
variable {K : PySem.W.Frag} {F : Hp}
theorem Reps.nil : Reps K F [] [] := rfl
theorem Reps.cons {d : Dat} {ds : List Dat} {x : V} {xs : List V} (h : Rep K F d x) (t : Reps K F ds xs) : Reps K F (d :: ds) (x :: xs) := ⟨x, xs, rfl, h, t⟩
theorem Reps.length : ∀ {ds : List Dat} {xs : List V}, Reps K F ds xs → ds.length = xs.length
  | [], _, h => by
    cases h
    rfl
  | d :: ds, xs, h => by
    obtain ⟨x, r, rfl, _, h3⟩ := h
    rw [List.length_cons, List.length_cons, Reps.length h3]
theorem Reps.app : ∀ {ds es : List Dat} {xs ys : List V}, Reps K F ds xs → Reps K F es ys → Reps K F (ds ++ es) (xs ++ ys)
  | [], _, _, _, h, h' => by
    cases h
    exact h'
  | d :: ds, _, xs, _, h, h' => by
    obtain ⟨x, r, rfl, h2, h3⟩ := h
    exact ⟨x, _, rfl, h2, Reps.app h3 h'⟩
theorem Reps.get : ∀ {ds : List Dat} {xs : List V} {i : Nat} {d : Dat}, Reps K F ds xs → ds[i]? = some d → ∃ x, xs[i]? = some x ∧ Rep K F d x
  | [], _, _, _, _, h => by simp at h
  | d :: ds, xs, 0, d2, h, e => by
    obtain ⟨x, r, rfl, h2, h3⟩ := h
    have e' : d = d2 := by simpa using e
    subst e'
    exact ⟨x, rfl, h2⟩
  | d :: ds, xs, i + 1, d2, h, e => by
    obtain ⟨x, r, rfl, h2, h3⟩ := h
    have e' : ds[i]? = some d2 := by simpa using e
    obtain ⟨y, h4, h5⟩ := Reps.get h3 e'
    exact ⟨y, by simpa using h4, h5⟩
theorem Reps.get' : ∀ {ds : List Dat} {xs : List V} {i : Nat} {x : V}, Reps K F ds xs → xs[i]? = some x → ∃ d, ds[i]? = some d ∧ Rep K F d x
  | [], _, _, _, h, e => by
    cases h
    simp at e
  | d :: ds, xs, 0, x2, h, e => by
    obtain ⟨x, r, rfl, h2, h3⟩ := h
    have e' : x = x2 := by simpa using e
    subst e'
    exact ⟨d, rfl, h2⟩
  | d :: ds, xs, i + 1, x2, h, e => by
    obtain ⟨x, r, rfl, h2, h3⟩ := h
    have e' : r[i]? = some x2 := by simpa using e
    obtain ⟨y, h4, h5⟩ := Reps.get' h3 e'
    exact ⟨y, by simpa using h4, h5⟩
theorem Reps.take : ∀ {ds : List Dat} {xs : List V} (n : Nat), Reps K F ds xs → Reps K F (ds.take n) (xs.take n)
  | _, _, 0, _ => by
    rw [List.take_zero, List.take_zero]
    exact Reps.nil
  | [], _, n + 1, h => by
    cases h
    exact Reps.nil
  | d :: ds, _, n + 1, h => by
    obtain ⟨x, r, rfl, h2, h3⟩ := h
    exact ⟨x, _, rfl, h2, Reps.take n h3⟩
theorem Reps.drop : ∀ {ds : List Dat} {xs : List V} (n : Nat), Reps K F ds xs → Reps K F (ds.drop n) (xs.drop n)
  | _, _, 0, h => h
  | [], _, n + 1, h => by
    cases h
    exact Reps.nil
  | d :: ds, _, n + 1, h => by
    obtain ⟨x, r, rfl, h2, h3⟩ := h
    exact Reps.drop n h3
theorem Reps.set : ∀ {ds : List Dat} {xs : List V} (i : Nat) {d : Dat} {x : V}, Reps K F ds xs → Rep K F d x → Reps K F (ds.set i d) (xs.set i x)
  | [], _, _, _, _, h, _ => by
    cases h
    exact Reps.nil
  | _ :: _, _, 0, _, _, h, r => by
    obtain ⟨y, t, rfl, h2, h3⟩ := h
    exact ⟨_, _, rfl, r, h3⟩
  | _ :: _, _, i + 1, _, _, h, r => by
    obtain ⟨y, t, rfl, h2, h3⟩ := h
    exact ⟨_, _, rfl, h2, Reps.set i h3 r⟩
theorem Reps.ints : ∀ {ns : List Int} {xs : List V}, Reps K F (ns.map Dat.int) xs → xs = ns.map V.int
  | [], _, h => h
  | n :: ns, _, h => by
    obtain ⟨x, r, rfl, h2, h3⟩ := h
    cases h2
    rw [Reps.ints h3]
    rfl
theorem Reps.ofInts : ∀ (ns : List Int), Reps K F (ns.map Dat.int) (ns.map V.int)
  | [] => rfl
  | n :: ns => ⟨_, _, rfl, rfl, Reps.ofInts ns⟩
/-- a field among zipped names -/
theorem Reps.lookup : ∀ {ns : List Str} {ds : List Dat} {xs : List V} {f : Str} {d : Dat}, Reps K F ds xs → (ns.zip ds).lookup f = some d → ∃ x, (ns.zip xs).lookup f = some x ∧ Rep K F d x
  | [], _, _, _, _, _, e => by simp at e
  | _ :: _, [], _, _, _, _, e => by simp at e
  | n :: ns, d :: ds, xs, f, _, h, e => by
    obtain ⟨x, r, rfl, h2, h3⟩ := h
    rw [List.zip_cons_cons, List.lookup_cons] at e ⊢
    cases hb : f == n with
    | true =>
      rw [hb] at e
      cases e
      exact ⟨x, rfl, h2⟩
    | false =>
      rw [hb] at e
      exact Reps.lookup h3 e
theorem Reps.lookup_none : ∀ {ns : List Str} {ds : List Dat} {xs : List V} {f : Str}, Reps K F ds xs → (ns.zip ds).lookup f = none → (ns.zip xs).lookup f = none
  | [], _, _, _, _, _ => by simp
  | _ :: _, [], _, _, h, _ => by
    cases h
    simp
  | n :: ns, d :: ds, xs, f, h, e => by
    obtain ⟨x, r, rfl, h2, h3⟩ := h
    rw [List.zip_cons_cons, List.lookup_cons] at e ⊢
    cases hb : f == n with
    | true =>
      rw [hb] at e
      cases e
    | false =>
      rw [hb] at e
      exact Reps.lookup_none h3 e
end

/-! ### mutable cells -/
inductive MO where
  | lst (ds : List Dat)
  | obj (C : Addr) (ns : List Str) (ds : List Dat)
  | dct (ks : List Key) (ds : List Dat)
  | cel (c : Addr) (o : Obj) (d : Dat)
  | tbl (q : Str)
abbrev Mem := Addr → Option MO
def updM (M : Mem) (a : Addr) (o : MO) : Mem := fun b => if b = a then some o else M b
def delM (M : Mem) (a : Addr) : Mem := fun b => if b = a then none else M b
theorem updM_same {M : Mem} {a : Addr} {o : MO} : updM M a o a = some o := by
  unfold updM
  rw [if_pos rfl]
theorem updM_ne {M : Mem} {a b : Addr} {o : MO} (h : b ≠ a) : updM M a o b = M b := by
  unfold updM
  rw [if_neg h]
theorem updM_updM {M : Mem} {a : Addr} {o u : MO} : updM (updM M a o) a u = updM M a u := by
  funext b
  unfold updM
  split <;> rfl
theorem delM_same {M : Mem} {a : Addr} : delM M a a = none := if_pos rfl
theorem delM_ne {M : Mem} {a b : Addr} (h : b ≠ a) : delM M a b = M b := if_neg h
theorem delM_updM {M : Mem} {a : Addr} {o : MO} (h : M a = none) : delM (updM M a o) a = M := by
  funext b
  unfold delM updM
  by_cases e : b = a
  · subst e
    rw [if_pos rfl, h]
  · rw [if_neg e, if_neg e]
def RepM (K : PySem.W.Frag) (F : Hp) : MO → HO → Prop
  | .lst ds, u => ∃ xs, u = .lst xs ∧ Reps K F ds xs
  | .obj C ns ds, u => ∃ dx xs, u = .ins C dx (ns.zip xs) ∧ ns.length = xs.length ∧ Reps K F ds xs
  | .dct ks ds, u => ∃ xs, u = .dK (ks.zip xs) ∧ ks.length = xs.length ∧ Reps K F ds xs
  | .cel c o d, u => u = CelO c o ∧ ∃ x v, o.data = .cell (some x) ∧ RelV v x ∧ Rep K F d v
  | .tbl q, u => ∃ ps : Array Value, u = .tbl ps ∧ TriplesOk ps.toList ∧ ∀ (pos : Pos) (cv : Value), codeAmong pos ps.toList = some cv → ∃ c, cv = .ref c ∧ F c = some (LamX.CodeO c q)
theorem RepM.mono {K : PySem.W.Frag} {F F' : Hp} (e : Ex F F') {o : MO} {u : HO} (h : RepM K F o u) : RepM K F' o u := by
  cases o with
  | lst ds =>
    obtain ⟨xs, h1, h2⟩ := h
    exact ⟨xs, h1, h2.mono e⟩
  | obj C ns ds =>
    obtain ⟨dx, xs, h1, h2, h3⟩ := h
    exact ⟨dx, xs, h1, h2, h3.mono e⟩
  | dct ks ds =>
    obtain ⟨xs, h1, h2, h3⟩ := h
    exact ⟨xs, h1, h2, h3.mono e⟩
  | cel c o d =>
    obtain ⟨h1, x, v, h2, h3, h4⟩ := h
    exact ⟨h1, x, v, h2, h3, h4.mono e⟩
  | tbl q =>
    obtain ⟨ps, h1, h2, h3⟩ := h
    refine ⟨ps, h1, h2, fun pos cv hc => ?_⟩
    obtain ⟨c, h4, h5⟩ := h3 pos cv hc
    exact ⟨c, h4, e _ _ h5⟩

/-- F: what never changes any more; M: the cells that may change -/
structure OkM (K : PySem.W.Frag) (F0 F : Hp) (M : Mem) (H : Hp) : Prop where
  base : Ex F0 F
  sub : Ex F H
  mem : ∀ p o, M p = some o → F p = none ∧ ∃ u, H p = some u ∧ RepM K F o u
section
variable {K : PySem.W.Frag} {F0 F : Hp} {M : Mem} {H : Hp}
theorem OkM.freeM (o : OkM K F0 F M H) {p : Addr} (h : H p = none) : M p = none := by
  cases e : M p with
  | none => rfl
  | some u =>
    obtain ⟨_, v, h2, _⟩ := o.mem p u e
    rw [h2] at h
    cases h
theorem OkM.freeF (o : OkM K F0 F M H) {p : Addr} (h : H p = none) : F p = none := o.sub.back h
/-- a new object that never changes -/
theorem OkM.new (o : OkM K F0 F M H) {p : Addr} {u : HO} (h : H p = none) : OkM K F0 (upd F p u) M (upd H p u) := by
  have hF := o.freeF h
  refine ⟨o.base.trans (Ex.new hF), o.sub.both, fun q w hq => ?_⟩
  obtain ⟨h1, v, h2, h3⟩ := o.mem q w hq
  have hn : q ≠ p := ne_of_none h2 h
  exact ⟨by rw [upd_ne hn]; exact h1, v, by rw [upd_ne hn]; exact h2, h3.mono (Ex.new hF)⟩
/-- a new cell -/
theorem OkM.cell (o : OkM K F0 F M H) {p : Addr} {w : MO} {u : HO} (h : H p = none) (r : RepM K F w u) : OkM K F0 F (updM M p w) (upd H p u) := by
  have hF := o.freeF h
  refine ⟨o.base, o.sub.mut hF, fun q x hq => ?_⟩
  by_cases e : q = p
  · subst e
    rw [updM_same] at hq
    cases hq
    exact ⟨hF, u, upd_same, r⟩
  · rw [updM_ne e] at hq
    obtain ⟨h1, v, h2, h3⟩ := o.mem q x hq
    exact ⟨h1, v, by rw [upd_ne e]; exact h2, h3⟩
/-- a cell written -/
theorem OkM.put (o : OkM K F0 F M H) {p : Addr} {w w' : MO} {u : HO} (h : M p = some w) (r : RepM K F w' u) : OkM K F0 F (updM M p w') (upd H p u) := by
  have hF := (o.mem p w h).1
  refine ⟨o.base, o.sub.mut hF, fun q x hq => ?_⟩
  by_cases e : q = p
  · subst e
    rw [updM_same] at hq
    cases hq
    exact ⟨hF, u, upd_same, r⟩
  · rw [updM_ne e] at hq
    obtain ⟨h1, v, h2, h3⟩ := o.mem q x hq
    exact ⟨h1, v, by rw [upd_ne e]; exact h2, h3⟩
/-- a cell that will not change any more -/
theorem OkM.freeze (o : OkM K F0 F M H) {p : Addr} {w : MO} {u : HO} (h : M p = some w) (hu : H p = some u) : OkM K F0 (upd F p u) (delM M p) H := by
  have hF := (o.mem p w h).1
  refine ⟨o.base.trans (Ex.new hF), fun a x ha => ?_, fun q x hq => ?_⟩
  · by_cases e : a = p
    · subst e
      rw [upd_same] at ha
      rw [hu]
      exact ha
    · rw [upd_ne e] at ha
      exact o.sub a x ha
  · by_cases e : q = p
    · subst e
      rw [delM_same] at hq
      cases hq
    · rw [delM_ne e] at hq
      obtain ⟨h1, v, h2, h3⟩ := o.mem q x hq
      exact ⟨by rw [upd_ne e]; exact h1, v, h2, h3.mono (Ex.new hF)⟩
/-- cells forgotten -/
theorem OkM.weak (o : OkM K F0 F M H) {M' : Mem} (h : ∀ p u, M' p = some u → M p = some u) : OkM K F0 F M' H := ⟨o.base, o.sub, fun p u hp => o.mem p u (h p u hp)⟩
end

abbrev DEnv := List (Option Dat)
structure OkL (K : PySem.W.Frag) (F : Hp) (ρ : DEnv) (σ : L2.St) : Prop where
  len : ρ.length = σ.length
  loc : ∀ (i : Nat) (d : Dat), ρ[i]? = some (some d) → ∃ v, σ[i]? = some (some v) ∧ Rep K F d v
section
variable {K : PySem.W.Frag} {F F' : Hp} {ρ : DEnv} {σ : L2.St}
theorem OkL.mono (e : Ex F F') (o : OkL K F ρ σ) : OkL K F' ρ σ := ⟨o.len, fun i d h => by
  obtain ⟨v, h1, h2⟩ := o.loc i d h
  exact ⟨v, h1, h2.mono e⟩⟩
theorem OkL.set (o : OkL K F ρ σ) (i : Nat) {d : Dat} {v : V} (r : Rep K F d v) : OkL K F (ρ.set i (some d)) (σ.set i (some v)) := by
  refine ⟨by rw [List.length_set, List.length_set, o.len], fun j e h => ?_⟩
  by_cases hj : i = j
  · subst hj
    by_cases hi : i < ρ.length
    · rw [List.getElem?_set_self hi] at h
      cases h
      exact ⟨v, List.getElem?_set_self (by rw [← o.len]; exact hi), r⟩
    · rw [List.getElem?_eq_none (by rw [List.length_set]; omega)] at h
      cases h
  · rw [List.getElem?_set_ne hj] at h ⊢
    exact o.loc j e h
/-- forgetting -/
theorem OkL.weak {ρ' : DEnv} (o : OkL K F ρ σ) (hl : ρ'.length = ρ.length) (h : ∀ (i : Nat) (d : Dat), ρ'[i]? = some (some d) → ρ[i]? = some (some d)) : OkL K F ρ' σ := ⟨hl.trans o.len, fun i d e => o.loc i d (h i d e)⟩
end

abbrev DK := Dat → Mem → Prop
/-! ### the judgements -/
def kV (K : PySem.W.Frag) (F0 F : Hp) (q : DK) (Q : VK) : Prop := ∀ F' H' v d M', Ex F F' → OkM K F0 F' M' H' → Rep K F' d v → q d M' → Q v H'
def tD (K : PySem.W.Frag) (F0 : Hp) (ρ : DEnv) (M : Mem) (q : DK) : TE := fun σ H Q => ∃ F, OkM K F0 F M H ∧ OkL K F ρ σ ∧ kV K F0 F q Q
/-- the expression e, at the values ρ and the cells M, gives a d and cells M' of which q holds -/
def DE (X : Cx) (F0 : Hp) (e : Expr) (ρ : DEnv) (M : Mem) (q : DK) : Prop := PE X e (tD X.K F0 ρ M q)
def tU (X : Cx) (F0 : Hp) (e : Expr) : TE := fun σ H Q => ∃ ρ M q, DE X F0 e ρ M q ∧ tD X.K F0 ρ M q σ H Q
def kB (K : PySem.W.Frag) (F0 F : Hp) (q : Bool → Mem → Prop) (Q : Bool → Hp → Prop) : Prop := ∀ F' H' b M', Ex F F' → OkM K F0 F' M' H' → q b M' → Q b H'
def tDT (K : PySem.W.Frag) (F0 : Hp) (ρ : DEnv) (M : Mem) (q : Bool → Mem → Prop) : TT := fun σ H Q => ∃ F, OkM K F0 F M H ∧ OkL K F ρ σ ∧ kB K F0 F q Q
def DT (X : Cx) (F0 : Hp) (e : Expr) (ρ : DEnv) (M : Mem) (q : Bool → Mem → Prop) : Prop := PT X e (tDT X.K F0 ρ M q)
def DW (X : Cx) (F0 : Hp) (e : Expr) (ρ : DEnv) (M : Mem) (q : Bool → Mem → Prop) : Prop := PW X e (tDT X.K F0 ρ M q)
def tUT (X : Cx) (F0 : Hp) (e : Expr) : TT := fun σ H Q => ∃ ρ M q, DT X F0 e ρ M q ∧ tDT X.K F0 ρ M q σ H Q
def tUW (X : Cx) (F0 : Hp) (e : Expr) : TT := fun σ H Q => ∃ ρ M q, DW X F0 e ρ M q ∧ tDT X.K F0 ρ M q σ H Q
def kA (K : PySem.W.Frag) (F0 F : Hp) (q : List Dat → Mem → Prop) (Q : List V → Hp → Prop) : Prop := ∀ F' H' vs ds M', Ex F F' → OkM K F0 F' M' H' → Reps K F' ds vs → q ds M' → Q vs H'
def tDA (K : PySem.W.Frag) (F0 : Hp) (ρ : DEnv) (M : Mem) (q : List Dat → Mem → Prop) : TA := fun σ H Q => ∃ F, OkM K F0 F M H ∧ OkL K F ρ σ ∧ kA K F0 F q Q
def DA (X : Cx) (F0 : Hp) (es : List Expr) (ρ : DEnv) (M : Mem) (q : List Dat → Mem → Prop) : Prop := PA X es (tDA X.K F0 ρ M q)
def tUA (X : Cx) (F0 : Hp) (es : List Expr) : TA := fun σ H Q => ∃ ρ M q, DA X F0 es ρ M q ∧ tDA X.K F0 ρ M q σ H Q

structure DEnds where
  nx : DEnv → Mem → Prop
  rt : DK
  bk : DEnv → Mem → Prop := fun _ _ => False
  ct : DEnv → Mem → Prop := fun _ _ => False
def kS (K : PySem.W.Frag) (F0 F : Hp) (q : DEnv → Mem → Prop) (Q : L2.St → Hp → Prop) : Prop := ∀ F' H' σ' ρ' M', Ex F F' → OkM K F0 F' M' H' → OkL K F' ρ' σ' → q ρ' M' → Q σ' H'
structure KEnds (K : PySem.W.Frag) (F0 F : Hp) (D : DEnds) (E : Ends) : Prop where
  nx : kS K F0 F D.nx E.nx
  rt : kV K F0 F D.rt E.rt
  bk : kS K F0 F D.bk E.bk
  ct : kS K F0 F D.ct E.ct
def tDS (K : PySem.W.Frag) (F0 : Hp) (ρ : DEnv) (M : Mem) (D : DEnds) : TS := fun E σ H => ∃ F, OkM K F0 F M H ∧ OkL K F ρ σ ∧ KEnds K F0 F D E
def DS (X : Cx) (F0 : Hp) (st : Stmt) (ρ : DEnv) (M : Mem) (D : DEnds) : Prop := PS X st (tDS X.K F0 ρ M D)
def DSs (X : Cx) (F0 : Hp) (st : List Stmt) (ρ : DEnv) (M : Mem) (D : DEnds) : Prop := PSs X st (tDS X.K F0 ρ M D)
def tUS (X : Cx) (F0 : Hp) (st : Stmt) : TS := fun E σ H => ∃ ρ M D, DS X F0 st ρ M D ∧ tDS X.K F0 ρ M D E σ H
def tUSs (X : Cx) (F0 : Hp) (st : List Stmt) : TS := fun E σ H => ∃ ρ M D, DSs X F0 st ρ M D ∧ tDS X.K F0 ρ M D E σ H

section
variable {K : PySem.W.Frag} {F0 F F' : Hp}
theorem kV.mono (e : Ex F F') {q : DK} {Q : VK} (h : kV K F0 F q Q) : kV K F0 F' q Q := fun F2 H' v d M' e2 => h F2 H' v d M' (e.trans e2)
theorem kB.mono (e : Ex F F') {q : Bool → Mem → Prop} {Q : Bool → Hp → Prop} (h : kB K F0 F q Q) : kB K F0 F' q Q := fun F2 H' b M' e2 => h F2 H' b M' (e.trans e2)
theorem kA.mono (e : Ex F F') {q : List Dat → Mem → Prop} {Q : List V → Hp → Prop} (h : kA K F0 F q Q) : kA K F0 F' q Q := fun F2 H' v d M' e2 => h F2 H' v d M' (e.trans e2)
theorem kS.mono (e : Ex F F') {q : DEnv → Mem → Prop} {Q : L2.St → Hp → Prop} (h : kS K F0 F q Q) : kS K F0 F' q Q := fun F2 H' s r M' e2 => h F2 H' s r M' (e.trans e2)
theorem KEnds.mono (e : Ex F F') {D : DEnds} {E : Ends} (h : KEnds K F0 F D E) : KEnds K F0 F' D E := ⟨h.nx.mono e, h.rt.mono e, h.bk.mono e, h.ct.mono e⟩
end
section
variable {X : Cx} {F0 : Hp} {e : Expr} {es : List Expr} {st : Stmt} {sts : List Stmt}
theorem PE.wk {t t' : TE} (h : PE X e t) (w : ∀ σ H Q, t' σ H Q → t σ H Q) : PE X e t' := ⟨fun pins s σ H Q I q => h.run pins s σ H Q I (w σ H Q q)⟩
theorem PT.wk {t t' : TT} (h : PT X e t) (w : ∀ σ H Q, t' σ H Q → t σ H Q) : PT X e t' := ⟨fun pins s σ H Q I q => h.run pins s σ H Q I (w σ H Q q)⟩
theorem PW.wk {t t' : TT} (h : PW X e t) (w : ∀ σ H Q, t' σ H Q → t σ H Q) : PW X e t' := ⟨fun wh pins s σ H Q I q => h.run wh pins s σ H Q I (w σ H Q q)⟩
theorem PA.wk {t t' : TA} (h : PA X es t) (w : ∀ σ H Q, t' σ H Q → t σ H Q) : PA X es t' := ⟨fun pos pins s σ H Q I q => h.run pos pins s σ H Q I (w σ H Q q)⟩
theorem PS.wk {t t' : TS} (h : PS X st t) (w : ∀ D σ H, t' D σ H → t D σ H) : PS X st t' := ⟨fun pins s σ H D I q => h.run pins s σ H D I (w D σ H q)⟩
theorem PSs.wk {t t' : TS} (h : PSs X sts t) (w : ∀ D σ H, t' D σ H → t D σ H) : PSs X sts t' := ⟨fun pins s σ H D I q => h.run pins s σ H D I (w D σ H q)⟩
theorem uE : PE X e (tU X F0 e) := ⟨fun pins s σ H Q I ⟨_, _, _, h, t⟩ => (show PE X e _ from h).run pins s σ H Q I t⟩
theorem uT : PT X e (tUT X F0 e) := ⟨fun pins s σ H Q I ⟨_, _, _, h, t⟩ => (show PT X e _ from h).run pins s σ H Q I t⟩
theorem uW : PW X e (tUW X F0 e) := ⟨fun wh pins s σ H Q I ⟨_, _, _, h, t⟩ => (show PW X e _ from h).run wh pins s σ H Q I t⟩
theorem uA : PA X es (tUA X F0 es) := ⟨fun pos pins s σ H Q I ⟨_, _, _, h, t⟩ => (show PA X es _ from h).run pos pins s σ H Q I t⟩
theorem uS : PS X st (tUS X F0 st) := ⟨fun pins s σ H D I ⟨_, _, _, h, t⟩ => (show PS X st _ from h).run pins s σ H D I t⟩
theorem uSs : PSs X sts (tUSs X F0 sts) := ⟨fun pins s σ H D I ⟨_, _, _, h, t⟩ => (show PSs X sts _ from h).run pins s σ H D I t⟩
/-- into a part -/
theorem tU.go {ρ : DEnv} {M : Mem} {q : DK} {σ : L2.St} {H F : Hp} {Q : VK} (h : DE X F0 e ρ M q) (om : OkM X.K F0 F M H) (ol : OkL X.K F ρ σ) (k : kV X.K F0 F q Q) : tU X F0 e σ H Q := ⟨ρ, M, q, h, F, om, ol, k⟩
theorem tUT.go {ρ : DEnv} {M : Mem} {q : Bool → Mem → Prop} {σ : L2.St} {H F : Hp} {Q : Bool → Hp → Prop} (h : DT X F0 e ρ M q) (om : OkM X.K F0 F M H) (ol : OkL X.K F ρ σ) (k : kB X.K F0 F q Q) : tUT X F0 e σ H Q := ⟨ρ, M, q, h, F, om, ol, k⟩
theorem tUW.go {ρ : DEnv} {M : Mem} {q : Bool → Mem → Prop} {σ : L2.St} {H F : Hp} {Q : Bool → Hp → Prop} (h : DW X F0 e ρ M q) (om : OkM X.K F0 F M H) (ol : OkL X.K F ρ σ) (k : kB X.K F0 F q Q) : tUW X F0 e σ H Q := ⟨ρ, M, q, h, F, om, ol, k⟩
theorem tUA.go {ρ : DEnv} {M : Mem} {q : List Dat → Mem → Prop} {σ : L2.St} {H F : Hp} {Q : List V → Hp → Prop} (h : DA X F0 es ρ M q) (om : OkM X.K F0 F M H) (ol : OkL X.K F ρ σ) (k : kA X.K F0 F q Q) : tUA X F0 es σ H Q := ⟨ρ, M, q, h, F, om, ol, k⟩
theorem tUS.go {ρ : DEnv} {M : Mem} {D : DEnds} {σ : L2.St} {H F : Hp} {E : Ends} (h : DS X F0 st ρ M D) (om : OkM X.K F0 F M H) (ol : OkL X.K F ρ σ) (k : KEnds X.K F0 F D E) : tUS X F0 st E σ H := ⟨ρ, M, D, h, F, om, ol, k⟩
theorem tUSs.go {ρ : DEnv} {M : Mem} {D : DEnds} {σ : L2.St} {H F : Hp} {E : Ends} (h : DSs X F0 sts ρ M D) (om : OkM X.K F0 F M H) (ol : OkL X.K F ρ σ) (k : KEnds X.K F0 F D E) : tUSs X F0 sts E σ H := ⟨ρ, M, D, h, F, om, ol, k⟩
end
end DL
/-! DL2: defs and calls -/
namespace DL
open PySem PySem.Spec PyProof.Rows L2

/-- an exception of an own class: the class, its attributes -/
structure Exn where
  C : Addr
  ns : List Str
  ds : List Dat
def RepX (K : PySem.W.Frag) (F : Hp) (e : Exn) (cls : Value) (da : Option Addr) : Prop :=
  cls = .ref e.C ∧ ∃ d xs, da = some d ∧ F d = some (.xd (e.ns.zip xs)) ∧ e.ns.length = xs.length ∧ Reps K F e.ds xs
theorem RepX.mono {K : PySem.W.Frag} {F F' : Hp} (x : Ex F F') {e : Exn} {cls : Value} {da : Option Addr} (h : RepX K F e cls da) : RepX K F' e cls da := by
  obtain ⟨h1, d, xs, h2, h3, h4, h5⟩ := h
  exact ⟨h1, d, xs, h2, x _ _ h3, h4, h5.mono x⟩
abbrev XQ := Exn → Mem → Prop
abbrev DSpec := List Dat → Mem → DK → XQ → Prop
def kX (K : PySem.W.Frag) (F0 F : Hp) (x : XQ) (E : XK) : Prop := ∀ F' H' M' e cls da, Ex F F' → OkM K F0 F' M' H' → RepX K F' e cls da → x e M' → E cls da H'
/-- a def's promise over data -/
def LSp (K : PySem.W.Frag) (S : DSpec) : Sp := fun vs H Q E => ∃ F ds M q x, OkM K F F M H ∧ Reps K F ds vs ∧ S ds M q x ∧ kV K F F q Q ∧ kX K F F x E
/-- the wish of exceptions in a context -/
def wX (K : PySem.W.Frag) (F0 : Hp) (x : XQ) : XK := fun cls da H' => ∃ F' M' e, OkM K F0 F' M' H' ∧ RepX K F' e cls da ∧ x e M'
def XOk (X : Cx) (F0 : Hp) (x : XQ) : Prop := Takes X (fun cls da _ H' => wX X.K F0 x cls da H')
theorem XOk.none {X : Cx} {F0 : Hp} : XOk X F0 (fun _ _ => False) := (takes0 (X := X)).imp fun _ _ _ _ h => by
  obtain ⟨_, _, _, _, _, h⟩ := h
  exact h
theorem XOk.imp {X : Cx} {F0 : Hp} {x x' : XQ} (h : XOk X F0 x) (w : ∀ e M, x' e M → x e M) : XOk X F0 x' := Takes.imp h fun _ _ _ _ ⟨F', M', e, h1, h2, h3⟩ => ⟨F', M', e, h1, h2, w _ _ h3⟩

/-! ### defs where nothing that shows itself is under way (guards) -/
structure FnG (P : Program) (w : World) (K : PySem.W.Frag) (mg : Str → Option Value) (base : Heap) (k : Nat) (f : Addr) (fd : FuncData) (ps : List Str) (sp : Sp) : Prop where
  len : ∀ vs H Q E, sp vs H Q E → vs.length = ps.length
  go : ∀ (A : Around) (outer : List Env) (s : Shared) (H : Hp) (args : Args) (us : List Value) (vs : List V) (Q : VK) (E : XK),
    A.guards = some [] → Room k A → Env0 P w K mg base A outer s H → BindsTo s fd args (ps.zip us) → Vals vs us →
    sp vs H Q E → codeAny (model P w) A (.call (.ref f) args) (CR (L2.CX P w) outer P w H s Q E) s
theorem FnG.mono {P : Program} {w : World} {K : PySem.W.Frag} {mg : Str → Option Value} {base : Heap} {j k : Nat} {f : Addr} {fd : FuncData} {ps : List Str} {sp : Sp} (F : FnG P w K mg base j f fd ps sp) (h : j ≤ k) : FnG P w K mg base k f fd ps sp :=
  ⟨F.len, fun A o s H a us vs Q E g r => F.go A o s H a us vs Q E g (r.mono h)⟩
theorem FnG.imp {P : Program} {w : World} {K : PySem.W.Frag} {mg : Str → Option Value} {base : Heap} {k : Nat} {f : Addr} {fd : FuncData} {ps : List Str} {sp sp' : Sp} (F : FnG P w K mg base k f fd ps sp) (h : ∀ vs H Q E, sp' vs H Q E → sp vs H Q E) : FnG P w K mg base k f fd ps sp' :=
  ⟨fun vs H Q E q => F.len vs H Q E (h _ _ _ _ q), fun A o s H a us vs Q E g r e b v q => F.go A o s H a us vs Q E g r e b v (h _ _ _ _ q)⟩
theorem FnG.ofOk {P : Program} {w : World} {K : PySem.W.Frag} {mg : Str → Option Value} {base : Heap} {k : Nat} {f : Addr} {fd : FuncData} {ps : List Str} {sp : Sp} (F : FnOk P w K mg base (L2.CX P w) k f fd ps sp) : FnG P w K mg base k f fd ps sp :=
  ⟨F.len, fun A o s H a us vs Q E _ r e b v q => F.run A o s H a us vs Q E r e b v q⟩

/-- a def of the text by its body -/
theorem fnG_of {P : Program} {w : World} {K : PySem.W.Frag} {mg : Str → Option Value} {base : Heap} {k : Nat} {f : Addr} {name qual : Str} {st : Stmt} {fd : FuncData} {N ps : List Str} {sp : Sp}
    {dV kV' doc pm cdv ct oc : Value} {an od : Option Addr} {osl : Array (Option Value)} (hfd : fd = PySem.W.fnOf name qual (defArgs st) (defBody st) (defScope st) dV kV' doc pm an cdv ct)
    (lk : K.lookup f = some ⟨oc, od, .func fd, osl⟩) (hcd : PySem.W.codeIn K cdv qual = true) (S : FnScope N ps (defScope st)) (len : ∀ vs H Q E, sp vs H Q E → vs.length = ps.length)
    (body : ∀ (A : Around) (outer : List Env) (s : Shared) (H : Hp) (vs : List V) (Q : VK) (E : XK), A.guards = some [] → Room k (A.deeper (envOfC qual (defScope st) s.heap.objs.size f cdv)) → sp vs H Q E →
      ∃ t, PSs (cxOf (L2.CX P w) P w K mg base N qual (defScope st) f cdv A outer s H E) (defBody st) t ∧ t { nx := fun _ H' => Q .non H', rt := Q } (start N vs) H) :
    FnG P w K mg base (k + 1) f fd ps sp := by
  subst hfd
  refine ⟨len, ?_⟩
  intro A outer s H args us vs Q E hgd room env hbind rel hS
  have hlen := len _ _ _ _ hS
  have inK : K.In s.heap := env.mod.kin.keeps (fun b o e => (env.bs b o e).1)
  have noLim : s.heap.NoLimit := env.mod.nolimit.keeps (fun b o e => (env.bs b o e).1)
  have places : ∀ y ∈ ps.zip us, (defScope st).names.lookup y.1 = some .local ∨
      ((defScope st).names.lookup y.1 = some .cell ∧ ((cellsFrom (s.heap.objs.size + 1) (defScope st).names []).lookup y.1).isSome = true) := by
    rintro ⟨n, v⟩ hy
    rcases S.par n (List.of_mem_zip hy).1 with z | z
    · exact .inl z
    · exact .inr ⟨z, PySem.W.cellsFrom_some _ _ _ (.inl z)⟩
  refine codeAny_call_function room.depth (inK _ _ lk) rfl S.co S.gen rfl (PySem.W.codeRec_of inK hcd) (hbind _ _ _ _ (wpAny_newFunctionEnv_cells S.kind places ?_))
  intro env' eq s1 inCall
  subst eq
  refine ⟨noLim.keeps inCall.toInCall.keep, codeAny_func ?_⟩
  obtain ⟨t, ht, ready⟩ := body A outer s H vs Q E hgd (room.deeper _) hS
  have I0 := inv_start (CX := L2.CX P w) (P := P) (w := w) (mg := mg) (E := E) S room.hd env hlen rel inCall
  refine wpAny_mono (ht.run [] s1 (start N vs) H _ I0 ready) ?_ (fun _ _ z => z)
  intro fl s2 out
  cases fl with
  | next =>
    obtain ⟨_, H2, J, q⟩ := out
    exact ⟨V.non, H2, J.os, J.bare, J.base, J.hok, rfl, q⟩
  | ret u =>
    obtain ⟨v, _, H2, J, r, q⟩ := out
    exact ⟨v, H2, J.os, J.bare, J.base, J.hok, r, q⟩
  | brk =>
    obtain ⟨_, _, _, q⟩ := out
    cases q
  | cont =>
    obtain ⟨_, _, _, q⟩ := out
    cases q

/-! ### how arguments come to parameters -/
def pick {α : Type} (z : α) (l : List α) (perm : List Nat) : List α := perm.map fun i => l.getD i z
theorem pick_vals {xs : List V} {us : List Value} (h : Vals xs us) (perm : List Nat) : Vals (pick V.non xs perm) (pick Value.none us perm) := by
  unfold pick
  induction perm with
  | nil => exact .nil
  | cons i r ih =>
    refine .cons ?_ ih
    show L2.RelV (xs.getD i V.non) (us.getD i Value.none)
    rw [List.getD_eq_getElem?_getD, List.getD_eq_getElem?_getD]
    cases e : xs[i]? with
    | some x =>
      obtain ⟨u, h1, h2⟩ := h.get e
      rw [h1]
      exact h2
    | none =>
      rw [h.none_of e]
      rfl
theorem pick_reps {K : PySem.W.Frag} {F : Hp} {ds : List Dat} {xs : List V} (h : Reps K F ds xs) (perm : List Nat) : Reps K F (pick Dat.non ds perm) (pick V.non xs perm) := by
  unfold pick
  induction perm with
  | nil => exact Reps.nil
  | cons i r ih =>
    refine Reps.cons ?_ ih
    show Rep K F (ds.getD i Dat.non) (xs.getD i V.non)
    rw [List.getD_eq_getElem?_getD, List.getD_eq_getElem?_getD]
    cases e : ds[i]? with
    | some x =>
      obtain ⟨u, h1, h2⟩ := h.get e
      rw [h1]
      exact h2
    | none =>
      have h3 : xs[i]? = none := List.getElem?_eq_none (by rw [← h.length]; exact List.getElem?_eq_none_iff.mp e)
      rw [h3]
      rfl
/-- n positional arguments, the keywords ks, then the defaults dd -/
structure Bnd (K : PySem.W.Frag) (fd : FuncData) (ps : List Str) (n : Nat) (ks : List Str) (dd : List Dat) (perm : List Nat) : Prop where
  to : ∃ (dv : List V) (du : List Value), Vals dv du ∧ (∀ F, Reps K F dd dv) ∧ ∀ (s : Shared) (us ws : List Value), K.In s.heap → us.length = n → ws.length = ks.length →
    BindsTo s fd ⟨us, ks.zip ws⟩ (ps.zip (pick Value.none (us ++ ws ++ du) perm))

/-- a call of the value f with data -/
def DRun (X : Cx) (F0 : Hp) (f : Value) (ks : List Str) (ds zs : List Dat) (M : Mem) (q : DK) : Prop :=
  ∀ (pins : List (Addr × Obj)) (σ : L2.St) (H : Hp) (s : Shared) (us ws : List Value) (F : Hp) (vs zvs : List V) (Q : VK), Inv X pins σ H s → OkM X.K F0 F M H → Reps X.K F ds vs → Reps X.K F zs zvs → Vals vs us → Vals zvs ws →
    kV X.K F0 F q Q → wpAny (model X.prog X.w) X.A (call f us (ks.zip ws)) (EP X pins σ Q) X.xe s
theorem kV.entry {K : PySem.W.Frag} {F0 F : Hp} {M : Mem} {H : Hp} {q : DK} {Q : VK} (o : OkM K F0 F M H) (h : kV K F0 F q Q) : kV K F F q Q := fun F' H' v d M' e o' r hq => h F' H' v d M' e ⟨o.base.trans e, o'.sub, o'.mem⟩ r hq
theorem OkM.entry {K : PySem.W.Frag} {F0 F : Hp} {M : Mem} {H : Hp} (o : OkM K F0 F M H) : OkM K F F M H := ⟨Ex.refl F, o.sub, o.mem⟩
theorem kX.entry {K : PySem.W.Frag} {F0 F : Hp} {M : Mem} {H : Hp} {x : XQ} (o : OkM K F0 F M H) : kX K F F x (wX K F0 x) := fun F' H' M' e cls da h1 h2 h3 h4 => ⟨F', M', e, ⟨o.base.trans h1, h2.sub, h2.mem⟩, h3, h4⟩
theorem reps_pos {K : PySem.W.Frag} {F : Hp} {ds zs dd : List Dat} {vs zvs dv : List V} (h1 : Reps K F ds vs) (h2 : Reps K F zs zvs) (h3 : Reps K F dd dv) : Reps K F (ds ++ zs ++ dd) (vs ++ zvs ++ dv) := (h1.app h2).app h3
section
variable {X : Cx} {F0 : Hp} {k : Nat} {f : Addr} {fd : FuncData} {ps ks : List Str} {S : DSpec} {n : Nat} {dd : List Dat} {perm : List Nat} {ds zs : List Dat} {M : Mem} {q : DK} {x : XQ}
/-- a def runs -/
theorem drun_g (F : FnG X.prog X.w X.K X.mg X.base k f fd ps (LSp X.K S)) (hr : Room k X.A) (hg : X.A.guards = some []) (tk : XOk X F0 x) (b : Bnd X.K fd ps n ks dd perm) (h1 : ds.length = n) (h2 : zs.length = ks.length)
    (h : S (pick Dat.non (ds ++ zs ++ dd) perm) M q x) : DRun X F0 (.ref f) ks ds zs M q := by
  intro pins σ H s us ws Fz vs zvs Q I om rd rz vd vz kq
  obtain ⟨dv, du, hv, hD, hb⟩ := b.to
  have rel : Vals (pick V.non (vs ++ zvs ++ dv) perm) (pick Value.none (us ++ ws ++ du) perm) := pick_vals ((vd.append vz).append hv) perm
  have rep := pick_reps (reps_pos rd rz (hD Fz)) perm
  have sp : LSp X.K S (pick V.non (vs ++ zvs ++ dv) perm) H Q (wX X.K F0 x) := ⟨Fz, _, M, q, x, om.entry, rep, h, kq.entry om, kX.entry om⟩
  have bt := hb s us ws I.kIn (by rw [← vd.length, ← rd.length, h1]) (by rw [← vz.length, ← rz.length, h2])
  refine wpAny_call (codeAny_mono (F.go X.A X.stack s H _ _ _ Q _ hg hr I.env0 bt rel sp) ?_)
  intro r s2 out
  cases r with
  | error e => exact passes_call tk (fun _ _ _ _ z => z) pins σ H s e s2 I out
  | ok fl =>
    cases fl with
    | ret u => exact I.after out
    | next => exact out.elim
    | brk => exact out.elim
    | cont => exact out.elim
theorem drun_f (F : FnOk X.prog X.w X.K X.mg X.base (L2.CX X.prog X.w) k f fd ps (LSp X.K S)) (hr : Room k X.A) (tk : XOk X F0 x) (b : Bnd X.K fd ps n ks dd perm) (h1 : ds.length = n) (h2 : zs.length = ks.length)
    (h : S (pick Dat.non (ds ++ zs ++ dd) perm) M q x) : DRun X F0 (.ref f) ks ds zs M q := by
  intro pins σ H s us ws Fz vs zvs Q I om rd rz vd vz kq
  obtain ⟨dv, du, hv, hD, hb⟩ := b.to
  have rel : Vals (pick V.non (vs ++ zvs ++ dv) perm) (pick Value.none (us ++ ws ++ du) perm) := pick_vals ((vd.append vz).append hv) perm
  have rep := pick_reps (reps_pos rd rz (hD Fz)) perm
  have sp : LSp X.K S (pick V.non (vs ++ zvs ++ dv) perm) H Q (wX X.K F0 x) := ⟨Fz, _, M, q, x, om.entry, rep, h, kq.entry om, kX.entry om⟩
  have bt := hb s us ws I.kIn (by rw [← vd.length, ← rd.length, h1]) (by rw [← vz.length, ← rz.length, h2])
  refine wpAny_call (codeAny_mono (F.run X.A X.stack s H _ _ _ Q _ hr I.env0 bt rel sp) ?_)
  intro r s2 out
  cases r with
  | error e => exact passes_call tk (fun _ _ _ _ z => z) pins σ H s e s2 I out
  | ok fl =>
    cases fl with
    | ret u => exact I.after out
    | next => exact out.elim
    | brk => exact out.elim
    | cont => exact out.elim
end

/-! ### keywords' values -/
def DKw (X : Cx) (F0 : Hp) (kws : List Keyword) (ρ : DEnv) (M : Mem) (q : List Dat → Mem → Prop) : Prop := PK X kws (tDA X.K F0 ρ M q)
def tUK (X : Cx) (F0 : Hp) (kws : List Keyword) : TA := fun σ H Q => ∃ ρ M q, DKw X F0 kws ρ M q ∧ tDA X.K F0 ρ M q σ H Q
theorem uK {X : Cx} {F0 : Hp} {kws : List Keyword} : PK X kws (tUK X F0 kws) := ⟨fun pos pins s σ H Q I ⟨_, _, _, h, t⟩ => (show PK X kws _ from h).run pos pins s σ H Q I t⟩
theorem tUK.go {X : Cx} {F0 : Hp} {kws : List Keyword} {ρ : DEnv} {M : Mem} {q : List Dat → Mem → Prop} {σ : L2.St} {H F : Hp} {Q : List V → Hp → Prop} (h : DKw X F0 kws ρ M q) (om : OkM X.K F0 F M H) (ol : OkL X.K F ρ σ) (k : kA X.K F0 F q Q) : tUK X F0 kws σ H Q := ⟨ρ, M, q, h, F, om, ol, k⟩
section
variable {X : Cx} {F0 : Hp} {ρ : DEnv} {M : Mem}
theorem da_nil {q : List Dat → Mem → Prop} (h : q [] M) : DA X F0 [] ρ M q := PA.wk pa_nil fun σ H Q ⟨F, om, ol, k⟩ => k F H [] [] M (Ex.refl F) om Reps.nil h
theorem da_cons {e : Expr} {es : List Expr} {q : List Dat → Mem → Prop} (h : DE X F0 e ρ M fun d M1 => DA X F0 es ρ M1 fun ds M2 => q (d :: ds) M2) (hs : starEach (e :: es) X.env = (false, eval e X.env) :: starEach es X.env := by rfl) : DA X F0 (e :: es) ρ M q :=
  PA.wk (pa_cons (uE (F0 := F0)) (uA (F0 := F0)) hs) fun σ H Q ⟨F, om, ol, k⟩ => tU.go h om ol fun F1 H1 v d M1 e1 om1 r1 h1 =>
    tUA.go h1 om1 (ol.mono e1) fun F2 H2 vs ds M2 e2 om2 r2 h2 => k F2 H2 _ _ M2 (e1.trans e2) om2 (Reps.cons (r1.mono e2) r2) h2
theorem dk_nil {q : List Dat → Mem → Prop} (h : q [] M) : DKw X F0 [] ρ M q := ⟨fun pos pins s σ H Q I ⟨F, om, ol, k⟩ => (pk_nil (X := X)).run pos pins s σ H Q I (k F H [] [] M (Ex.refl F) om Reps.nil h)⟩
theorem dk_cons {e : Expr} {kws : List Keyword} {nm : Option Str} {kp : Pos} {q : List Dat → Mem → Prop} (h : DE X F0 e ρ M fun d M1 => DKw X F0 kws ρ M1 fun ds M2 => q (d :: ds) M2) : DKw X F0 (⟨nm, e, kp⟩ :: kws) ρ M q :=
  ⟨fun pos pins s σ H Q I ⟨F, om, ol, k⟩ => (pk_cons (uE (F0 := F0)) (uK (F0 := F0))).run pos pins s σ H Q I (tU.go h om ol fun F1 H1 v d M1 e1 om1 r1 h1 =>
    tUK.go h1 om1 (ol.mono e1) fun F2 H2 vs ds M2 e2 om2 r2 h2 => k F2 H2 _ _ M2 (e1.trans e2) om2 (Reps.cons (r1.mono e2) r2) h2)⟩
end

/-! ### f(..), f a name of the module -/
section
variable {X : Cx} {F0 : Hp} {ρ : DEnv} {M : Mem} {q : DK} {x : Str} {u : Value} {p pos : Pos} {e : Expr} {es : List Expr} {kws : List Keyword} {ks : List Str}
theorem EP.of {pins : List (Addr × Obj)} {σ : L2.St} {Q Q' : VK} {v : Value} {s : Shared} (h : EP X pins σ Q v s) (w : ∀ y H, Q y H → Q' y H) : EP X pins σ Q' v s := by
  obtain ⟨y, H, I, r, z⟩ := h
  exact ⟨y, H, I, r, w y H z⟩
/-- only positional arguments -/
theorem de_call (hg : Gl X x) (hm : X.mg x = some u) (hk : PySem.W.keepIn X.K u = true) (h : DA X F0 (e :: es) ρ M fun ds M1 => DRun X F0 u [] ds [] M1 q)
    (hdb : (x == ("__debug__" : Str)) = false := by decide) (he : starEach (e :: es) X.env = (false, eval e X.env) :: starEach es X.env := by rfl) (hpl : (backTo pos (starEach es X.env)).any (·.1) = false := by rfl) :
    DE X F0 (.Call (.Name x p) (e :: es) [] pos) ρ M q := by
  refine ⟨fun pins s σ H Q I ⟨F, om, ol, kq⟩ => wpAny_Call_Name_kw (ld_glob I hg hm ?_ hdb)⟩
  refine PySem.W.callWith_K (h₀ := X.base) I.ok.mod.kin hk ?_ he hpl
  have ha := (uA (X := X) (F0 := F0) (es := e :: es)).run pos pins s σ H (fun vs H1 => ∃ F1 ds M1, Ex F F1 ∧ OkM X.K F0 F1 M1 H1 ∧ Reps X.K F1 ds vs ∧ DRun X F0 u [] ds [] M1 q) I
    (tUA.go h om ol fun F1 H1 vs ds M1 e1 om1 r1 h1 => ⟨F1, ds, M1, e1, om1, r1, h1⟩)
  refine thn ha fun us s1 ⟨vs, H1, I1, rv, F1, ds, M1, e1, om1, r1, h1⟩ => ⟨I1.kIn, ?_⟩
  exact h1 pins σ H1 s1 us [] F1 vs [] Q I1 om1 r1 Reps.nil rv .nil (kq.mono e1)
theorem de_call0 (hg : Gl X x) (hm : X.mg x = some u) (hk : PySem.W.keepIn X.K u = true) (h : DRun X F0 u [] [] [] M q)
    (hdb : (x == ("__debug__" : Str)) = false := by decide) : DE X F0 (.Call (.Name x p) [] [] pos) ρ M q := by
  refine ⟨fun pins s σ H Q I ⟨F, om, ol, kq⟩ => wpAny_Call_Name_kw (ld_glob I hg hm ?_ hdb)⟩
  exact PySem.W.callWith_K0 I.kIn hk (h pins σ H s [] [] F [] [] Q I om Reps.nil Reps.nil .nil .nil kq)
/-- with keywords -/
theorem de_callK (hg : Gl X x) (hm : X.mg x = some u) (hk : PySem.W.keepIn X.K u = true) (hks : (backToKw pos (keywordEach kws X.env)).filterMap (·.1) = ks)
    (h : DA X F0 (e :: es) ρ M fun ds M1 => DKw X F0 kws ρ M1 fun zs M2 => DRun X F0 u ks ds zs M2 q)
    (hall : (backToKw pos (keywordEach kws X.env)).all (·.1.isSome) = true := by rfl) (hdb : (x == ("__debug__" : Str)) = false := by decide) (he : starEach (e :: es) X.env = (false, eval e X.env) :: starEach es X.env := by rfl)
    (hpl : ((backTo pos (starEach (e :: es) X.env)).any (·.1) || (backToKw pos (keywordEach kws X.env)).any (·.1.isNone)) = false := by rfl) :
    DE X F0 (.Call (.Name x p) (e :: es) kws pos) ρ M q := by
  refine ⟨fun pins s σ H Q I ⟨F, om, ol, kq⟩ => wpAny_Call_Name_kw (ld_glob I hg hm ?_ hdb)⟩
  have ha := (uA (X := X) (F0 := F0) (es := e :: es)).run pos pins s σ H (fun vs H1 => ∃ F1 ds M1, Ex F F1 ∧ OkM X.K F0 F1 M1 H1 ∧ Reps X.K F1 ds vs ∧ DKw X F0 kws ρ M1 fun zs M2 => DRun X F0 u ks ds zs M2 q) I
    (tUA.go h om ol fun F1 H1 vs ds M1 e1 om1 r1 h1 => ⟨F1, ds, M1, e1, om1, r1, h1⟩)
  refine PySem.W.callWith_KW (h₀ := X.base) I.ok.mod.kin hk hall (thn ha fun us s1 ⟨vs, H1, I1, rv, F1, ds, M1, e1, om1, r1, h1⟩ => ?_) hpl he
  have hb := (uK (X := X) (F0 := F0) (kws := kws)).run pos pins s1 σ H1 (fun zv H2 => ∃ F2 zs M2, Ex F1 F2 ∧ OkM X.K F0 F2 M2 H2 ∧ Reps X.K F2 zs zv ∧ DRun X F0 u ks ds zs M2 q) I1
    (tUK.go h1 om1 (ol.mono e1) fun F2 H2 zv zs M2 e2 om2 r2 h2 => ⟨F2, zs, M2, e2, om2, r2, h2⟩)
  refine thn hb fun ws s2 ⟨zv, H2, I2, rz, F2, zs, M2, e2, om2, r2, h2⟩ => ⟨I2.kIn, ?_⟩
  rw [hks]
  exact h2 pins σ H2 s2 us ws F2 vs zv Q I2 om2 (r1.mono e2) r2 rv rz (kq.mono (e1.trans e2))
/-- keywords alone -/
theorem de_callK0 (hg : Gl X x) (hm : X.mg x = some u) (hk : PySem.W.keepIn X.K u = true) (hks : (backToKw pos (keywordEach kws X.env)).filterMap (·.1) = ks)
    (h : DKw X F0 kws ρ M fun zs M2 => DRun X F0 u ks [] zs M2 q)
    (hall : (backToKw pos (keywordEach kws X.env)).all (·.1.isSome) = true := by rfl) (hdb : (x == ("__debug__" : Str)) = false := by decide)
    (hpl : ((backTo pos (starEach [] X.env)).any (·.1) || (backToKw pos (keywordEach kws X.env)).any (·.1.isNone)) = false := by rfl) :
    DE X F0 (.Call (.Name x p) [] kws pos) ρ M q := by
  refine ⟨fun pins s σ H Q I ⟨F, om, ol, kq⟩ => wpAny_Call_Name_kw (ld_glob I hg hm ?_ hdb)⟩
  have hb := (uK (X := X) (F0 := F0) (kws := kws)).run pos pins s σ H (fun zv H2 => ∃ F2 zs M2, Ex F F2 ∧ OkM X.K F0 F2 M2 H2 ∧ Reps X.K F2 zs zv ∧ DRun X F0 u ks [] zs M2 q) I
    (tUK.go h om ol fun F2 H2 zv zs M2 e2 om2 r2 h2 => ⟨F2, zs, M2, e2, om2, r2, h2⟩)
  refine PySem.W.callWith_KW0 (h₀ := X.base) I.ok.mod.kin hk hall (thn hb fun ws s2 ⟨zv, H2, I2, rz, F2, zs, M2, e2, om2, r2, h2⟩ => ⟨I2.kIn, ?_⟩) hpl
  rw [hks]
  exact h2 pins σ H2 s2 [] ws F2 [] zv Q I2 om2 Reps.nil r2 .nil rz (kq.mono e2)
end
end DL
/-! DL3: expressions -/
namespace DL
open PySem PySem.Spec PyProof.Rows L2

section
variable {K : PySem.W.Frag} {F : Hp}
theorem rep_non : Rep K F .non .non := rfl
theorem rep_bl {b : Bool} : Rep K F (.bl b) (.bl b) := rfl
theorem rep_int {i : Int} : Rep K F (.int i) (.int i) := rfl
theorem rep_str {x : Str} : Rep K F (.str x) (.str x) := rfl
theorem rep_ty {n : String} : Rep K F (.ty n) (.ty n) := rfl
theorem rep_ptr {a : Addr} : Rep K F (.ptr a) (.ref a) := rfl
theorem rep_lst {p : Addr} {xs : List V} {ds : List Dat} (h : F p = some (.lst xs)) (r : Reps K F ds xs) : Rep K F (.lst ds) (.ref p) := ⟨p, xs, rfl, h, r⟩
theorem rep_tup {p : Addr} {xs : List V} {ds : List Dat} (h : SqT K F p xs) (r : Reps K F ds xs) : Rep K F (.tup ds) (.ref p) := ⟨p, xs, rfl, h, r⟩
theorem repM_lst {ds : List Dat} {vs : List V} (r : Reps K F ds vs) : RepM K F (.lst ds) (.lst vs) := ⟨vs, rfl, r⟩
end
section
variable {K : PySem.W.Frag} {F0 F : Hp} {M : Mem} {H : Hp} {q : DK} {Q : VK}
theorem kV.fin (k : kV K F0 F q Q) (om : OkM K F0 F M H) {v : V} {d : Dat} (r : Rep K F d v) (h : q d M) : Q v H := k F H v d M (Ex.refl F) om r h
/-- a new tuple -/
theorem kV.tup (k : kV K F0 F q Q) (om : OkM K F0 F M H) {ds : List Dat} {vs : List V} (r : Reps K F ds vs) (h : q (.tup ds) M) {p : Addr} (hp : H p = none) : Q (.ref p) (upd H p (.tup vs)) :=
  k (upd F p (.tup vs)) _ _ (.tup ds) M (Ex.new (om.freeF hp)) (om.new hp) ⟨p, vs, rfl, SqT.of upd_same, r.mono (Ex.new (om.freeF hp))⟩ h
/-- a new list that will not change -/
theorem kV.lst (k : kV K F0 F q Q) (om : OkM K F0 F M H) {ds : List Dat} {vs : List V} (r : Reps K F ds vs) (h : q (.lst ds) M) {p : Addr} (hp : H p = none) : Q (.ref p) (upd H p (.lst vs)) :=
  k (upd F p (.lst vs)) _ _ (.lst ds) M (Ex.new (om.freeF hp)) (om.new hp) ⟨p, vs, rfl, upd_same, r.mono (Ex.new (om.freeF hp))⟩ h
/-- a new list that may change -/
theorem kV.cell (k : kV K F0 F q Q) (om : OkM K F0 F M H) {ds : List Dat} {vs : List V} (r : Reps K F ds vs) {p : Addr} (hp : H p = none) (h : q (.ptr p) (updM M p (.lst ds))) : Q (.ref p) (upd H p (.lst vs)) :=
  k F _ _ (.ptr p) _ (Ex.refl F) (om.cell hp (repM_lst r)) rep_ptr h
end

/-! ### operations by data -/
def DOp (X : Cx) (F0 : Hp) (f : Value → Value → Sem Value) (x y : Dat) (M : Mem) (q : DK) : Prop :=
  ∃ r, OpR X f r ∧ ∀ F H vx vy Q, OkM X.K F0 F M H → Rep X.K F x vx → Rep X.K F y vy → kV X.K F0 F q Q → r vx vy H Q
def DUn (X : Cx) (F0 : Hp) (f : Value → Sem Value) (x : Dat) (M : Mem) (q : DK) : Prop :=
  ∃ r, UnR X f r ∧ ∀ F H vx Q, OkM X.K F0 F M H → Rep X.K F x vx → kV X.K F0 F q Q → r vx H Q
def DCl (X : Cx) (F0 : Hp) (f : Value) (ds : List Dat) (M : Mem) (q : DK) : Prop :=
  ∃ r, CallR X f r ∧ ∀ F H vs Q, OkM X.K F0 F M H → Reps X.K F ds vs → kV X.K F0 F q Q → r vs H Q
def DIx (X : Cx) (F0 : Hp) (x y : Dat) (M : Mem) (q : DK) : Prop :=
  ∃ r, IxR X r ∧ ∀ F H vx vy Q, OkM X.K F0 F M H → Rep X.K F x vx → Rep X.K F y vy → kV X.K F0 F q Q → r vx vy H Q
def DSl (X : Cx) (F0 : Hp) (x : Dat) (lo hi : Option Int) (M : Mem) (q : DK) : Prop :=
  ∃ r, SlR X r ∧ ∀ F H vx Q, OkM X.K F0 F M H → Rep X.K F x vx → kV X.K F0 F q Q → r vx lo hi H Q
section
variable {X : Cx} {F0 : Hp} {ρ : DEnv} {M : Mem} {q : DK} {pos : Pos} {a b c : Expr}
theorem DOp.uni (X : Cx) (f : Value → Value → Sem Value) : OpR X f (fun x y H Q => ∃ r, OpR X f r ∧ r x y H Q) := fun pins s σ H x y v u Q I rx ry ⟨r, h, t⟩ => h pins s σ H x y v u Q I rx ry t
theorem DUn.uni (X : Cx) (f : Value → Sem Value) : UnR X f (fun x H Q => ∃ r, UnR X f r ∧ r x H Q) := fun pins s σ H x v Q I rx ⟨r, h, t⟩ => h pins s σ H x v Q I rx t
theorem DIx.uni (X : Cx) : IxR X (fun x y H Q => ∃ r, IxR X r ∧ r x y H Q) := fun vl sl pins s σ H x y v u Q I rx ry ⟨r, h, t⟩ e => h vl sl pins s σ H x y v u Q I rx ry t e
theorem DCl.uni (X : Cx) (f : Value) : CallR X f (fun xs H Q => ∃ r, CallR X f r ∧ r xs H Q) := fun pins s σ H xs us Q I rx ⟨r, h, t⟩ => h pins s σ H xs us Q I rx t

/-! ### names, constants -/
theorem de_var {i : Nat} {x : Str} {d : Dat} (hN : X.N[i]? = some x) (hv : Vis X.env.scope x) (hd : ρ[i]? = some (some d)) (h : q d M) (hd1 : (x == ("__debug__" : Str)) = false := by decide) (hd2 : (x == ("__classdict__" : Str)) = false := by decide) : DE X F0 (.Name x pos) ρ M q :=
  PE.wk (pe_var hN hv hd1 hd2) fun σ H Q ⟨F, om, ol, k⟩ => by
    obtain ⟨v, h1, h2⟩ := ol.loc i d hd
    exact ⟨v, h1, k.fin om h2 h⟩
/-- what a name of the module holds -/
def GlobD (K : PySem.W.Frag) (mg : Str → Option Value) (x : Str) (d : Dat) : Prop := ∃ v u, mg x = some u ∧ RelV v u ∧ ∀ F, Rep K F d v
theorem de_glob {x : Str} {d : Dat} (g : GlobD X.K X.mg x d) (hg : Gl X x) (h : q d M) (hd1 : (x == ("__debug__" : Str)) = false := by decide) : DE X F0 (.Name x pos) ρ M q := by
  obtain ⟨v, u, h1, h2, h3⟩ := g
  exact PE.wk (pe_glob hg h1 h2 hd1) fun σ H Q ⟨F, om, ol, k⟩ => k.fin om (h3 F) h
theorem de_bltn {x : Str} {n : String} (hg : Gl X x) (hm : X.mg x = none) (hv : bootBuiltins x = some (.type n)) (h : q (.ty n) M) (hn : x ≠ "__name__" := by decide) (hd : (x == ("__debug__" : Str)) = false := by decide) : DE X F0 (.Name x pos) ρ M q :=
  PE.wk (pe_bltn (v := .ty n) hg hm hv rfl hn hd) fun σ H Q ⟨F, om, ol, k⟩ => k.fin om rep_ty h
theorem de_int {i : Int} {j} (h : q (.int i) M) : DE X F0 (.Constant (.int i) j pos) ρ M q := PE.wk pe_int fun σ H Q ⟨F, om, ol, k⟩ => k.fin om rep_int h
theorem de_bl {b : Bool} {j} (h : q (.bl b) M) : DE X F0 (.Constant (.bool b) j pos) ρ M q := PE.wk pe_bl fun σ H Q ⟨F, om, ol, k⟩ => k.fin om rep_bl h
theorem de_non {j} (h : q .non M) : DE X F0 (.Constant .none j pos) ρ M q := PE.wk pe_non fun σ H Q ⟨F, om, ol, k⟩ => k.fin om rep_non h
theorem de_str {x : Str} {j} (h : q (.str x) M) : DE X F0 (.Constant (.str x) j pos) ρ M q := PE.wk pe_str fun σ H Q ⟨F, om, ol, k⟩ => k.fin om rep_str h

/-! ### operators -/
theorem two {ta tb : Expr} {σ : L2.St} {H F : Hp} {Q : VK} {R : V → V → Hp → VK → Prop} {P : Dat → Dat → Mem → DK → Prop} (h : DE X F0 ta ρ M fun x M1 => DE X F0 tb ρ M1 fun y M2 => P x y M2 q) (om : OkM X.K F0 F M H) (ol : OkL X.K F ρ σ) (k : kV X.K F0 F q Q)
    (fin : ∀ x y M2, P x y M2 q → ∀ F H vx vy Q, OkM X.K F0 F M2 H → Rep X.K F x vx → Rep X.K F y vy → kV X.K F0 F q Q → R vx vy H Q) : tOp R (tU X F0 ta) (tU X F0 tb) σ H Q :=
  tU.go h om ol fun F1 H1 vx x M1 e1 om1 r1 h1 => tU.go h1 om1 (ol.mono e1) fun F2 H2 vy y M2 e2 om2 r2 h2 => fin x y M2 h2 F2 H2 vx vy Q om2 (r1.mono e2) r2 (k.mono (e1.trans e2))
theorem de_op {op : Operator} (h : DE X F0 a ρ M fun x M1 => DE X F0 b ρ M1 fun y M2 => DOp X F0 (binaryOp op) x y M2 q) : DE X F0 (.BinOp a op b pos) ρ M q :=
  PE.wk (pe_op (DOp.uni X _) (uE (F0 := F0)) (uE (F0 := F0))) fun σ H Q ⟨F, om, ol, k⟩ => two (P := fun x y M2 q => DOp X F0 (binaryOp op) x y M2 q) h om ol k fun x y M2 hp F H vx vy Q o1 o2 o3 o4 => by
    obtain ⟨r, hr, t⟩ := hp
    exact ⟨r, hr, t F H vx vy Q o1 o2 o3 o4⟩
theorem de_un {op : UnaryOp} (h : DE X F0 a ρ M fun x M1 => DUn X F0 (unaryOp op) x M1 q) : DE X F0 (.UnaryOp op a pos) ρ M q :=
  PE.wk (pe_un (DUn.uni X _) (uE (F0 := F0))) fun σ H Q ⟨F, om, ol, k⟩ => tU.go h om ol fun F1 H1 vx x M1 e1 om1 r1 h1 => by
    obtain ⟨r, hr, t⟩ := h1
    exact ⟨r, hr, t F1 H1 vx Q om1 r1 (k.mono e1)⟩
theorem de_cmp {op : CmpOp} (h : DE X F0 a ρ M fun x M1 => DE X F0 b ρ M1 fun y M2 => DOp X F0 (compareOp op) x y M2 q) (hm : behindInMarks op b = false := by first | rfl | exact nomark _) : DE X F0 (.Compare a [op] [b] pos) ρ M q :=
  PE.wk (pe_cmpR (DOp.uni X _) (uE (F0 := F0)) (uE (F0 := F0)) hm) fun σ H Q ⟨F, om, ol, k⟩ => two (P := fun x y M2 q => DOp X F0 (compareOp op) x y M2 q) h om ol k fun x y M2 hp F H vx vy Q o1 o2 o3 o4 => by
    obtain ⟨r, hr, t⟩ := hp
    exact ⟨r, hr, t F H vx vy Q o1 o2 o3 o4⟩
theorem kV.bl {K : PySem.W.Frag} {F0 F : Hp} {q : Bool → Mem → Prop} {Q : Bool → Hp → Prop} (k : kB K F0 F q Q) : kV K F0 F (fun d M => ∃ c, d = .bl c ∧ q c M) (fun x H' => ∃ c, x = .bl c ∧ Q c H') := fun F' H' v d M' e om r ⟨c, hd, hq⟩ => by
  subst hd
  exact ⟨c, r, k F' H' c M' e om hq⟩
theorem dt_cmp {q : Bool → Mem → Prop} {op : CmpOp} (h : DE X F0 a ρ M fun x M1 => DE X F0 b ρ M1 fun y M2 => DOp X F0 (compareOp op) x y M2 fun d M3 => ∃ c, d = .bl c ∧ q c M3) (hm : behindInMarks op b = false := by first | rfl | exact nomark _) : DT X F0 (.Compare a [op] [b] pos) ρ M q :=
  PT.wk (pt_cmpR (DOp.uni X _) (uE (F0 := F0)) (uE (F0 := F0)) hm) fun σ H Q ⟨F, om, ol, k⟩ => two (P := fun x y M2 q => DOp X F0 (compareOp op) x y M2 q) h om ol (kV.bl k) fun x y M2 hp F H vx vy Q o1 o2 o3 o4 => by
    obtain ⟨r, hr, t⟩ := hp
    exact ⟨r, hr, t F H vx vy Q o1 o2 o3 o4⟩
/-- a < b < c -/
theorem de_chain {op op' : CmpOp} (h : DE X F0 a ρ M fun x M1 => DE X F0 b ρ M1 fun y M2 => DOp X F0 (compareOp op) x y M2 fun d M3 => ∃ k, d = .bl k ∧
      ((k = true → DE X F0 c ρ M3 fun z M4 => DOp X F0 (compareOp op') y z M4 q) ∧ (k = false → q (.bl false) M3)))
    (hm : lastMarks [op, op'] [b, c] = false := by with_unfolding_all rfl) : DE X F0 (.Compare a [op, op'] [b, c] pos) ρ M q :=
  PE.wk (pe_chain (DOp.uni X _) (DOp.uni X _) (uE (F0 := F0)) (uE (F0 := F0)) (uE (F0 := F0)) hm) fun σ H Q ⟨F, om, ol, k⟩ => tU.go h om ol fun F1 H1 vx x M1 e1 om1 r1 h1 =>
    tU.go h1 om1 (ol.mono e1) fun F2 H2 vy y M2 e2 om2 r2 h2 => by
      obtain ⟨r, hr, t⟩ := h2
      refine ⟨r, hr, t F2 H2 vx vy _ om2 (r1.mono e2) r2 fun F3 H3 v3 d3 M3 e3 om3 r3 h3 => ?_⟩
      obtain ⟨b3, hd, ht, hf⟩ := h3
      subst hd
      refine ⟨b3, r3, ?_⟩
      cases b3 with
      | true =>
        rw [if_pos rfl]
        exact tU.go (ht rfl) om3 (ol.mono ((e1.trans e2).trans e3)) fun F4 H4 vz z M4 e4 om4 r4 h4 => by
          obtain ⟨r', hr', t'⟩ := h4
          exact ⟨r', hr', t' F4 H4 vy vz _ om4 (r2.mono (e3.trans e4)) r4 (k.mono (((e1.trans e2).trans e3).trans e4))⟩
      | false =>
        rw [if_neg Bool.false_ne_true]
        exact (k.mono ((e1.trans e2).trans e3)).fin om3 rep_bl (hf rfl)
end
end DL
/-! DL4: calls, displays, tests, walks -/
namespace DL
open PySem PySem.Spec PyProof.Rows L2

section
variable {X : Cx} {F0 : Hp} {ρ : DEnv} {M : Mem} {q : DK} {pos : Pos} {a b c e : Expr} {es : List Expr}

/-! ### built-ins by name -/
theorem de_callB {x : Str} {id : String} {p : Pos} (hg : Gl X x) (hm : X.mg x = none) (hv : bootBuiltins x = some (.builtin id)) (h : DA X F0 (e :: es) ρ M fun ds M1 => DCl X F0 (.builtin id) ds M1 q) (hn : x ≠ "__name__" := by decide) (hdb : (x == ("__debug__" : Str)) = false := by decide)
    (he : starEach (e :: es) X.env = (false, eval e X.env) :: starEach es X.env := by rfl) (hpl : (backTo pos (starEach es X.env)).any (·.1) = false := by rfl) : DE X F0 (.Call (.Name x p) (e :: es) [] pos) ρ M q :=
  PE.wk (pe_callB (DCl.uni X _) hg hm hv (uA (F0 := F0)) hn hdb he hpl) fun σ H Q ⟨F, om, ol, k⟩ => tUA.go h om ol fun F1 H1 vs ds M1 e1 om1 r1 h1 => by
    obtain ⟨r, hr, t⟩ := h1
    exact ⟨r, hr, t F1 H1 vs Q om1 r1 (k.mono e1)⟩
theorem de_callTy {x : Str} {T : String} {p : Pos} (hg : Gl X x) (hm : X.mg x = none) (hv : bootBuiltins x = some (.type T)) (h : DA X F0 (e :: es) ρ M fun ds M1 => DCl X F0 (.type T) ds M1 q) (hn : x ≠ "__name__" := by decide) (hdb : (x == ("__debug__" : Str)) = false := by decide)
    (he : starEach (e :: es) X.env = (false, eval e X.env) :: starEach es X.env := by rfl) (hpl : (backTo pos (starEach es X.env)).any (·.1) = false := by rfl) : DE X F0 (.Call (.Name x p) (e :: es) [] pos) ρ M q :=
  PE.wk (pe_callTy (DCl.uni X _) hg hm hv (uA (F0 := F0)) hn hdb he hpl) fun σ H Q ⟨F, om, ol, k⟩ => tUA.go h om ol fun F1 H1 vs ds M1 e1 om1 r1 h1 => by
    obtain ⟨r, hr, t⟩ := h1
    exact ⟨r, hr, t F1 H1 vs Q om1 r1 (k.mono e1)⟩

/-! ### displays -/
theorem de_tup {x1} (h : DA X F0 es ρ M fun ds M1 => ds.length ≤ 100000 ∧ q (.tup ds) M1) : DE X F0 (.Tuple es x1 pos) ρ M q :=
  PE.wk (pe_tup (uA (F0 := F0))) fun σ H Q ⟨F, om, ol, k⟩ => tUA.go h om ol fun F1 H1 vs ds M1 e1 om1 r1 ⟨hl, h1⟩ =>
    ⟨by rw [← r1.length]; exact Nat.le_trans hl (by decide), fun p hp => (k.mono e1).tup om1 r1 h1 hp⟩
theorem de_lst (h : DA X F0 es ρ M fun ds M1 => ds.length ≤ 100000 ∧ q (.lst ds) M1) : DE X F0 (.List es pos) ρ M q :=
  PE.wk (pe_lst (uA (F0 := F0))) fun σ H Q ⟨F, om, ol, k⟩ => tUA.go h om ol fun F1 H1 vs ds M1 e1 om1 r1 ⟨hl, h1⟩ =>
    ⟨by rw [← r1.length]; exact Nat.le_trans hl (by decide), fun p hp => (k.mono e1).lst om1 r1 h1 hp⟩
/-- .. that will change -/
theorem de_lstC (h : DA X F0 es ρ M fun ds M1 => ds.length ≤ 100000 ∧ ∀ p, M1 p = none → q (.ptr p) (updM M1 p (.lst ds))) : DE X F0 (.List es pos) ρ M q :=
  PE.wk (pe_lst (uA (F0 := F0))) fun σ H Q ⟨F, om, ol, k⟩ => tUA.go h om ol fun F1 H1 vs ds M1 e1 om1 r1 ⟨hl, h1⟩ =>
    ⟨by rw [← r1.length]; exact Nat.le_trans hl (by decide), fun p hp => (k.mono e1).cell om1 r1 hp (h1 p (om1.freeM hp))⟩
/-- a cell that will not change any more -/
theorem de_freeze (h : DE X F0 e ρ M fun d M1 => (∃ p ds, d = .ptr p ∧ M1 p = some (.lst ds) ∧ q (.lst ds) (delM M1 p))) : DE X F0 e ρ M q :=
  PE.wk h fun σ H Q ⟨F, om, ol, k⟩ => ⟨F, om, ol, fun F1 H1 v d M1 e1 om1 r1 ⟨p, ds, hd, hM, h1⟩ => by
    subst hd
    obtain rfl : v = .ref p := r1
    obtain ⟨hF, u, hu, r⟩ := om1.mem p _ hM
    obtain ⟨xs, rfl, rs⟩ := r
    exact k (upd F1 p (.lst xs)) H1 _ (.lst ds) _ (e1.trans (Ex.new hF)) (om1.freeze hM hu) ⟨p, xs, rfl, upd_same, rs.mono (Ex.new hF)⟩ h1⟩

/-! ### subscripts -/
theorem de_ix (h : DE X F0 a ρ M fun x M1 => DE X F0 b ρ M1 fun y M2 => DIx X F0 x y M2 q) (hs : PlainIx b := by first | exact fun _ _ => rfl) : DE X F0 (.Subscript a b pos) ρ M q :=
  PE.wk (pe_ix (DIx.uni X) (uE (F0 := F0)) (uE (F0 := F0)) hs) fun σ H Q ⟨F, om, ol, k⟩ => two (P := fun x y M2 q => DIx X F0 x y M2 q) h om ol k fun x y M2 hp F H vx vy Q o1 o2 o3 o4 => by
    obtain ⟨r, hr, t⟩ := hp
    exact ⟨r, hr, t F H vx vy Q o1 o2 o3 o4⟩
/-- an optional part of a slice -/
def DO (X : Cx) (F0 : Hp) (e : Option Expr) (ρ : DEnv) (M : Mem) (q : Option Int → Mem → Prop) : Prop :=
  PO X e fun σ H Q => ∃ F, OkM X.K F0 F M H ∧ OkL X.K F ρ σ ∧ ∀ F' H' o M', Ex F F' → OkM X.K F0 F' M' H' → q o M' → Q o H'
theorem PO.wk {e : Option Expr} {t t' : TO} (h : PO X e t) (w : ∀ σ H Q, t' σ H Q → t σ H Q) : PO X e t' := ⟨fun pins s σ H Q I q => h.run pins s σ H Q I (w σ H Q q)⟩
theorem uO {e : Option Expr} : PO X e (fun σ H Q => ∃ ρ M q, DO X F0 e ρ M q ∧ ∃ F, OkM X.K F0 F M H ∧ OkL X.K F ρ σ ∧ ∀ F' H' o M', Ex F F' → OkM X.K F0 F' M' H' → q o M' → Q o H') :=
  ⟨fun pins s σ H Q I ⟨_, _, _, h, t⟩ => (show PO X e _ from h).run pins s σ H Q I t⟩
theorem do_none {q : Option Int → Mem → Prop} (h : q none M) : DO X F0 none ρ M q := PO.wk po_none fun σ H Q ⟨F, om, ol, k⟩ => k F H none M (Ex.refl F) om h
theorem do_some {q : Option Int → Mem → Prop} (h : DE X F0 e ρ M fun d M1 => ∃ i, d = .int i ∧ q (some i) M1) : DO X F0 (some e) ρ M q :=
  PO.wk (po_some (uE (F0 := F0))) fun σ H Q ⟨F, om, ol, k⟩ => tU.go h om ol fun F1 H1 v d M1 e1 om1 r1 ⟨i, hd, h1⟩ => by
    subst hd
    exact ⟨i, r1, k F1 H1 _ M1 e1 om1 h1⟩
theorem SlR.uni (X : Cx) : SlR X (fun x lo hi H Q => ∃ r, SlR X r ∧ r x lo hi H Q) :=
  fun pins s σ H x v vl vu lo hi sl Q I rx hs pl pu ⟨_, hr, t⟩ => hr pins s σ H x v vl vu lo hi sl Q I rx hs pl pu t
theorem de_sl {lo hi : Option Expr} {p2 : Pos} (h : DE X F0 e ρ M fun x M1 => DO X F0 lo ρ M1 fun l M2 => DO X F0 hi ρ M2 fun u M3 => DSl X F0 x l u M3 q) : DE X F0 (.Subscript e (.Slice lo hi none p2) pos) ρ M q :=
  PE.wk (pe_slice (SlR.uni X) (uE (F0 := F0)) (uO (F0 := F0)) (uO (F0 := F0))) fun σ H Q ⟨F, om, ol, k⟩ => tU.go h om ol fun F1 H1 vx x M1 e1 om1 r1 h1 =>
    ⟨ρ, M1, _, h1, F1, om1, ol.mono e1, fun F2 H2 l M2 e2 om2 h2 => ⟨ρ, M2, _, h2, F2, om2, ol.mono (e1.trans e2), fun F3 H3 u M3 e3 om3 h3 => by
      obtain ⟨r, hr, t⟩ := h3
      exact ⟨r, hr, t F3 H3 vx Q om3 (r1.mono (e2.trans e3)) (k.mono ((e1.trans e2).trans e3))⟩⟩⟩

/-! ### tests -/
theorem dt_val {q : Bool → Mem → Prop} (h : DE X F0 e ρ M fun d M1 => ∃ c, d = .bl c ∧ q c M1) (he : ∀ whole, isTrue e X.env whole = (do let v ← whole; standAt e.pos; holding [v] (truthy v)) := by intro _; rfl) : DT X F0 e ρ M q :=
  PT.wk (pt_val (uE (F0 := F0)) he) fun σ H Q ⟨F, om, ol, k⟩ => tU.go h om ol (kV.bl k)
/-- what the truth of a datum is -/
def Tru : Dat → Option Bool
  | .non => some false
  | .bl b => some b
  | .int i => some (i != 0)
  | .str y => if y.length ≤ 100000 then some ((y.length : Int) != 0) else none
  | .lst ds => some !ds.isEmpty
  | .tup ds => some !ds.isEmpty
  | _ => none
theorem isEmpty_reps {K : PySem.W.Frag} {F : Hp} {ds : List Dat} {vs : List V} (r : Reps K F ds vs) : ds.isEmpty = vs.isEmpty := by
  cases ds with
  | nil =>
    cases r
    rfl
  | cons d ds =>
    obtain ⟨x, t, rfl, _⟩ := r
    rfl
theorem dt_truth {q : Bool → Mem → Prop} (h : DE X F0 e ρ M fun d M1 => ∃ c, Tru d = some c ∧ q c M1) (he : ∀ whole, isTrue e X.env whole = (do let v ← whole; standAt e.pos; holding [v] (truthy v)) := by intro _; rfl) : DT X F0 e ρ M q :=
  PT.wk (pt_truth (uE (F0 := F0)) he) fun σ H Q ⟨F, om, ol, k⟩ => tU.go h om ol fun F1 H1 v d M1 e1 om1 r1 ⟨c, hc, h1⟩ => by
    refine ⟨c, ?_, k F1 H1 c M1 e1 om1 h1⟩
    cases d with
    | non =>
      cases r1
      exact (Option.some.inj hc).symm
    | bl b =>
      cases r1
      exact (Option.some.inj hc).symm
    | int i =>
      cases r1
      exact (Option.some.inj hc).symm
    | str y =>
      cases r1
      have hc' : (if y.length ≤ 100000 then some ((y.length : Int) != 0) else none) = some c := hc
      by_cases hy : y.length ≤ 100000
      · rw [if_pos hy] at hc'
        exact ⟨Nat.le_trans hy (by decide), (Option.some.inj hc').symm⟩
      · rw [if_neg hy] at hc'
        cases hc'
    | lst ds =>
      obtain ⟨p, xs, rfl, h2, h3⟩ := r1
      refine .inl ⟨xs, SqL.of (om1.sub _ _ h2), ?_⟩
      rw [← isEmpty_reps h3]
      exact (Option.some.inj hc).symm
    | tup ds =>
      obtain ⟨p, xs, rfl, h2, h3⟩ := r1
      refine .inr (.inl ⟨xs, ex_t om1.sub h2, ?_⟩)
      rw [← isEmpty_reps h3]
      exact (Option.some.inj hc).symm
    | _ => cases hc
theorem dt_not {q : Bool → Mem → Prop} (h : DT X F0 e ρ M fun b M1 => q (!b) M1) : DT X F0 (.UnaryOp .Not e pos) ρ M q :=
  PT.wk (pt_not (uT (F0 := F0))) fun σ H Q ⟨F, om, ol, k⟩ => tUT.go h om ol fun F1 H1 b M1 e1 om1 h1 => k F1 H1 _ M1 e1 om1 h1
theorem dt_w {q : Bool → Mem → Prop} (h : DW X F0 e ρ M q) : DT X F0 e ρ M q := PW.pt h
theorem dw_and1 {q : Bool → Mem → Prop} (h : DT X F0 a ρ M q) : DW X F0 (.BoolOp .And [a] pos) ρ M q := pw_and1 h
theorem dw_or1 {q : Bool → Mem → Prop} (h : DT X F0 a ρ M q) : DW X F0 (.BoolOp .Or [a] pos) ρ M q := pw_or1 h
theorem dw_and {q : Bool → Mem → Prop} (h : DT X F0 a ρ M fun k M1 => (k = true → DW X F0 (.BoolOp .And (b :: es) pos) ρ M1 q) ∧ (k = false → q false M1)) : DW X F0 (.BoolOp .And (a :: b :: es) pos) ρ M q :=
  PW.wk (pw_and (uT (F0 := F0)) (uW (F0 := F0))) fun σ H Q ⟨F, om, ol, k⟩ => tUT.go h om ol fun F1 H1 c M1 e1 om1 ⟨h1, h2⟩ => by
    cases c with
    | true =>
      rw [if_pos rfl]
      exact tUW.go (h1 rfl) om1 (ol.mono e1) (k.mono e1)
    | false =>
      rw [if_neg Bool.false_ne_true]
      exact k F1 H1 _ M1 e1 om1 (h2 rfl)
theorem dw_or {q : Bool → Mem → Prop} (h : DT X F0 a ρ M fun k M1 => (k = true → q true M1) ∧ (k = false → DW X F0 (.BoolOp .Or (b :: es) pos) ρ M1 q)) : DW X F0 (.BoolOp .Or (a :: b :: es) pos) ρ M q :=
  PW.wk (pw_or (uT (F0 := F0)) (uW (F0 := F0))) fun σ H Q ⟨F, om, ol, k⟩ => tUT.go h om ol fun F1 H1 c M1 e1 om1 ⟨h1, h2⟩ => by
    cases c with
    | true =>
      rw [if_pos rfl]
      exact k F1 H1 _ M1 e1 om1 (h1 rfl)
    | false =>
      rw [if_neg Bool.false_ne_true]
      exact tUW.go (h2 rfl) om1 (ol.mono e1) (k.mono e1)
/-- as values -/
theorem de_and1 {op : BoolOp} (h : DE X F0 a ρ M q) : DE X F0 (.BoolOp op [a] pos) ρ M q := pe_one h
theorem de_and (h : DE X F0 a ρ M fun d M1 => ∃ k, d = .bl k ∧ (k = true → DE X F0 (.BoolOp .And (b :: es) pos) ρ M1 q) ∧ (k = false → q (.bl false) M1)) : DE X F0 (.BoolOp .And (a :: b :: es) pos) ρ M q :=
  PE.wk (pe_and (uE (F0 := F0)) (uE (F0 := F0))) fun σ H Q ⟨F, om, ol, k⟩ => tU.go h om ol fun F1 H1 v d M1 e1 om1 r1 ⟨c, hd, h1, h2⟩ => by
    subst hd
    refine ⟨c, r1, ?_⟩
    cases c with
    | true =>
      rw [if_pos rfl]
      exact tU.go (h1 rfl) om1 (ol.mono e1) (k.mono e1)
    | false =>
      rw [if_neg Bool.false_ne_true]
      exact (k.mono e1).fin om1 rep_bl (h2 rfl)
theorem de_or (h : DE X F0 a ρ M fun d M1 => ∃ k, d = .bl k ∧ (k = true → q (.bl true) M1) ∧ (k = false → DE X F0 (.BoolOp .Or (b :: es) pos) ρ M1 q)) : DE X F0 (.BoolOp .Or (a :: b :: es) pos) ρ M q :=
  PE.wk (pe_or (uE (F0 := F0)) (uE (F0 := F0))) fun σ H Q ⟨F, om, ol, k⟩ => tU.go h om ol fun F1 H1 v d M1 e1 om1 r1 ⟨c, hd, h1, h2⟩ => by
    subst hd
    refine ⟨c, r1, ?_⟩
    cases c with
    | true =>
      rw [if_pos rfl]
      exact (k.mono e1).fin om1 rep_bl (h1 rfl)
    | false =>
      rw [if_neg Bool.false_ne_true]
      exact tU.go (h2 rfl) om1 (ol.mono e1) (k.mono e1)
theorem de_not (h : DE X F0 a ρ M fun d M1 => ∃ k, d = .bl k ∧ q (.bl (!k)) M1) : DE X F0 (.UnaryOp .Not a pos) ρ M q :=
  PE.wk (pe_not (uE (F0 := F0))) fun σ H Q ⟨F, om, ol, k⟩ => tU.go h om ol fun F1 H1 v d M1 e1 om1 r1 ⟨c, hd, h1⟩ => by
    subst hd
    exact ⟨c, r1, (k.mono e1).fin om1 rep_bl h1⟩
theorem de_if (h : DT X F0 c ρ M fun k M1 => (k = true → DE X F0 a ρ M1 q) ∧ (k = false → DE X F0 b ρ M1 q)) : DE X F0 (.IfExp c a b pos) ρ M q :=
  PE.wk (pe_ifExp (uT (F0 := F0)) (uE (F0 := F0)) (uE (F0 := F0))) fun σ H Q ⟨F, om, ol, k⟩ => tUT.go h om ol fun F1 H1 c M1 e1 om1 ⟨h1, h2⟩ => by
    cases c with
    | true =>
      rw [if_pos rfl]
      exact tU.go (h1 rfl) om1 (ol.mono e1) (k.mono e1)
    | false =>
      rw [if_neg Bool.false_ne_true]
      exact tU.go (h2 rfl) om1 (ol.mono e1) (k.mono e1)

/-! ### methods of built-in types -/
/-- x is of the built-in type T -/
def TyD (K : PySem.W.Frag) (T : String) : Dat → Mem → Prop
  | .str _, _ => T = "str"
  | .int _, _ => T = "int"
  | .lst _, _ => T = "list"
  | .ptr p, M => (∃ ds, M p = some (.lst ds) ∧ T = "list") ∨ (∃ ks ds, M p = some (.dct ks ds) ∧ T = "dict")
  | .dct _ _, _ => T = "dict"
  | _, _ => False
theorem TyD.ty {K : PySem.W.Frag} {T : String} {d : Dat} {F : Hp} {H : Hp} {v : V} (t : TyD K T d M) (om : OkM K F0 F M H) (r : Rep K F d v) : tyV K T v H := by
  cases d with
  | str x =>
    cases r
    exact t
  | int i =>
    cases r
    exact t
  | lst ds =>
    obtain ⟨p, xs, rfl, h2, _⟩ := r
    exact .inl ⟨t, xs, SqL.of (om.sub _ _ h2)⟩
  | dct ks ds =>
    obtain ⟨p, xs, rfl, h2, _⟩ := r
    exact .inr (.inr (.inl ⟨t, .inl ⟨_, om.sub _ _ h2⟩⟩))
  | ptr p =>
    obtain rfl : v = .ref p := r
    rcases t with ⟨ds, h1, h2⟩ | ⟨ks, ds, h1, h2⟩
    · obtain ⟨_, u, hu, r⟩ := om.mem p _ h1
      obtain ⟨xs, rfl, _⟩ := r
      exact .inl ⟨h2, xs, SqL.of hu⟩
    · obtain ⟨_, u, hu, r⟩ := om.mem p _ h1
      obtain ⟨xs, rfl, _⟩ := r
      exact .inr (.inr (.inl ⟨h2, .inl ⟨_, hu⟩⟩))
  | _ => cases t
def DMt (X : Cx) (F0 : Hp) (id : String) (x : Dat) (ds : List Dat) (M : Mem) (q : DK) : Prop :=
  ∃ r, MtR X id r ∧ ∀ F H vx vs Q, OkM X.K F0 F M H → Rep X.K F x vx → Reps X.K F ds vs → kV X.K F0 F q Q → r vx vs H Q
theorem DMt.uni (X : Cx) (id : String) : MtR X id (fun x xs H Q => ∃ r, MtR X id r ∧ r x xs H Q) := fun pins s σ H x xs v us Q I rx rxs ⟨r, h, t⟩ => h pins s σ H x xs v us Q I rx rxs t
theorem de_mt {T id : String} {o : Expr} {name : Str} {apos : Pos} (pa : PlainAttrs T) (slot : Slot T name id) (hty : typeOf (.builtin id) = pure (.type "method_descriptor"))
    (h : DE X F0 o ρ M fun x M1 => TyD X.K T x M1 ∧ DA X F0 (e :: es) ρ M1 fun ds M2 => DMt X F0 id x ds M2 q)
    (hbase : attributeBase o name X.env (eval o X.env) = eval o X.env := by rfl)
    (hfew : ((backTo pos (starEach (e :: es) X.env)).all (fun x => !x.1) && (backToKw pos (keywordEach [] X.env)).all (fun x => x.1.isSome)
      && decide ((e :: es).length + ([] : List Keyword).length + (if ([] : List Keyword).isEmpty then 0 else 1) < 30)) = true := by rfl)
    (hline : (apos.endLine == pos.line) = true := by rfl) (hs : starEach (e :: es) X.env = (false, eval e X.env) :: starEach es X.env := by rfl) (hplain : (backTo pos (starEach es X.env)).any (·.1) = false := by rfl) :
    DE X F0 (.Call (.Attribute o name apos) (e :: es) [] pos) ρ M q :=
  PE.wk (pe_bm pa slot hty (DMt.uni X id) (uE (F0 := F0)) (uA (F0 := F0)) hbase hfew hline hs hplain) fun σ H Q ⟨F, om, ol, k⟩ => tU.go h om ol fun F1 H1 vx x M1 e1 om1 r1 ⟨t1, h1⟩ =>
    ⟨t1.ty om1 r1, tUA.go h1 om1 (ol.mono e1) fun F2 H2 vs ds M2 e2 om2 r2 h2 => by
      obtain ⟨r, hr, t⟩ := h2
      exact ⟨r, hr, t F2 H2 vx vs Q om2 (r1.mono e2) r2 (k.mono (e1.trans e2))⟩⟩
theorem de_mt0 {T id : String} {o : Expr} {name : Str} {apos : Pos} (pa : PlainAttrs T) (slot : Slot T name id) (hty : typeOf (.builtin id) = pure (.type "method_descriptor"))
    (h : DE X F0 o ρ M fun x M1 => TyD X.K T x M1 ∧ DMt X F0 id x [] M1 q)
    (hbase : attributeBase o name X.env (eval o X.env) = eval o X.env := by rfl) (hline : (apos.endLine == pos.line) = true := by rfl) :
    DE X F0 (.Call (.Attribute o name apos) [] [] pos) ρ M q :=
  PE.wk (pe_bm0 pa slot hty (DMt.uni X id) (uE (F0 := F0)) hbase hline) fun σ H Q ⟨F, om, ol, k⟩ => tU.go h om ol fun F1 H1 vx x M1 e1 om1 r1 ⟨t1, h1⟩ => by
    obtain ⟨r, hr, t⟩ := h1
    exact ⟨t1.ty om1 r1, r, hr, t F1 H1 vx [] Q om1 r1 Reps.nil (k.mono e1)⟩
end

/-! ### what is walked -/
/-- the iterator J gives the items ds, while the cells stand as Kp says -/
def WalkD (K : PySem.W.Frag) (F0 F1 : Hp) (J : It) (ds : List Dat) : Prop :=
  ∀ F H M (i : Nat), Ex F1 F → OkM K F0 F M H → (∀ d, ds[i]? = some d → J.go i H ∧ ∀ x H', J.yld i H x H' → ∃ F', Ex F F' ∧ OkM K F0 F' M H' ∧ Rep K F' d x) ∧ (ds.length ≤ i → J.stop i H)
def DI (X : Cx) (F0 : Hp) (tg iter : Expr) (ρ : DEnv) (M : Mem) (q : List Dat → Mem → Prop) : Prop :=
  ∃ wi, PI X tg iter wi ∧ ∀ F σ H (R : It → Hp → Prop), OkM X.K F0 F M H → OkL X.K F ρ σ → (∀ F' H' J ds M', Ex F F' → OkM X.K F0 F' M' H' → WalkD X.K F0 F' J ds → q ds M' → R J H') → wi σ H R
section
variable {X : Cx} {F0 : Hp} {ρ : DEnv} {M : Mem} {pos : Pos} {tg e e2 : Expr} {q : List Dat → Mem → Prop}
theorem walk_lst {K : PySem.W.Frag} {F0 F1 : Hp} {p : Addr} {xs : List V} {ds : List Dat} (h : SqL K F1 p xs) (r : Reps K F1 ds xs) : WalkD K F0 F1 (Itl K p) ds := fun F H M i e om => by
  have hs : SqL K H p xs := ex_l om.sub (ex_l e h)
  refine ⟨fun d hd => ?_, fun hl => ⟨xs, hs, by rw [← r.length]; exact hl⟩⟩
  obtain ⟨x, hx, rx⟩ := r.get hd
  exact ⟨⟨xs, x, hs, hx⟩, fun y H' ⟨hH, hy⟩ => by
    subst hH
    obtain rfl : x = y := Option.some.inj (hx.symm.trans (hy xs hs))
    exact ⟨F, Ex.refl F, om, rx.mono e⟩⟩
theorem walk_tup {K : PySem.W.Frag} {F0 F1 : Hp} {p : Addr} {xs : List V} {ds : List Dat} (h : SqT K F1 p xs) (r : Reps K F1 ds xs) : WalkD K F0 F1 (Itt K p) ds := fun F H M i e om => by
  have hs : SqT K H p xs := ex_t om.sub (ex_t e h)
  refine ⟨fun d hd => ?_, fun hl => ⟨xs, hs, by rw [← r.length]; exact hl⟩⟩
  obtain ⟨x, hx, rx⟩ := r.get hd
  exact ⟨⟨xs, x, hs, hx⟩, fun y H' ⟨hH, hy⟩ => by
    subst hH
    obtain rfl : x = y := Option.some.inj (hx.symm.trans (hy xs hs))
    exact ⟨F, Ex.refl F, om, rx.mono e⟩⟩
def rangeD (lo : Int) (n : Nat) : List Dat := (List.range n).map fun i => .int (lo + (i : Nat))
theorem rangeD_get {lo : Int} {n i : Nat} {d : Dat} (h : (rangeD lo n)[i]? = some d) : i < n ∧ d = .int (lo + (i : Nat)) := by
  unfold rangeD at h
  rw [List.getElem?_map] at h
  by_cases hi : i < n
  · rw [List.getElem?_range hi] at h
    exact ⟨hi, (Option.some.inj h).symm⟩
  · rw [List.getElem?_eq_none (by rw [List.length_range]; omega)] at h
    cases h
theorem rangeD_len {lo : Int} {n : Nat} : (rangeD lo n).length = n := by
  unfold rangeD
  rw [List.length_map, List.length_range]
theorem walk_rng {K : PySem.W.Frag} {F0 F1 : Hp} {lo : Int} {n : Nat} : WalkD K F0 F1 (Itr lo n) (rangeD lo n) := fun F H M i e om => by
  refine ⟨fun d hd => ?_, fun hl => by rw [rangeD_len] at hl; exact hl⟩
  obtain ⟨hi, rfl⟩ := rangeD_get hd
  exact ⟨hi, fun y H' ⟨hH, hy⟩ => by
    subst hH
    subst hy
    exact ⟨F, Ex.refl F, om, rep_int⟩⟩
def signs (x : Str) : List Dat := x.cps.toList.map fun c => .str ⟨#[c]⟩
theorem walk_str {K : PySem.W.Frag} {F0 F1 : Hp} {x : Str} : WalkD K F0 F1 (Its x) (signs x) := fun F H M i e om => by
  refine ⟨fun d hd => ?_, fun hl => by
    unfold signs at hl
    rw [List.length_map, Array.length_toList] at hl
    exact hl⟩
  unfold signs at hd
  rw [List.getElem?_map] at hd
  obtain ⟨c, hc, rfl⟩ := Option.map_eq_some_iff.mp hd
  have hc' : x.cps[i]? = some c := by rw [← Array.getElem?_toList]; exact hc
  refine ⟨?_, fun y H' ⟨hH, c', hc2, hy⟩ => ?_⟩
  · show i < x.cps.size
    exact (Array.getElem?_eq_some_iff.mp hc').1
  · subst hH
    subst hy
    rw [hc'] at hc2
    cases hc2
    exact ⟨F, Ex.refl F, om, rep_str⟩
theorem di_lst (h : DE X F0 e ρ M fun d M1 => ∃ ds, d = .lst ds ∧ q ds M1) : DI X F0 tg e ρ M q :=
  ⟨_, pi_list (uE (F0 := F0)), fun F σ H R om ol k => tU.go h om ol fun F1 H1 v d M1 e1 om1 r1 ⟨ds, hd, h1⟩ => by
    subst hd
    obtain ⟨p, xs, rfl, h2, h3⟩ := r1
    exact ⟨p, rfl, ⟨xs, SqL.of (om1.sub _ _ h2)⟩, k F1 H1 _ ds M1 e1 om1 (walk_lst (SqL.of h2) h3) h1⟩⟩
theorem di_scr (h : DE X F0 e ρ M fun d M1 => ∃ ns, d = .scr ns ∧ q (ns.map Dat.int) M1) : DI X F0 tg e ρ M q :=
  ⟨_, pi_list (uE (F0 := F0)), fun F σ H R om ol k => tU.go h om ol fun F1 H1 v d M1 e1 om1 r1 ⟨ns, hd, h1⟩ => by
    subst hd
    obtain ⟨p, rfl, h2⟩ := r1
    exact ⟨p, rfl, ⟨_, ex_l om1.sub h2⟩, k F1 H1 _ _ M1 e1 om1 (walk_lst h2 (Reps.ofInts ns)) h1⟩⟩
theorem di_tup (h : DE X F0 e ρ M fun d M1 => ∃ ds, d = .tup ds ∧ q ds M1) : DI X F0 tg e ρ M q :=
  ⟨_, pi_tup (uE (F0 := F0)), fun F σ H R om ol k => tU.go h om ol fun F1 H1 v d M1 e1 om1 r1 ⟨ds, hd, h1⟩ => by
    subst hd
    obtain ⟨p, xs, rfl, h2, h3⟩ := r1
    exact ⟨p, rfl, ⟨xs, ex_t om1.sub h2⟩, k F1 H1 _ ds M1 e1 om1 (walk_tup h2 h3) h1⟩⟩
theorem di_str (h : DE X F0 e ρ M fun d M1 => ∃ x, d = .str x ∧ q (signs x) M1) : DI X F0 tg e ρ M q :=
  ⟨_, pi_str (uE (F0 := F0)), fun F σ H R om ol k => tU.go h om ol fun F1 H1 v d M1 e1 om1 r1 ⟨x, hd, h1⟩ => by
    subst hd
    obtain rfl : v = .str x := r1
    exact ⟨x, rfl, k F1 H1 _ _ M1 e1 om1 walk_str h1⟩⟩
theorem di_rng1 {p : Pos} (hg : Gl X "range") (hm : X.mg "range" = none) (h : DA X F0 [e] ρ M fun ds M1 => ∃ n, ds = [.int n] ∧ n < 1000000 ∧ -1000000 < n ∧ q (rangeD 0 n.toNat) M1) (hs : starEach [e] X.env = [(false, eval e X.env)] := by rfl) : DI X F0 tg (.Call (.Name "range" p) [e] [] pos) ρ M q :=
  ⟨_, pi_range1 hg hm (uA (F0 := F0)) hs, fun F σ H R om ol k => tUA.go h om ol fun F1 H1 vs ds M1 e1 om1 r1 ⟨n, hd, h1, h2, h3⟩ => by
    subst hd
    obtain ⟨x, r, rfl, hx, hr⟩ := r1
    cases hr
    cases hx
    exact ⟨n, rfl, by omega, by omega, k F1 H1 _ _ M1 e1 om1 walk_rng h3⟩⟩
theorem di_rng2 {p : Pos} (hg : Gl X "range") (hm : X.mg "range" = none) (h : DA X F0 [e, e2] ρ M fun ds M1 => ∃ m n, ds = [.int m, .int n] ∧ n < 1000000 ∧ -1000000 < n ∧ m < 1000000 ∧ -1000000 < m ∧ q (rangeD m (n - m).toNat) M1)
    (hs : starEach [e, e2] X.env = [(false, eval e X.env), (false, eval e2 X.env)] := by rfl) (hs2 : starEach [e2] X.env = [(false, eval e2 X.env)] := by rfl) : DI X F0 tg (.Call (.Name "range" p) [e, e2] [] pos) ρ M q :=
  ⟨_, pi_range2 hg hm (uA (F0 := F0)) hs hs2, fun F σ H R om ol k => tUA.go h om ol fun F1 H1 vs ds M1 e1 om1 r1 ⟨m, n, hd, h1, h2, h4, h5, h3⟩ => by
    subst hd
    obtain ⟨x, r, rfl, hx, y, r', rfl, hy, hr⟩ := r1
    cases hr
    cases hx
    cases hy
    exact ⟨m, n, rfl, ⟨by omega, by omega, by omega, by omega⟩, k F1 H1 _ _ M1 e1 om1 walk_rng h3⟩⟩
end

/-! ### targets -/
/-- what of the slots a target may change: anything | the names of a comprehension -/
def RelS : Option (List Nat) → L2.St → L2.St → Prop
  | none, _, _ => True
  | some vs, σ, σ' => wipe σ' vs = wipe σ vs
theorem RelS.refl (o : Option (List Nat)) (σ : L2.St) : RelS o σ σ := by
  cases o with
  | none => trivial
  | some vs => rfl
theorem RelS.trans {o : Option (List Nat)} {a b c : L2.St} (h : RelS o a b) (h' : RelS o b c) : RelS o a c := by
  cases o with
  | none => trivial
  | some vs => exact Eq.trans h' h
theorem wipe_set {σ : L2.St} {i : Nat} {x : Option V} : ∀ {vs : List Nat}, i ∈ vs → wipe (σ.set i x) vs = wipe σ vs
  | [], h => by cases h
  | v :: vs, h => by
    unfold wipe
    by_cases hi : i ∈ vs
    · rw [wipe_set hi]
    · have e : i = v := by
        rcases List.mem_cons.mp h with z | z
        · exact z
        · exact absurd z hi
      subst e
      have g : ∀ {ws : List Nat} {τ : L2.St}, i ∉ ws → wipe (τ.set i x) ws = (wipe τ ws).set i x := by
        intro ws
        induction ws with
        | nil => intro τ _; rfl
        | cons w ws ih =>
          intro τ hn
          have h1 : i ≠ w := fun z => hn (by rw [z]; exact List.mem_cons_self)
          have h2 : i ∉ ws := fun z => hn (List.mem_cons_of_mem _ z)
          show (wipe (τ.set i x) ws).set w none = ((wipe τ ws).set w none).set i x
          rw [ih h2, List.set_comm _ _ h1]
      rw [g hi, List.set_set]
def okS : Option (List Nat) → Nat → Bool
  | none, _ => true
  | some vs, i => vs.contains i
theorem RelS.set {o : Option (List Nat)} {σ : L2.St} {i : Nat} {x : Option V} (h : okS o i = true) : RelS o σ (σ.set i x) := by
  cases o with
  | none => trivial
  | some vs => exact wipe_set (List.contains_iff_mem.mp h)
def kG (K : PySem.W.Frag) (F0 F : Hp) (o : Option (List Nat)) (σ : L2.St) (q : DEnv → Mem → Prop) (Q : L2.St → Hp → Prop) : Prop := ∀ F' H' σ' ρ' M', Ex F F' → OkM K F0 F' M' H' → OkL K F' ρ' σ' → RelS o σ σ' → q ρ' M' → Q σ' H'
def tDG (K : PySem.W.Frag) (F0 : Hp) (o : Option (List Nat)) (d : Dat) (ρ : DEnv) (M : Mem) (q : DEnv → Mem → Prop) : TG := fun v σ H Q => ∃ F, OkM K F0 F M H ∧ OkL K F ρ σ ∧ Rep K F d v ∧ kG K F0 F o σ q Q
def tDGs (K : PySem.W.Frag) (F0 : Hp) (o : Option (List Nat)) (ds : List Dat) (ρ : DEnv) (M : Mem) (q : DEnv → Mem → Prop) : TGs := fun vs σ H Q => ∃ F, OkM K F0 F M H ∧ OkL K F ρ σ ∧ Reps K F ds vs ∧ kG K F0 F o σ q Q
def DG (X : Cx) (F0 : Hp) (o : Option (List Nat)) (tg : Expr) (d : Dat) (ρ : DEnv) (M : Mem) (q : DEnv → Mem → Prop) : Prop := PG X tg (tDG X.K F0 o d ρ M q)
def DGs (X : Cx) (F0 : Hp) (o : Option (List Nat)) (ts : List Expr) (ds : List Dat) (ρ : DEnv) (M : Mem) (q : DEnv → Mem → Prop) : Prop := PGs X ts (tDGs X.K F0 o ds ρ M q)
theorem PG.wk {X : Cx} {tg : Expr} {t t' : TG} (h : PG X tg t) (w : ∀ v σ H Q, t' v σ H Q → t v σ H Q) : PG X tg t' := ⟨fun pins s σ H v u Q I r z => h.run pins s σ H v u Q I r (w v σ H Q z)⟩
theorem PGs.wk {X : Cx} {ts : List Expr} {t t' : TGs} (h : PGs X ts t) (w : ∀ v σ H Q, t' v σ H Q → t v σ H Q) : PGs X ts t' := ⟨fun pins s σ H v u Q I r z => h.run pins s σ H v u Q I r (w v σ H Q z)⟩
theorem uG {X : Cx} {F0 : Hp} {tg : Expr} : PG X tg (fun v σ H Q => ∃ o d ρ M q, DG X F0 o tg d ρ M q ∧ tDG X.K F0 o d ρ M q v σ H Q) := ⟨fun pins s σ H v u Q I r ⟨_, _, _, _, _, h, t⟩ => (show PG X tg _ from h).run pins s σ H v u Q I r t⟩
theorem uGs {X : Cx} {F0 : Hp} {ts : List Expr} : PGs X ts (fun v σ H Q => ∃ o d ρ M q, DGs X F0 o ts d ρ M q ∧ tDGs X.K F0 o d ρ M q v σ H Q) := ⟨fun pins s σ H v u Q I r ⟨_, _, _, _, _, h, t⟩ => (show PGs X ts _ from h).run pins s σ H v u Q I r t⟩
theorem kG.mono {K : PySem.W.Frag} {F0 F F' : Hp} {o : Option (List Nat)} {σ : L2.St} {q : DEnv → Mem → Prop} {Q : L2.St → Hp → Prop} (e : Ex F F') (h : kG K F0 F o σ q Q) : kG K F0 F' o σ q Q := fun F2 H' s r M' e2 => h F2 H' s r M' (e.trans e2)
section
variable {X : Cx} {F0 : Hp} {ρ : DEnv} {M : Mem} {pos : Pos} {tg : Expr} {es : List Expr} {q : DEnv → Mem → Prop} {d : Dat} {ds : List Dat} {o : Option (List Nat)}
theorem dg_name {i : Nat} {x : Str} (hN : X.N.Nodup) (hi : X.N[i]? = some x) (hx : Loc X.env.scope x) (ho : okS o i = true) (h : q (ρ.set i (some d)) M) (hf : X.fn x = true ∨ X.env.scope.names.lookup x = some .local := by first | exact .inl rfl | exact .inr rfl | assumption) : DG X F0 o (.Name x pos) d ρ M q :=
  PG.wk (pg_name hN hi hx hf) fun v σ H Q ⟨F, om, ol, r, k⟩ => k F H _ _ M (Ex.refl F) om (ol.set i r) (RelS.set ho) h
theorem dgs_nil (h : q ρ M) : DGs X F0 o [] [] ρ M q := PGs.wk pgs_nil fun vs σ H Q ⟨F, om, ol, r, k⟩ => ⟨r, k F H σ ρ M (Ex.refl F) om ol (RelS.refl o σ) h⟩
theorem dgs_cons (h : DG X F0 o tg d ρ M fun ρ1 M1 => DGs X F0 o es ds ρ1 M1 q) (hs : (assignEach (tg :: es) X.env).map (·.2) = assign tg X.env :: (assignEach es X.env).map (·.2) := by rfl) : DGs X F0 o (tg :: es) (d :: ds) ρ M q :=
  PGs.wk (pgs_cons (uG (F0 := F0)) (uGs (F0 := F0)) hs) fun vs σ H Q ⟨F, om, ol, r, k⟩ => by
    obtain ⟨x, t, rfl, h1, h2⟩ := r
    exact ⟨x, t, rfl, o, d, ρ, M, _, h, F, om, ol, h1, fun F1 H1 σ1 ρ1 M1 e1 om1 ol1 s1 q1 => ⟨o, ds, ρ1, M1, q, q1, F1, om1, ol1, h2.mono e1, fun F2 H2 σ2 ρ2 M2 e2 om2 ol2 s2 q2 => k F2 H2 σ2 ρ2 M2 (e1.trans e2) om2 ol2 (s1.trans s2) q2⟩⟩
theorem dg_tup {k : Nat} {n : Nat} (hc : X.calm = true) (hl : ds.length = n) (h : DGs X F0 o es ds ρ M q) (hn : (assignEach es X.env).length = n := by rfl) (hst : (assignEach es X.env).findIdx? (·.1) = none := by rfl) : DG X F0 o (.Tuple es k pos) (.tup ds) ρ M q :=
  PG.wk (pg_tup hc (uGs (F0 := F0)) hn hst) fun v σ H Q ⟨F, om, ol, r, kq⟩ => by
    obtain ⟨p, xs, rfl, h2, h3⟩ := r
    exact ⟨p, xs, rfl, ex_t om.sub h2, by rw [← h3.length]; exact hl, o, ds, ρ, M, q, h, F, om, ol, h3, kq⟩
/-- xs[i] = d, xs a list that may change -/
theorem dg_sub {oe ie : Expr} (h : DE X F0 oe ρ M fun x M1 => DE X F0 ie ρ M1 fun y M2 => ∃ p ds i j, x = .ptr p ∧ y = .int i ∧ M2 p = some (.lst ds) ∧ ixN ds.length i = some j ∧ q ρ (updM M2 p (.lst (ds.set j d))))
    (ha : ∀ v, assign (.Subscript oe ie pos) X.env v = (do
      let ov ← holding [v] (eval oe X.env)
      let iv ← holding [v, ov] (eval ie X.env)
      standAt pos
      holding [v, ov, iv] (setItem ov iv v)
      release [v, ov, iv] []) := by intro _; rfl) : DG X F0 o (.Subscript oe ie pos) d ρ M q :=
  PG.wk (pg_sub (uE (F0 := F0)) (uE (F0 := F0)) set_list ha) fun v σ H Q ⟨F, om, ol, r, k⟩ => tU.go h om ol fun F1 H1 vx x M1 e1 om1 r1 h1 => tU.go h1 om1 (ol.mono e1) fun F2 H2 vy y M2 e2 om2 r2 ⟨p, ds, i, j, hx, hy, hM, hj, hq⟩ => by
    subst hx
    subst hy
    obtain rfl : vx = .ref p := r1
    obtain rfl : vy = .int i := r2
    obtain ⟨hF, u, hu, ru⟩ := om2.mem p _ hM
    obtain ⟨xs, rfl, rs⟩ := ru
    have rd : Rep X.K F2 d v := r.mono (e1.trans e2)
    exact ⟨p, xs, i, j, rfl, rfl, hu, by rw [← rs.length]; exact hj, k F2 _ σ ρ _ (e1.trans e2) (om2.put hM (repM_lst (rs.set j rd))) (ol.mono (e1.trans e2)) (RelS.refl o σ) hq⟩
end
end DL
/-! DL5: comprehensions, statements, defs -/
namespace DL
open PySem PySem.Spec PyProof.Rows L2

/-! ### comprehensions -/
abbrev blkX (X : Cx) (scope : Scope) (s : Shared) (H : Hp) (C : Addr) (cl : List (Str × Addr)) (fp : List Addr) : Cx := X.blk s H scope (compEnvC scope cl C X.env) fp
/-- something in every context of a comprehension's block -/
def Blk (X : Cx) (scope : Scope) (P : Cx → Prop) : Prop := ∀ (s : Shared) (H : Hp) (C : Addr) (cl : List (Str × Addr)) (fp : List Addr), P (blkX X scope s H C cl fp)
def wipeD (ρ : DEnv) : List Nat → DEnv
  | [] => ρ
  | v :: vs => (wipeD ρ vs).set v none
theorem OkL.forget {K : PySem.W.Frag} {F : Hp} {ρ : DEnv} {σ : L2.St} (o : OkL K F ρ σ) (i : Nat) : OkL K F (ρ.set i none) (σ.set i none) := by
  refine ⟨by rw [List.length_set, List.length_set, o.len], fun j d h => ?_⟩
  by_cases hj : i = j
  · subst hj
    by_cases hi : i < ρ.length
    · rw [List.getElem?_set_self hi] at h
      cases h
    · rw [List.getElem?_eq_none (by rw [List.length_set]; omega)] at h
      cases h
  · rw [List.getElem?_set_ne hj] at h ⊢
    exact o.loc j d h
theorem OkL.wipe {K : PySem.W.Frag} {F : Hp} {ρ : DEnv} {σ : L2.St} (o : OkL K F ρ σ) : ∀ vs : List Nat, OkL K F (wipeD ρ vs) (L2.wipe σ vs)
  | [] => o
  | v :: vs => (o.wipe vs).forget v
def DTs (X : Cx) (F0 : Hp) (ifs : List Expr) (ρ : DEnv) (M : Mem) (q : Bool → Mem → Prop) : Prop := PTs X ifs (tDT X.K F0 ρ M q)
theorem PTs.wk {X : Cx} {ifs : List Expr} {t t' : TT} (h : PTs X ifs t) (w : ∀ σ H Q, t' σ H Q → t σ H Q) : PTs X ifs t' := ⟨fun pins s σ H Q I q => h.run pins s σ H Q I (w σ H Q q)⟩
theorem dts_nil {X : Cx} {F0 : Hp} {ρ : DEnv} {M : Mem} {q : Bool → Mem → Prop} (h : q true M) : DTs X F0 [] ρ M q := PTs.wk pts_nil fun σ H Q ⟨F, om, ol, k⟩ => k F H true M (Ex.refl F) om h
theorem dts_one {X : Cx} {F0 : Hp} {ρ : DEnv} {M : Mem} {q : Bool → Mem → Prop} {c : Expr} (h : DT X F0 c ρ M q) : DTs X F0 [c] ρ M q := pts_one h
/-- the items ds are left, acc is made: the new list stands in the cell D -/
def DCp (X : Cx) (F0 : Hp) (scope : Scope) (vs : List Nat) (tg : Expr) (ifs : List Expr) (elt : Expr) (ρw : DEnv) (D : Addr) (q : List Dat → Mem → Prop) : List Dat → List Dat → Mem → Prop
  | [], acc, M => q acc M
  | d :: r, acc, M => Blk X scope fun X' => DG X' F0 (some vs) tg d ρw M fun ρ2 M2 => Blk X scope fun X' => DTs X' F0 ifs ρ2 M2 fun b M3 =>
      (b = true → Blk X scope fun X' => DE X' F0 elt ρ2 M3 fun y M4 => M4 D = some (.lst acc) ∧ DCp X F0 scope vs tg ifs elt ρw D q r (acc ++ [y]) (updM M4 D (.lst (acc ++ [y])))) ∧
      (b = false → M3 D = some (.lst acc) ∧ DCp X F0 scope vs tg ifs elt ρw D q r acc M3)
section
variable {X : Cx} {F0 : Hp} {ρ : DEnv} {M : Mem} {elt tg iter : Expr} {ifs : List Expr} {scope : Scope} {own : List (Str × Nat)} {pos : Pos}
def uBG (X : Cx) (F0 : Hp) (scope : Scope) (vs : List Nat) (tg : Expr) : TG := fun v σ H Q => ∃ d ρ M q, (Blk X scope fun X' => DG X' F0 (some vs) tg d ρ M q) ∧ tDG X.K F0 (some vs) d ρ M q v σ H Q
def uBT (X : Cx) (F0 : Hp) (scope : Scope) (ifs : List Expr) : TT := fun σ H Q => ∃ ρ M q, (Blk X scope fun X' => DTs X' F0 ifs ρ M q) ∧ tDT X.K F0 ρ M q σ H Q
def uBE (X : Cx) (F0 : Hp) (scope : Scope) (elt : Expr) : TE := fun σ H Q => ∃ ρ M q, (Blk X scope fun X' => DE X' F0 elt ρ M q) ∧ tD X.K F0 ρ M q σ H Q
theorem wipe_wipe (τ : L2.St) (vs : List Nat) : L2.wipe (L2.wipe τ vs) vs = L2.wipe τ vs := by
  have key : ∀ (ws : List Nat), (∀ v ∈ ws, v ∈ vs) → L2.wipe (L2.wipe τ ws) vs = L2.wipe τ vs := by
    intro ws
    induction ws with
    | nil => intro _; rfl
    | cons w ws ih =>
      intro hw
      show L2.wipe ((L2.wipe τ ws).set w none) vs = _
      rw [wipe_set (hw w List.mem_cons_self), ih fun v hv => hw v (List.mem_cons_of_mem _ hv)]
  exact key vs fun _ h => h
/-- the walk of a comprehension -/
theorem lc_walk {F : Hp} {σ : L2.St} {H : Hp} {J : It} {ds : List Dat} {q : List Dat → Mem → Prop} {Q : Hp → Prop} (om : OkM X.K F0 F M H) (ol : OkL X.K F ρ σ) (wk : WalkD X.K F0 F J ds) (hl : ds.length ≤ 100000) (D : Addr) (hD : H D = none)
    (h : DCp X F0 scope (own.map (·.2)) tg ifs elt (wipeD ρ (own.map (·.2))) D q ds [] (updM M D (.lst [])))
    (fin : ∀ F' H' acc M', Ex F F' → OkM X.K F0 F' M' H' → M' D = some (.lst acc) → q acc M' → Q H') :
    ∃ W : Nat → Nat → Hp → Prop, (∃ m, W 0 m (upd H D (.lst []))) ∧ ∀ i m H, W i m H →
      (J.stop i H ∧ Q H) ∨ (J.go i H ∧ ∃ Nx : Hp → Prop, (∀ H', Nx H' → ∃ m', m' < m ∧ W (i + 1) m' H') ∧ ∀ x H', J.yld i H x H' → uBG X F0 scope (own.map (·.2)) tg x (L2.wipe σ (own.map (·.2))) H' fun σ2 H2 => L2.wipe σ2 (own.map (·.2)) = L2.wipe σ (own.map (·.2)) ∧ uBT X F0 scope ifs σ2 H2 fun b H3 =>
        if b = true then uBE X F0 scope elt σ2 H3 fun y H4 => ∃ acc, H4 D = some (.lst acc) ∧ acc.length < sizeLine ∧ Nx (upd H4 D (.lst (acc ++ [y]))) else Nx H3) := by
  refine ⟨fun i m H' => m = ds.length - i ∧ i ≤ ds.length ∧ ∃ F' M' acc, Ex F F' ∧ OkM X.K F0 F' M' H' ∧ M' D = some (.lst acc) ∧ acc.length ≤ i ∧ DCp X F0 scope (own.map (·.2)) tg ifs elt (wipeD ρ (own.map (·.2))) D q (ds.drop i) acc M',
    ⟨ds.length, by simp, Nat.zero_le _, F, _, [], Ex.refl F, om.cell hD (repM_lst Reps.nil), updM_same, Nat.le_refl _, h⟩, ?_⟩
  rintro i m H1 ⟨rfl, hi, F1, M1, acc, e1, om1, hM1, hx, hc⟩
  obtain ⟨w1, w2⟩ := wk F1 H1 _ i e1 om1
  by_cases hlt : i < ds.length
  · have hd : ds[i]? = some ds[i] := List.getElem?_eq_getElem hlt
    obtain ⟨go, yl⟩ := w1 _ hd
    rw [List.drop_eq_getElem_cons hlt] at hc
    refine .inr ⟨go, fun H' => ∃ F' M' acc, Ex F F' ∧ OkM X.K F0 F' M' H' ∧ M' D = some (.lst acc) ∧ acc.length ≤ i + 1 ∧ DCp X F0 scope (own.map (·.2)) tg ifs elt (wipeD ρ (own.map (·.2))) D q (ds.drop (i + 1)) acc M',
      fun H' z => ⟨ds.length - (i + 1), by omega, rfl, hlt, z⟩, fun x H' y => ?_⟩
    obtain ⟨F2, e2, om2, r2⟩ := yl x H' y
    refine ⟨_, _, M1, _, hc, F2, om2, (ol.mono (e1.trans e2)).wipe _, r2, fun F3 H3 σ3 ρ3 M3 e3 om3 ol3 s3 h3 => ⟨Eq.trans s3 (wipe_wipe σ _), ρ3, M3, _, h3, F3, om3, ol3, fun F4 H4 b M4 e4 om4 h4 => ?_⟩⟩
    cases b with
    | true =>
      rw [if_pos rfl]
      refine ⟨ρ3, M4, _, h4.1 rfl, F4, om4, ol3.mono e4, fun F5 H5 v y M5 e5 om5 r5 ⟨h5, h6⟩ => ?_⟩
      obtain ⟨hF5, u, hu, ru⟩ := om5.mem D _ h5
      obtain ⟨xs, rfl, rs⟩ := ru
      refine ⟨xs, hu, ?_, F5, _, acc ++ [y], (((e1.trans e2).trans e3).trans e4).trans e5, om5.put h5 (repM_lst (rs.app (Reps.cons r5 Reps.nil))), updM_same, ?_, h6⟩
      · rw [← rs.length]
        have z : (100000 : Nat) < sizeLine := by decide
        omega
      · rw [List.length_append, List.length_singleton]
        omega
    | false =>
      rw [if_neg Bool.false_ne_true]
      obtain ⟨h5, h6⟩ := h4.2 rfl
      exact ⟨F4, M4, acc, ((e1.trans e2).trans e3).trans e4, om4, h5, by omega, h6⟩
  · have e : i = ds.length := by omega
    subst e
    rw [List.drop_length] at hc
    exact .inl ⟨w2 (Nat.le_refl _), fin F1 H1 acc M1 e1 om1 hM1 hc⟩
theorem bG {vs : List Nat} (s : Shared) (H : Hp) (C : Addr) (cl : List (Str × Addr)) (fp : List Addr) : PG (X.blk s H scope (compEnvC scope cl C X.env) fp) tg (uBG X F0 scope vs tg) :=
  ⟨fun pins s2 σ H2 v u Q I r ⟨_, _, _, _, h, t⟩ => (show PG _ tg _ from h s H C cl fp).run pins s2 σ H2 v u Q I r t⟩
theorem bT (s : Shared) (H : Hp) (C : Addr) (cl : List (Str × Addr)) (fp : List Addr) : PTs (X.blk s H scope (compEnvC scope cl C X.env) fp) ifs (uBT X F0 scope ifs) :=
  ⟨fun pins s2 σ H2 Q I ⟨_, _, _, h, t⟩ => (show PTs _ ifs _ from h s H C cl fp).run pins s2 σ H2 Q I t⟩
theorem bE (s : Shared) (H : Hp) (C : Addr) (cl : List (Str × Addr)) (fp : List Addr) : PE (X.blk s H scope (compEnvC scope cl C X.env) fp) elt (uBE X F0 scope elt) :=
  ⟨fun pins s2 σ H2 Q I ⟨_, _, _, h, t⟩ => (show PE _ elt _ from h s H C cl fp).run pins s2 σ H2 Q I t⟩
/-- what a comprehension wants of the items -/
def LcK (X : Cx) (F0 : Hp) (scope : Scope) (own : List (Str × Nat)) (tg : Expr) (ifs : List Expr) (elt : Expr) (ρ : DEnv) (q : Addr → List Dat → Mem → Prop) (ds : List Dat) (M1 : Mem) : Prop :=
  ds.length ≤ 100000 ∧ ∀ D, M1 D = none → DCp X F0 scope (own.map (·.2)) tg ifs elt (wipeD ρ (own.map (·.2))) D (q D) ds [] (updM M1 D (.lst []))
theorem lc_go {q : Addr → List Dat → Mem → Prop} {wi : TI} {Q : VK} {σ : L2.St} {H F : Hp} (om : OkM X.K F0 F M H) (ol : OkL X.K F ρ σ)
    (hw : ∀ F σ H (R : It → Hp → Prop), OkM X.K F0 F M H → OkL X.K F ρ σ → (∀ F' H' J ds M', Ex F F' → OkM X.K F0 F' M' H' → WalkD X.K F0 F' J ds → LcK X F0 scope own tg ifs elt ρ q ds M' → R J H') → wi σ H R)
    (fin : ∀ D F' H' acc M', Ex F F' → OkM X.K F0 F' M' H' → M' D = some (.lst acc) → q D acc M' → Q (.ref D) H') :
    tLc wi (uBG X F0 scope (own.map (·.2)) tg) (uBT X F0 scope ifs) (uBE X F0 scope elt) (own.map (·.2)) σ H Q :=
  hw F σ H _ om ol fun F1 H1 J ds M1 e1 om1 wk ⟨hl, h1⟩ D hD => lc_walk (Q := Q (.ref D)) om1 (ol.mono e1) wk hl D hD (h1 D (om1.freeM hD)) fun F2 H2 acc M2 e2 om2 hM2 h2 => fin D F2 H2 acc M2 (e1.trans e2) om2 hM2 h2
/-- the list stays a cell -/
theorem de_lcC {q : DK} (hc : X.calm = true) (hN : X.N.Nodup) (ok : BlkOk X.N X.env.scope scope own) (h : DI X F0 tg iter ρ M (LcK X F0 scope own tg ifs elt ρ fun D acc M' => q (.ptr D) M')) (hs : ∀ x, foldedSetIterable iter X.env x = pure x := by intro _; rfl) :
    DE X F0 (.ListComp elt [⟨tg, iter, ifs, 0⟩] scope pos) ρ M q := by
  obtain ⟨wi, hi, hw⟩ := h
  exact PE.wk (pe_lc (te := uBE X F0 scope elt) (tt := uBT X F0 scope ifs) (g := uBG X F0 scope (own.map (·.2)) tg) hc hN hi ok (fun s H C cl fp => bG s H C cl fp) (fun s H C cl fp => bT s H C cl fp) (fun s H C cl fp => bE s H C cl fp) hs)
    fun σ H Q ⟨F, om, ol, k⟩ => lc_go om ol hw fun D F' H' acc M' e' om' hM h' => k F' H' _ _ M' e' om' rep_ptr h'
theorem kV.frz {K : PySem.W.Frag} {F F' : Hp} {H' : Hp} {M' : Mem} {q : DK} {Q : VK} (k : kV K F0 F q Q) (e' : Ex F F') (om' : OkM K F0 F' M' H') {D : Addr} {acc : List Dat} (hM : M' D = some (.lst acc)) (h' : q (.lst acc) (delM M' D)) : Q (.ref D) H' := by
  obtain ⟨hF, u, hu, ru⟩ := om'.mem D _ hM
  obtain ⟨xs, rfl, rs⟩ := ru
  exact k (upd F' D (.lst xs)) H' _ _ _ (e'.trans (Ex.new hF)) (om'.freeze hM hu) (rep_lst upd_same (rs.mono (Ex.new hF))) h'
/-- the list will not change -/
theorem de_lc {q : DK} (hc : X.calm = true) (hN : X.N.Nodup) (ok : BlkOk X.N X.env.scope scope own) (h : DI X F0 tg iter ρ M (LcK X F0 scope own tg ifs elt ρ fun D acc M' => q (.lst acc) (delM M' D))) (hs : ∀ x, foldedSetIterable iter X.env x = pure x := by intro _; rfl) :
    DE X F0 (.ListComp elt [⟨tg, iter, ifs, 0⟩] scope pos) ρ M q := by
  obtain ⟨wi, hi, hw⟩ := h
  exact PE.wk (pe_lc (te := uBE X F0 scope elt) (tt := uBT X F0 scope ifs) (g := uBG X F0 scope (own.map (·.2)) tg) hc hN hi ok (fun s H C cl fp => bG s H C cl fp) (fun s H C cl fp => bT s H C cl fp) (fun s H C cl fp => bE s H C cl fp) hs)
    fun σ H Q ⟨F, om, ol, k⟩ => lc_go om ol hw fun D F' H' acc M' e' om' hM h' => k.frz e' om' hM h'
/-- each item gives f of it, nothing changes -/
theorem dcp_map {vs : List Nat} {ρw : DEnv} {D : Addr} {q : List Dat → Mem → Prop} (f : Dat → Dat) : ∀ (r acc : List Dat) (M : Mem), M D = none →
    (∀ d ∈ r, ∀ acc, Blk X scope fun X' => ∀ q' : DEnv → Mem → Prop, (∀ ρ2, (Blk X scope fun X' => ∀ q2 : Bool → Mem → Prop, q2 true (updM M D (.lst acc)) → DTs X' F0 ifs ρ2 (updM M D (.lst acc)) q2) → (Blk X scope fun X' => ∀ q2 : DK, q2 (f d) (updM M D (.lst acc)) → DE X' F0 elt ρ2 (updM M D (.lst acc)) q2) → q' ρ2 (updM M D (.lst acc))) →
      DG X' F0 (some vs) tg d ρw (updM M D (.lst acc)) q') →
    q (acc ++ r.map f) (updM M D (.lst (acc ++ r.map f))) → DCp X F0 scope vs tg ifs elt ρw D q r acc (updM M D (.lst acc))
  | [], acc, M, hM, _, h => by
    rw [List.map_nil, List.append_nil] at h
    exact h
  | d :: r, acc, M, hM, hd, h => fun s H C cl fp => hd d List.mem_cons_self acc s H C cl fp _ fun ρ2 h1 h2 => fun s H C cl fp => h1 s H C cl fp _ ⟨fun _ => fun s H C cl fp => h2 s H C cl fp _ ⟨updM_same, by
      rw [updM_updM]
      refine dcp_map f r (acc ++ [f d]) M hM (fun e he => hd e (List.mem_cons_of_mem _ he)) ?_
      rw [List.append_assoc]
      exact h⟩, fun z => by cases z⟩
end

/-! ### statements -/
section
variable {X : Cx} {F0 : Hp} {ρ : DEnv} {M : Mem} {D : DEnds} {st : Stmt} {sts a b : List Stmt} {e c : Expr} {pos : Pos}
theorem dss_nil (h : D.nx ρ M) : DSs X F0 [] ρ M D := PSs.wk pss_nil fun E σ H ⟨F, om, ol, k⟩ => k.nx F H σ ρ M (Ex.refl F) om ol h
theorem dss_cons (h : DS X F0 st ρ M { D with nx := fun ρ' M' => DSs X F0 sts ρ' M' D }) : DSs X F0 (st :: sts) ρ M D :=
  PSs.wk (pss_cons (uS (F0 := F0)) (uSs (F0 := F0))) fun E σ H ⟨F, om, ol, k⟩ => tUS.go h om ol ⟨fun F' H' σ' ρ' M' e om' ol' h' => tUSs.go h' om' ol' (k.mono e), k.rt, k.bk, k.ct⟩
theorem dss_one (h : DS X F0 st ρ M D) : DSs X F0 [st] ρ M D := pss_one h
theorem ds_pass (h : D.nx ρ M) : DS X F0 (.Pass pos) ρ M D := PS.wk ps_pass fun E σ H ⟨F, om, ol, k⟩ => k.nx F H σ ρ M (Ex.refl F) om ol h
theorem ds_break (h : D.bk ρ M) : DS X F0 (.Break pos) ρ M D := PS.wk ps_break fun E σ H ⟨F, om, ol, k⟩ => k.bk F H σ ρ M (Ex.refl F) om ol h
theorem ds_continue (h : D.ct ρ M) : DS X F0 (.Continue pos) ρ M D := PS.wk ps_continue fun E σ H ⟨F, om, ol, k⟩ => k.ct F H σ ρ M (Ex.refl F) om ol h
theorem ds_expr (h : DE X F0 e ρ M fun _ M' => D.nx ρ M') (hs : swapsWith e none pos.line X.env = pure false := by rfl) : DS X F0 (.Expr e pos) ρ M D :=
  PS.wk (ps_expr (uE (F0 := F0)) hs) fun E σ H ⟨F, om, ol, k⟩ => tU.go h om ol fun F' H' v d M' e om' r h' => k.nx F' H' σ ρ M' e om' (ol.mono e) h'
theorem ds_ret (h : DE X F0 e ρ M D.rt) : DS X F0 (.Return (some e) pos) ρ M D := PS.wk (ps_ret (uE (F0 := F0))) fun E σ H ⟨F, om, ol, k⟩ => tU.go h om ol k.rt
theorem ds_retN (h : D.rt .non M) : DS X F0 (.Return none pos) ρ M D := PS.wk ps_retN fun E σ H ⟨F, om, ol, k⟩ => k.rt.fin om rep_non h
theorem ds_if (h : DT X F0 c ρ M fun k M1 => (k = true → DSs X F0 a ρ M1 D) ∧ (k = false → DSs X F0 b ρ M1 D)) : DS X F0 (.If c a b pos) ρ M D :=
  PS.wk (ps_if (uT (F0 := F0)) (uSs (F0 := F0)) (uSs (F0 := F0))) fun E σ H ⟨F, om, ol, k⟩ => tUT.go h om ol fun F1 H1 c M1 e1 om1 ⟨h1, h2⟩ => by
    cases c with
    | true =>
      rw [if_pos rfl]
      exact tUSs.go (h1 rfl) om1 (ol.mono e1) (k.mono e1)
    | false =>
      rw [if_neg Bool.false_ne_true]
      exact tUSs.go (h2 rfl) om1 (ol.mono e1) (k.mono e1)
/-- name = e -/
theorem ds_set {i : Nat} {x : Str} {pos' : Pos} (hN : X.N.Nodup) (hi : X.N[i]? = some x) (hx : Loc X.env.scope x) (h : DE X F0 e ρ M fun d M' => D.nx (ρ.set i (some d)) M') (hs : swapsWith e (some (.Name x pos')) pos.line X.env = pure false := by rfl)
    (hf : X.fn x = true ∨ X.env.scope.names.lookup x = some .local := by first | exact .inl rfl | exact .inr rfl | assumption) : DS X F0 (.Assign [.Name x pos'] e pos) ρ M D :=
  PS.wk (ps_set hN hi hx (uE (F0 := F0)) hs hf) fun E σ H ⟨F, om, ol, k⟩ => tU.go h om ol fun F' H' v d M' e om' r h' => k.nx F' H' _ _ M' e om' ((ol.mono e).set i r) h'
/-- target = e -/
theorem ds_asg {tg : Expr} (h : DE X F0 e ρ M fun d M' => DG X F0 none tg d ρ M' D.nx) (hs : swapsWithSole [tg] e pos.line X.env = pure false := by rfl) (hw : swappedStores [tg] e X.env = pure none := by rfl)
    (h1 : (assignEach [tg] X.env).map (·.2) = [assign tg X.env] := by rfl) : DS X F0 (.Assign [tg] e pos) ρ M D :=
  PS.wk (ps_asg (uE (F0 := F0)) (uG (F0 := F0)) hs hw h1) fun E σ H ⟨F, om, ol, k⟩ => tU.go h om ol fun F' H' v d M' e om' r h' =>
    ⟨none, d, ρ, M', _, h', F', om', ol.mono e, r, fun F2 H2 σ2 ρ2 M2 e2 om2 ol2 _ h2 => k.nx F2 H2 σ2 ρ2 M2 (e.trans e2) om2 ol2 h2⟩
/-- x, y = a, b -/
theorem ds_par {i j : Nat} {x y : Str} {a b : Expr} {px py pt : Pos} {kt k2 pt2} (hc : X.calm = true) (hN : X.N.Nodup) (hi : X.N[i]? = some x) (hj : X.N[j]? = some y) (hij : i ≠ j)
    (hx : X.env.scope.names.lookup x = some .local) (hy : X.env.scope.names.lookup y = some .local) (h : DA X F0 [a, b] ρ M fun ds M' => ∃ d d', ds = [d, d'] ∧ D.nx ((ρ.set i (some d)).set j (some d')) M')
    (hw : swappedStores [.Tuple [.Name x px, .Name y py] kt pt] (.Tuple [a, b] k2 pt2) X.env = pure (some [x, y]))
    (hs : swapsWithSole [.Tuple [.Name x px, .Name y py] kt pt] (.Tuple [a, b] k2 pt2) pos.line X.env = pure false := by rfl) : DS X F0 (.Assign [.Tuple [.Name x px, .Name y py] kt pt] (.Tuple [a, b] k2 pt2) pos) ρ M D :=
  PS.wk (ps_par hc hN hi hj hij hx hy (uA (F0 := F0)) hw hs) fun E σ H ⟨F, om, ol, k⟩ => tUA.go h om ol fun F' H' vs ds M' e om' r ⟨d, d', hd, h'⟩ => by
    subst hd
    obtain ⟨v, t, rfl, r1, v', t', rfl, r2, hn⟩ := r
    cases hn
    exact ⟨v, v', rfl, k.nx F' H' _ _ M' e om' (((ol.mono e).set i r1).set j r2) h'⟩
/-- name op= e, ints -/
theorem ds_augI {i : Nat} {x : Str} {pos' : Pos} {op : Operator} {f : Int → Int → Int} (hN : X.N.Nodup) (hi : X.N[i]? = some x) (hx : Loc X.env.scope x) (ho : PIp X op (ipI f)) (h : ∃ m, ρ[i]? = some (some (.int m)) ∧ DE X F0 e ρ M fun d M' => ∃ n, d = .int n ∧ D.nx (ρ.set i (some (.int (f m n)))) M')
    (hf : X.fn x = true ∨ X.env.scope.names.lookup x = some .local := by first | exact .inl rfl | exact .inr rfl | assumption) : DS X F0 (.AugAssign (.Name x pos') op e pos) ρ M D :=
  PS.wk (ps_aug hN hi hx (uE (F0 := F0)) ho hf) fun E σ H ⟨F, om, ol, k⟩ => by
    obtain ⟨m, hm, h⟩ := h
    obtain ⟨v, h1, h2⟩ := ol.loc i _ hm
    refine ⟨v, h1, tU.go h om ol fun F' H' w d M' e om' r ⟨n, hd, h'⟩ => ?_⟩
    subst hd
    exact ⟨m, n, h2, r, k.nx F' H' _ _ M' e om' ((ol.mono e).set i rep_int) h'⟩
/-- name = [..], a local on one line -/
theorem ds_setLc {i : Nat} {y : Str} {py : Pos} {elt tg iter : Expr} {ifs : List Expr} {scope : Scope} {own : List (Str × Nat)} {pos spos : Pos} (hc : X.calm = true) (hN : X.N.Nodup) (hy : X.N[i]? = some y) (hyl : X.env.scope.names.lookup y = some .local)
    (hsw : swapsWith (.ListComp elt [⟨tg, iter, ifs, 0⟩] scope pos) (some (.Name y py)) spos.line X.env = pure true) (ok : BlkOk X.N X.env.scope scope own)
    (h : DI X F0 tg iter ρ M (LcK X F0 scope own tg ifs elt ρ fun A acc M' => D.nx (ρ.set i (some (.lst acc))) (delM M' A))) (hs : ∀ x, foldedSetIterable iter X.env x = pure x := by intro _; rfl) : DS X F0 (.Assign [.Name y py] (.ListComp elt [⟨tg, iter, ifs, 0⟩] scope pos) spos) ρ M D := by
  obtain ⟨wi, hi, hw⟩ := h
  refine PS.wk (ps_setLc (te := uBE X F0 scope elt) (tt := uBT X F0 scope ifs) (g := uBG X F0 scope (own.map (·.2)) tg) hc hN hy hyl hsw hi ok (fun s H C cl fp => bG s H C cl fp) (fun s H C cl fp => bT s H C cl fp) (fun s H C cl fp => bE s H C cl fp) hs) fun E σ H ⟨F, om, ol, k⟩ => ?_
  refine lc_go (Q := fun v H' => E.nx (σ.set i (some v)) H') om ol hw fun A F' H' acc M' e' om' hM h' => ?_
  obtain ⟨hF, u, hu, ru⟩ := om'.mem A _ hM
  obtain ⟨xs, rfl, rs⟩ := ru
  exact k.nx (upd F' A (.lst xs)) H' _ _ _ (e'.trans (Ex.new hF)) (om'.freeze hM hu) ((ol.mono (e'.trans (Ex.new hF))).set i (rep_lst upd_same (rs.mono (Ex.new hF)))) h'
theorem ds_setLcC {i : Nat} {y : Str} {py : Pos} {elt tg iter : Expr} {ifs : List Expr} {scope : Scope} {own : List (Str × Nat)} {pos spos : Pos} (hc : X.calm = true) (hN : X.N.Nodup) (hy : X.N[i]? = some y) (hyl : X.env.scope.names.lookup y = some .local)
    (hsw : swapsWith (.ListComp elt [⟨tg, iter, ifs, 0⟩] scope pos) (some (.Name y py)) spos.line X.env = pure true) (ok : BlkOk X.N X.env.scope scope own)
    (h : DI X F0 tg iter ρ M (LcK X F0 scope own tg ifs elt ρ fun A acc M' => D.nx (ρ.set i (some (.ptr A))) M')) (hs : ∀ x, foldedSetIterable iter X.env x = pure x := by intro _; rfl) : DS X F0 (.Assign [.Name y py] (.ListComp elt [⟨tg, iter, ifs, 0⟩] scope pos) spos) ρ M D := by
  obtain ⟨wi, hi, hw⟩ := h
  refine PS.wk (ps_setLc (te := uBE X F0 scope elt) (tt := uBT X F0 scope ifs) (g := uBG X F0 scope (own.map (·.2)) tg) hc hN hy hyl hsw hi ok (fun s H C cl fp => bG s H C cl fp) (fun s H C cl fp => bT s H C cl fp) (fun s H C cl fp => bE s H C cl fp) hs) fun E σ H ⟨F, om, ol, k⟩ => ?_
  exact lc_go (Q := fun v H' => E.nx (σ.set i (some v)) H') om ol hw fun A F' H' acc M' e' om' hM h' => k.nx F' H' _ _ _ e' om' ((ol.mono e').set i rep_ptr) h'

/-! ### loops -/
/-- the items ds are left -/
def DLoop (X : Cx) (F0 : Hp) (tg : Expr) (body : List Stmt) (D : DEnds) : List Dat → DEnv → Mem → Prop
  | [], ρ, M => D.nx ρ M
  | d :: r, ρ, M => DG X F0 none tg d ρ M fun ρ2 M2 => DSs X F0 body ρ2 M2 { D with nx := DLoop X F0 tg body D r, ct := DLoop X F0 tg body D r, bk := D.nx }
theorem ds_for {tg iter : Expr} {body : List Stmt} (hp : PassesOwn (model X.prog X.w) X.A X.env X.xe) (hc : X.calm = true) (h : DI X F0 tg iter ρ M fun ds M1 => DLoop X F0 tg body D ds ρ M1) (hs : ∀ x, foldedSetIterable iter X.env x = pure x := by intro _; rfl) :
    DS X F0 (.For tg iter body [] pos) ρ M D := by
  obtain ⟨wi, hi, hw⟩ := h
  refine PS.wk (ps_for hp hc hi (uG (F0 := F0)) (uSs (F0 := F0)) hs) fun E σ H ⟨F, om, ol, k⟩ => hw F σ H _ om ol fun F1 H1 J ds M1 e1 om1 wk h1 => ?_
  refine ⟨fun i m σ' H' => m = ds.length - i ∧ i ≤ ds.length ∧ ∃ F' ρ' M', Ex F1 F' ∧ OkM X.K F0 F' M' H' ∧ OkL X.K F' ρ' σ' ∧ DLoop X F0 tg body D (ds.drop i) ρ' M', ⟨ds.length, by simp, Nat.zero_le _, F1, ρ, M1, Ex.refl F1, om1, ol.mono e1, h1⟩, ?_⟩
  rintro i m σ2 H2 ⟨rfl, hi2, F2, ρ2, M2, e2, om2, ol2, h2⟩
  obtain ⟨w1, w2⟩ := wk F2 H2 _ i e2 om2
  by_cases hlt : i < ds.length
  · have hd : ds[i]? = some ds[i] := List.getElem?_eq_getElem hlt
    obtain ⟨go, yl⟩ := w1 _ hd
    rw [List.drop_eq_getElem_cons hlt] at h2
    refine .inr ⟨go, fun σ' H' => ∃ F' ρ' M', Ex F1 F' ∧ OkM X.K F0 F' M' H' ∧ OkL X.K F' ρ' σ' ∧ DLoop X F0 tg body D (ds.drop (i + 1)) ρ' M', fun σ' H' z => ⟨ds.length - (i + 1), by omega, rfl, hlt, z⟩, fun x H' y => ?_⟩
    obtain ⟨F3, e3, om3, r3⟩ := yl x H' y
    refine ⟨none, _, ρ2, M2, _, h2, F3, om3, ol2.mono e3, r3, fun F4 H4 σ4 ρ4 M4 e4 om4 ol4 _ h4 => tUSs.go h4 om4 ol4 ?_⟩
    have em : Ex F F4 := ((e1.trans e2).trans e3).trans e4
    refine ⟨fun F5 H5 σ5 ρ5 M5 e5 om5 ol5 h5 => ⟨F5, ρ5, M5, ((e2.trans e3).trans e4).trans e5, om5, ol5, h5⟩, k.rt.mono em, k.nx.mono em, fun F5 H5 σ5 ρ5 M5 e5 om5 ol5 h5 => ⟨F5, ρ5, M5, ((e2.trans e3).trans e4).trans e5, om5, ol5, h5⟩⟩
  · have e : i = ds.length := by omega
    subst e
    rw [List.drop_length] at h2
    exact .inl ⟨w2 (Nat.le_refl _), k.nx F2 H2 σ2 ρ2 M2 (e1.trans e2) om2 ol2 h2⟩
/-- a loop by an invariant -/
theorem dloop_inv {tg : Expr} {body : List Stmt} (P : Nat → DEnv → Mem → Prop) : ∀ (r : List Dat) (i : Nat) (ρ : DEnv) (M : Mem), P i ρ M →
    (∀ (j : Nat) (d : Dat) ρ M, r[j]? = some d → P (i + j) ρ M → DG X F0 none tg d ρ M fun ρ2 M2 => DSs X F0 body ρ2 M2 { D with nx := P (i + j + 1), ct := P (i + j + 1), bk := D.nx }) → (∀ ρ M, P (i + r.length) ρ M → D.nx ρ M) → DLoop X F0 tg body D r ρ M
  | [], i, ρ, M, h0, _, hd => hd ρ M h0
  | d :: r, i, ρ, M, h0, hs, hd => by
    have step := hs 0 d ρ M rfl h0
    have rest : ∀ ρ' M', P (i + 1) ρ' M' → DLoop X F0 tg body D r ρ' M' := fun ρ' M' h => dloop_inv P r (i + 1) ρ' M' h (fun j d ρ M hj hP => by
      have z := hs (j + 1) d ρ M (by simpa using hj) (by rw [show i + (j + 1) = i + 1 + j by omega]; exact hP)
      rw [show i + (j + 1) + 1 = i + 1 + j + 1 by omega] at z
      exact z) (fun ρ M hP => hd ρ M (by
        rw [List.length_cons, show i + (r.length + 1) = i + 1 + r.length by omega]
        exact hP))
    refine PG.wk step fun v σ H Q ⟨F, om, ol, rv, k⟩ => ⟨F, om, ol, rv, fun F1 H1 σ1 ρ1 M1 e1 om1 ol1 s1 h1 => k F1 H1 σ1 ρ1 M1 e1 om1 ol1 s1 (PSs.wk h1 fun E τ H2 ⟨F2, om2, ol2, k2⟩ => ⟨F2, om2, ol2, ?_⟩)⟩
    exact ⟨fun F3 H3 σ3 ρ3 M3 e3 om3 ol3 h3 => k2.nx F3 H3 σ3 ρ3 M3 e3 om3 ol3 (rest ρ3 M3 h3), k2.rt, k2.bk, fun F3 H3 σ3 ρ3 M3 e3 om3 ol3 h3 => k2.ct F3 H3 σ3 ρ3 M3 e3 om3 ol3 (rest ρ3 M3 h3)⟩
/-- while, by an invariant and a measure -/
theorem ds_while {body : List Stmt} (hp : PassesOwn (model X.prog X.w) X.A X.env X.xe) (P : Nat → DEnv → Mem → Prop) (m0 : Nat) (h0 : P m0 ρ M)
    (hs : ∀ m ρ M, P m ρ M → DT X F0 c ρ M fun b M1 => (b = true → DSs X F0 body ρ M1 { D with nx := fun ρ' M' => ∃ m', m' < m ∧ P m' ρ' M', ct := fun ρ' M' => ∃ m', m' < m ∧ P m' ρ' M', bk := D.nx }) ∧ (b = false → D.nx ρ M1)) :
    DS X F0 (.While c body [] pos) ρ M D := by
  refine PS.wk (ps_while hp (uT (F0 := F0)) (uSs (F0 := F0))) fun E σ H ⟨F, om, ol, k⟩ => ?_
  refine ⟨fun m σ' H' => ∃ F' ρ' M', Ex F F' ∧ OkM X.K F0 F' M' H' ∧ OkL X.K F' ρ' σ' ∧ P m ρ' M', ⟨m0, F, ρ, M, Ex.refl F, om, ol, h0⟩, ?_⟩
  rintro m σ1 H1 ⟨F1, ρ1, M1, e1, om1, ol1, h1⟩
  refine tUT.go (hs m ρ1 M1 h1) om1 ol1 fun F2 H2 b M2 e2 om2 ⟨h2, h3⟩ => ?_
  cases b with
  | true =>
    rw [if_pos rfl]
    refine ⟨fun σ' H' => ∃ m', m' < m ∧ ∃ F' ρ' M', Ex F F' ∧ OkM X.K F0 F' M' H' ∧ OkL X.K F' ρ' σ' ∧ P m' ρ' M', fun σ' H' ⟨m', hm, z⟩ => ⟨m', hm, z⟩, tUSs.go (h2 rfl) om2 (ol1.mono e2) ?_⟩
    refine ⟨fun F5 H5 σ5 ρ5 M5 e5 om5 ol5 ⟨m', hm, h5⟩ => ⟨m', hm, F5, ρ5, M5, (e1.trans e2).trans e5, om5, ol5, h5⟩, k.rt.mono (e1.trans e2), k.nx.mono (e1.trans e2), fun F5 H5 σ5 ρ5 M5 e5 om5 ol5 ⟨m', hm, h5⟩ => ⟨m', hm, F5, ρ5, M5, (e1.trans e2).trans e5, om5, ol5, h5⟩⟩
  | false =>
    rw [if_neg Bool.false_ne_true]
    exact k.nx F2 H2 σ1 ρ1 M2 (e1.trans e2) om2 (ol1.mono e2) (h3 rfl)
end

/-! ### defs -/
def startD (N : List Str) (ds : List Dat) : DEnv := ds.map some ++ List.replicate (N.length - ds.length) none
theorem OkL.start {K : PySem.W.Frag} {F : Hp} {N : List Str} {ds : List Dat} {vs : List V} (r : Reps K F ds vs) : OkL K F (startD N ds) (L2.start N vs) := by
  have hl := r.length
  refine ⟨?_, fun i d h => ?_⟩
  · unfold startD L2.start
    rw [List.length_append, List.length_append, List.length_map, List.length_map, List.length_replicate, List.length_replicate, hl]
  · unfold startD at h
    by_cases hi : i < ds.length
    · rw [List.getElem?_append_left (by rw [List.length_map]; exact hi), List.getElem?_map] at h
      cases e : ds[i]? with
      | none =>
        rw [e] at h
        cases h
      | some d' =>
        rw [e] at h
        cases h
        obtain ⟨v, h1, h2⟩ := r.get e
        refine ⟨v, ?_, h2⟩
        unfold L2.start
        rw [List.getElem?_append_left (by rw [List.length_map, ← hl]; exact hi), List.getElem?_map, h1]
        rfl
    · rw [List.getElem?_append_right (by rw [List.length_map]; omega), List.getElem?_replicate] at h
      split at h <;> cases h
section
variable {P : Program} {w : World} {K : PySem.W.Frag} {mg : Str → Option Value} {base : Heap}
/-- where a def stands -/
structure FunD (K : PySem.W.Frag) (x qual : Str) (st : Stmt) (f : Addr) (fd : FuncData) : Prop where
  ex : ∃ (oc : Value) (od : Option Addr) (dV kV doc pm : Value) (an : Option Addr) (cdv ct : Value) (osl : Array (Option Value)),
    fd = PySem.W.fnOf x qual (defArgs st) (defBody st) (defScope st) dV kV doc pm an cdv ct ∧ K.lookup f = some ⟨oc, od, .func fd, osl⟩ ∧ PySem.W.codeIn K cdv qual = true
  kp : PySem.W.keepIn K (.ref f) = true
abbrev bodyX (P : Program) (w : World) (K : PySem.W.Frag) (mg : Str → Option Value) (base : Heap) (N : List Str) (qual : Str) (st : Stmt) (f : Addr) (cdv : Value) (A : Around) (outer : List PySem.Env) (s : Shared) (H : Hp) (E : XK) : Cx :=
  cxOf (L2.CX P w) P w K mg base N qual (defScope st) f cdv A outer s H E
theorem lsp_len {S : DSpec} {n : Nat} (h : ∀ ds M q x, S ds M q x → ds.length = n) : ∀ vs H Q E, LSp K S vs H Q E → vs.length = n := fun vs H Q E ⟨F, ds, M, q, x, om, r, hs, _⟩ => by
  rw [← r.length]
  exact h ds M q x hs
theorem body_ok {N ps : List Str} {qual : Str} {st : Stmt} {f : Addr} {cdv : Value} {A : Around} {outer : List PySem.Env} {s : Shared} {H : Hp} {vs : List V} {Q : VK} {E : XK} {S : DSpec} (hs : LSp K S vs H Q E)
    (body : ∀ F0 ds M q x, S ds M q x → XOk (bodyX P w K mg base N qual st f cdv A outer s H E) F0 x → DSs (bodyX P w K mg base N qual st f cdv A outer s H E) F0 (defBody st) (startD N ds) M { nx := fun _ M' => q .non M', rt := q }) :
    ∃ t, PSs (bodyX P w K mg base N qual st f cdv A outer s H E) (defBody st) t ∧ t { nx := fun _ H' => Q .non H', rt := Q } (L2.start N vs) H := by
  obtain ⟨F, ds, M, q, x, om, r, h, kq, kx⟩ := hs
  have xok : XOk (bodyX P w K mg base N qual st f cdv A outer s H E) F x := (takes_of (E := E) (E₁ := fun e' s'' => L2.CX P w outer H s E e' s'') rfl rfl rfl rfl).imp fun cls da _ H' z => by
    obtain ⟨F', M', e, om', rx, hx⟩ := z
    exact kx F' H' M' e cls da om'.base om' rx hx
  refine ⟨_, body F ds M q x h xok, F, om, OkL.start r, ?_⟩
  exact ⟨fun F' H' σ' ρ' M' e om' ol' h' => kq F' H' V.non .non M' e om' rep_non h', kq, fun F' H' σ' ρ' M' e om' ol' h' => h', fun F' H' σ' ρ' M' e om' ol' h' => h'⟩
/-- a def, no matter what shows itself above it -/
theorem FunD.ok {x qual : Str} {st : Stmt} {f : Addr} {fd : FuncData} {N ps : List Str} {k : Nat} {S : DSpec} (F : FunD K x qual st f fd) (sc : FnScope N ps (defScope st)) (len : ∀ ds M q x, S ds M q x → ds.length = ps.length)
    (body : ∀ (cdv : Value) (A : Around) (outer : List PySem.Env) (s : Shared) (H : Hp) (E : XK), Room k (A.deeper (envOfC qual (defScope st) s.heap.objs.size f cdv)) → ∀ F0 ds M q x, S ds M q x → XOk (bodyX P w K mg base N qual st f cdv A outer s H E) F0 x →
      DSs (bodyX P w K mg base N qual st f cdv A outer s H E) F0 (defBody st) (startD N ds) M { nx := fun _ M' => q .non M', rt := q }) : FnOk P w K mg base (L2.CX P w) (k + 1) f fd ps (LSp K S) := by
  obtain ⟨oc, od, dV, kV, doc, pm, an, cdv, ct, osl, rfl, lk, hcd⟩ := F.ex
  exact fn_of lk hcd sc (lsp_len len) fun A outer s H vs Q E hr hs => body_ok (ps := ps) hs (body cdv A outer s H E hr)
theorem FunD.okG {x qual : Str} {st : Stmt} {f : Addr} {fd : FuncData} {N ps : List Str} {k : Nat} {S : DSpec} (F : FunD K x qual st f fd) (sc : FnScope N ps (defScope st)) (len : ∀ ds M q x, S ds M q x → ds.length = ps.length)
    (body : ∀ (cdv : Value) (A : Around) (outer : List PySem.Env) (s : Shared) (H : Hp) (E : XK), A.guards = some [] → Room k (A.deeper (envOfC qual (defScope st) s.heap.objs.size f cdv)) → ∀ F0 ds M q x, S ds M q x → XOk (bodyX P w K mg base N qual st f cdv A outer s H E) F0 x →
      DSs (bodyX P w K mg base N qual st f cdv A outer s H E) F0 (defBody st) (startD N ds) M { nx := fun _ M' => q .non M', rt := q }) : FnG P w K mg base (k + 1) f fd ps (LSp K S) := by
  obtain ⟨oc, od, dV, kV, doc, pm, an, cdv, ct, osl, rfl, lk, hcd⟩ := F.ex
  exact fnG_of rfl lk hcd sc (lsp_len len) fun A outer s H vs Q E hg hr hs => body_ok (ps := ps) hs (body cdv A outer s H E hg hr)
end
end DL
/-! DL6: operations on data -/
namespace DL
open PySem PySem.Spec PyProof.Rows L2

theorem sz_le {n : Nat} (h : n ≤ 1000000) : n ≤ sizeLine := Nat.le_trans h (by decide)
theorem sz_lt {n : Nat} (h : n < 1000000) : n < sizeLine := Nat.lt_of_lt_of_le h (by decide)
section
variable {X : Cx} {F0 : Hp} {M : Mem} {q : DK}
/-! ### ints -/
theorem dop_I0 {f : Value → Value → Sem Value} {g : Int → Int → Int} {i j : Int} (ho : OpR X f (rI0 fun i j => .int (g i j))) (h : q (.int (g i j)) M) : DOp X F0 f (.int i) (.int j) M q :=
  ⟨_, ho, fun F H vx vy Q om r1 r2 k => ⟨i, j, r1, r2, k.fin om rep_int h⟩⟩
theorem dop_B0 {f : Value → Value → Sem Value} {g : Int → Int → Bool} {i j : Int} (ho : OpR X f (rI0 fun i j => .bl (g i j))) (h : q (.bl (g i j)) M) : DOp X F0 f (.int i) (.int j) M q :=
  ⟨_, ho, fun F H vx vy Q om r1 r2 k => ⟨i, j, r1, r2, k.fin om rep_bl h⟩⟩
theorem dop_I {C : Int → Int → Prop} {f : Value → Value → Sem Value} {g : Int → Int → Int} {i j : Int} (ho : OpR X f (rI C fun i j => .int (g i j))) (hc : C i j) (h : q (.int (g i j)) M) : DOp X F0 f (.int i) (.int j) M q :=
  ⟨_, ho, fun F H vx vy Q om r1 r2 k => ⟨i, j, r1, r2, hc, k.fin om rep_int h⟩⟩
theorem dop_add {i j : Int} (h : q (.int (i + j)) M) : DOp X F0 (binaryOp .Add) (.int i) (.int j) M q := dop_I0 op_add h
theorem dop_sub {i j : Int} (h : q (.int (i - j)) M) : DOp X F0 (binaryOp .Sub) (.int i) (.int j) M q := dop_I0 op_sub h
/-- below 2 ^ n in size -/
structure IB (n : Nat) (i : Int) : Prop where
  lt : i.natAbs < 2 ^ n
theorem IB.mono {n m : Nat} {i : Int} (h : IB n i) (hm : n ≤ m) : IB m i := ⟨Nat.lt_of_lt_of_le h.lt (Nat.pow_le_pow_right (by decide) hm)⟩
theorem IB.mul {n m : Nat} {i j : Int} (h : IB n i) (h' : IB m j) : IB (n + m) (i * j) := ⟨wide_lt h.lt h'.lt⟩
theorem IB.neg {n : Nat} {i : Int} (h : IB n i) : IB n (-i) := by
  refine ⟨?_⟩
  rw [Int.natAbs_neg]
  exact h.lt
theorem IB.add {n m : Nat} {i j : Int} (h : IB n i) (h' : IB m j) : IB (max n m + 1) (i + j) := by
  have a := h.mono (Nat.le_max_left n m)
  have b := h'.mono (Nat.le_max_right n m)
  have a := a.lt
  have b := b.lt
  refine ⟨?_⟩
  rw [Nat.pow_succ]
  have := Int.natAbs_add_le i j
  omega
theorem IB.sub {n m : Nat} {i j : Int} (h : IB n i) (h' : IB m j) : IB (max n m + 1) (i - j) := h.add h'.neg
theorem IB.of {n : Nat} {i : Int} (h1 : -(2 ^ n) < i) (h2 : i < 2 ^ n) : IB n i := by
  refine ⟨?_⟩
  have e : ((2 ^ n : Nat) : Int) = (2 : Int) ^ n := by
    rw [Int.natCast_pow]
    rfl
  omega
theorem dop_mul {a b : Nat} {i j : Int} (ha : IB a i) (hb : IB b j) (hs : a + b ≤ 900000) (h : q (.int (i * j)) M) : DOp X F0 (binaryOp .Mult) (.int i) (.int j) M q :=
  dop_I op_mulW (wide_mul (ha.mono (Nat.le_succ a)).lt (hb.mono (Nat.le_succ b)).lt (Nat.succ_pos _) (Nat.succ_pos _) (by omega)) h
/-- // by a positive divisor -/
theorem dop_fdiv {b : Nat} {i j : Int} (h0 : 0 < j) (hb : IB b j) (hs : b ≤ 8000) (h : q (.int (i / j)) M) : DOp X F0 (binaryOp .FloorDiv) (.int i) (.int j) M q :=
  dop_I op_fdivW (wide_div h0 (hb.mono (Nat.le_succ b)).lt (Nat.succ_pos _) (by omega)) h
def CDivA (_ j : Int) : Prop := j ≠ 0 ∧ j.natAbs.log2 < 9000
theorem op_fdivA : OpR X (binaryOp .FloorDiv) (rI CDivA fun i j => .int (i.fdiv j)) := opI fun _ _ _ _ _ _ _ hc z => floordiv_int hc.1 z (.inl (PyProof.noPylong_of_log2 hc.2))
/-- // by any divisor -/
theorem dop_fdivA {b : Nat} {i j : Int} (h0 : j ≠ 0) (hb : IB b j) (hs : b ≤ 8000) (h : q (.int (i.fdiv j)) M) : DOp X F0 (binaryOp .FloorDiv) (.int i) (.int j) M q :=
  dop_I op_fdivA ⟨h0, Nat.lt_of_lt_of_le (PySem.Flt.log2_lt_of (Nat.succ_pos b) (hb.mono (Nat.le_succ b)).lt) (by omega)⟩ h
theorem dop_mod {i j : Int} (h0 : 0 < j) (h : q (.int (i % j)) M) : DOp X F0 (binaryOp .Mod) (.int i) (.int j) M q := dop_I op_mod h0 h
theorem dop_pow {i j : Int} (h0 : 0 ≤ j ∧ j ≤ 1000000 ∧ i.natAbs < 2 ^ 64) (h : q (.int (i ^ j.toNat)) M) : DOp X F0 (binaryOp .Pow) (.int i) (.int j) M q := dop_I op_pow h0 h
theorem dun_neg {i : Int} (h : q (.int (-i)) M) : DUn X F0 (unaryOp .USub) (.int i) M q := ⟨_, un_neg, fun F H v Q om r k => ⟨i, r, k.fin om rep_int h⟩⟩
theorem dop_lt {i j : Int} (h : q (.bl (decide (i < j))) M) : DOp X F0 (compareOp .Lt) (.int i) (.int j) M q := dop_B0 op_lt h
theorem dop_le {i j : Int} (h : q (.bl (decide (i ≤ j))) M) : DOp X F0 (compareOp .LtE) (.int i) (.int j) M q := dop_B0 op_le h
theorem dop_gt {i j : Int} (h : q (.bl (decide (j < i))) M) : DOp X F0 (compareOp .Gt) (.int i) (.int j) M q := dop_B0 op_gt h
theorem dop_ge {i j : Int} (h : q (.bl (decide (j ≤ i))) M) : DOp X F0 (compareOp .GtE) (.int i) (.int j) M q := dop_B0 op_ge h

/-! ### == of scalars -/
def scalV : Dat → Option V
  | .non => some .non
  | .bl b => some (.bl b)
  | .int i => some (.int i)
  | .str x => some (.str x)
  | _ => none
theorem scalV_rep {K : PySem.W.Frag} {F : Hp} {d : Dat} {v w : V} (h : scalV d = some w) (r : Rep K F d v) : v = w := by
  cases d <;> first
    | (cases r
       exact Option.some.inj h)
    | cases h
theorem dop_eqS {x y : Dat} {v w : V} (hx : scalV x = some v) (hy : scalV y = some w) (hs : scal v w = true) (h : q (.bl (decide (v = w))) M) : DOp X F0 (compareOp .Eq) x y M q :=
  ⟨_, op_eq, fun F H vx vy Q om r1 r2 k => by
    rw [scalV_rep hx r1, scalV_rep hy r2]
    exact ⟨hs, k.fin om rep_bl h⟩⟩
theorem dop_neS {x y : Dat} {v w : V} (hx : scalV x = some v) (hy : scalV y = some w) (hs : scal v w = true) (h : q (.bl (!decide (v = w))) M) : DOp X F0 (compareOp .NotEq) x y M q :=
  ⟨_, op_ne, fun F H vx vy Q om r1 r2 k => by
    rw [scalV_rep hx r1, scalV_rep hy r2]
    exact ⟨hs, k.fin om rep_bl h⟩⟩
theorem dop_eqI {i j : Int} (h : q (.bl (decide (i = j))) M) : DOp X F0 (compareOp .Eq) (.int i) (.int j) M q := dop_eqS rfl rfl rfl (by
  rw [show decide (V.int i = V.int j) = decide (i = j) by simp]
  exact h)
theorem dop_neI {i j : Int} (h : q (.bl (!decide (i = j))) M) : DOp X F0 (compareOp .NotEq) (.int i) (.int j) M q := dop_neS rfl rfl rfl (by
  rw [show decide (V.int i = V.int j) = decide (i = j) by simp]
  exact h)
theorem dop_eqT {i j : Str} (h : q (.bl (decide (i = j))) M) : DOp X F0 (compareOp .Eq) (.str i) (.str j) M q := dop_eqS rfl rfl rfl (by
  rw [show decide (V.str i = V.str j) = decide (i = j) by simp]
  exact h)
theorem dop_neT {i j : Str} (h : q (.bl (!decide (i = j))) M) : DOp X F0 (compareOp .NotEq) (.str i) (.str j) M q := dop_neS rfl rfl rfl (by
  rw [show decide (V.str i = V.str j) = decide (i = j) by simp]
  exact h)
theorem dop_eqB {i j : Bool} (h : q (.bl (i == j)) M) : DOp X F0 (compareOp .Eq) (.bl i) (.bl j) M q := dop_eqS rfl rfl rfl (by
  rw [show decide (V.bl i = V.bl j) = (i == j) by cases i <;> cases j <;> rfl]
  exact h)
theorem dop_neB {i j : Bool} (h : q (.bl (!(i == j))) M) : DOp X F0 (compareOp .NotEq) (.bl i) (.bl j) M q := dop_neS rfl rfl rfl (by
  rw [show decide (V.bl i = V.bl j) = (i == j) by cases i <;> cases j <;> rfl]
  exact h)
/-! ### is -/
def isNonD : Dat → Bool
  | .non => true
  | _ => false
theorem isNonD_rep {K : PySem.W.Frag} {F : Hp} {d : Dat} {v : V} (r : Rep K F d v) : decide (v = .non) = isNonD d := by
  cases d with
  | non =>
    cases r
    rfl
  | bl b =>
    cases r
    rfl
  | int b =>
    cases r
    rfl
  | str b =>
    cases r
    rfl
  | ty b =>
    cases r
    rfl
  | ptr b =>
    cases r
    rfl
  | scr ns =>
    obtain ⟨_, rfl, _⟩ := r
    rfl
  | lst ns =>
    obtain ⟨_, _, rfl, _⟩ := r
    rfl
  | tup ns =>
    obtain ⟨_, _, rfl, _⟩ := r
    rfl
  | obj C ns ds =>
    obtain ⟨_, _, _, rfl, _⟩ := r
    rfl
  | dct ns ds =>
    obtain ⟨_, _, rfl, _⟩ := r
    rfl
  | tpx ns =>
    obtain ⟨_, _, _, rfl, _⟩ := r
    rfl
  | dcf ks ns =>
    obtain ⟨_, _, _, rfl, _⟩ := r
    rfl
  | lam cl q pa b sc =>
    obtain ⟨_, _, _, rfl, _⟩ := r
    rfl
theorem dop_isN {d : Dat} (h : q (.bl (isNonD d)) M) : DOp X F0 (compareOp .Is) d .non M q :=
  ⟨_, op_isN, fun F H vx vy Q om r1 r2 k => ⟨r2, by
    rw [isNonD_rep r1]
    exact k.fin om rep_bl h⟩⟩
theorem dop_notN {d : Dat} (h : q (.bl (!isNonD d)) M) : DOp X F0 (compareOp .IsNot) d .non M q :=
  ⟨_, op_notN, fun F H vx vy Q om r1 r2 k => ⟨r2, by
    rw [isNonD_rep r1]
    exact k.fin om rep_bl h⟩⟩

/-! ### texts -/
theorem dop_addT {x y : Str} (hz : x.length + y.length ≤ 1000000) (h : q (.str (x ++ y)) M) : DOp X F0 (binaryOp .Add) (.str x) (.str y) M q :=
  ⟨_, op_add_str, fun F H vx vy Q om r1 r2 k => ⟨x, y, r1, r2, sz_le hz, k.fin om rep_str h⟩⟩
theorem dop_ltT {i j : Str} (h : q (.bl (decide (i.cps.toList < j.cps.toList))) M) : DOp X F0 (compareOp .Lt) (.str i) (.str j) M q :=
  ⟨_, op_lt_str, fun F H vx vy Q om r1 r2 k => ⟨i, j, r1, r2, k.fin om rep_bl h⟩⟩
/-- a sign in a text -/
theorem dop_inS {c : Nat} {z : Str} (h : q (.bl (decide (c ∈ z.cps.toList))) M) : DOp X F0 (compareOp .In) (.str ⟨#[c]⟩) (.str z) M q :=
  ⟨_, op_in_sign, fun F H vx vy Q om r1 r2 k => ⟨c, z, r1, r2, k.fin om rep_bl h⟩⟩
/-- x in a list or a tuple of flat data -/
def flatD : Dat → Bool
  | .non | .bl _ | .int _ | .str _ => true
  | _ => false
theorem flat_rep {K : PySem.W.Frag} {F : Hp} {d : Dat} {v : V} (h : flatD d = true) (r : Rep K F d v) : scalV d = some v ∧ flatV v = true := by
  cases d <;> first
    | (cases r
       exact ⟨rfl, rfl⟩)
    | cases h
def eqD (x y : Dat) : Bool := match scalV x, scalV y with
  | some v, some w => eqV v w
  | _, _ => false
def inD (x : Dat) (ds : List Dat) : Bool := ds.any fun y => eqD y x
theorem inD_rep {K : PySem.W.Frag} {F : Hp} {x : Dat} {v : V} (hx : flatD x = true) (rx : Rep K F x v) : ∀ {ds : List Dat} {vs : List V}, ds.all flatD = true → Reps K F ds vs → inV v vs = inD x ds ∧ vs.all flatV = true
  | [], _, _, r => by
    cases r
    exact ⟨rfl, rfl⟩
  | d :: ds, _, ha, r => by
    obtain ⟨w, t, rfl, h1, h2⟩ := r
    rw [List.all_cons, Bool.and_eq_true] at ha
    obtain ⟨e1, e2⟩ := inD_rep hx rx ha.2 h2
    obtain ⟨s1, s2⟩ := flat_rep ha.1 h1
    obtain ⟨s3, s4⟩ := flat_rep hx rx
    constructor
    · show ((w :: t).any fun y => eqV y v) = ((d :: ds).any fun y => eqD y x)
      rw [List.any_cons, List.any_cons]
      have e3 : eqD d x = eqV w v := by
        unfold eqD
        rw [s1, s3]
      rw [e3]
      have e4 : (t.any fun y => eqV y v) = (ds.any fun y => eqD y x) := e1
      rw [e4]
    · rw [List.all_cons, s2, e2]
      rfl
theorem dop_inL {x : Dat} {ds : List Dat} (hx : flatD x = true) (ha : ds.all flatD = true) (h : q (.bl (inD x ds)) M) : DOp X F0 (compareOp .In) x (.lst ds) M q :=
  ⟨_, op_in_seq, fun F H vx vy Q om r1 r2 k => by
    obtain ⟨p, xs, rfl, h2, h3⟩ := r2
    obtain ⟨e1, e2⟩ := inD_rep hx r1 ha h3
    refine ⟨p, xs, rfl, .inl (SqL.of (om.sub _ _ h2)), (flat_rep hx r1).2, e2, ?_⟩
    rw [e1]
    exact k.fin om rep_bl h⟩
theorem dop_inU {x : Dat} {ds : List Dat} (hx : flatD x = true) (ha : ds.all flatD = true) (h : q (.bl (inD x ds)) M) : DOp X F0 (compareOp .In) x (.tup ds) M q :=
  ⟨_, op_in_seq, fun F H vx vy Q om r1 r2 k => by
    obtain ⟨p, xs, rfl, h2, h3⟩ := r2
    obtain ⟨e1, e2⟩ := inD_rep hx r1 ha h3
    refine ⟨p, xs, rfl, .inr (ex_t om.sub h2), (flat_rep hx r1).2, e2, ?_⟩
    rw [e1]
    exact k.fin om rep_bl h⟩
theorem dop_niL {x : Dat} {ds : List Dat} (hx : flatD x = true) (ha : ds.all flatD = true) (h : q (.bl (!inD x ds)) M) : DOp X F0 (compareOp .NotIn) x (.lst ds) M q :=
  ⟨_, op_notIn_seq, fun F H vx vy Q om r1 r2 k => by
    obtain ⟨p, xs, rfl, h2, h3⟩ := r2
    obtain ⟨e1, e2⟩ := inD_rep hx r1 ha h3
    refine ⟨p, xs, rfl, .inl (SqL.of (om.sub _ _ h2)), (flat_rep hx r1).2, e2, ?_⟩
    rw [e1]
    exact k.fin om rep_bl h⟩
theorem dop_niU {x : Dat} {ds : List Dat} (hx : flatD x = true) (ha : ds.all flatD = true) (h : q (.bl (!inD x ds)) M) : DOp X F0 (compareOp .NotIn) x (.tup ds) M q :=
  ⟨_, op_notIn_seq, fun F H vx vy Q om r1 r2 k => by
    obtain ⟨p, xs, rfl, h2, h3⟩ := r2
    obtain ⟨e1, e2⟩ := inD_rep hx r1 ha h3
    refine ⟨p, xs, rfl, .inr (ex_t om.sub h2), (flat_rep hx r1).2, e2, ?_⟩
    rw [e1]
    exact k.fin om rep_bl h⟩
/-- .. in a list that may change -/
theorem dop_inC {x : Dat} {p : Addr} {ds : List Dat} (hM : M p = some (.lst ds)) (hx : flatD x = true) (ha : ds.all flatD = true) (h : q (.bl (inD x ds)) M) : DOp X F0 (compareOp .In) x (.ptr p) M q :=
  ⟨_, op_in_seq, fun F H vx vy Q om r1 r2 k => by
    obtain rfl : vy = .ref p := r2
    obtain ⟨_, u, hu, ru⟩ := om.mem p _ hM
    obtain ⟨xs, rfl, h3⟩ := ru
    obtain ⟨e1, e2⟩ := inD_rep hx r1 ha h3
    refine ⟨p, xs, rfl, .inl (SqL.of hu), (flat_rep hx r1).2, e2, ?_⟩
    rw [e1]
    exact k.fin om rep_bl h⟩
theorem dop_niC {x : Dat} {p : Addr} {ds : List Dat} (hM : M p = some (.lst ds)) (hx : flatD x = true) (ha : ds.all flatD = true) (h : q (.bl (!inD x ds)) M) : DOp X F0 (compareOp .NotIn) x (.ptr p) M q :=
  ⟨_, op_notIn_seq, fun F H vx vy Q om r1 r2 k => by
    obtain rfl : vy = .ref p := r2
    obtain ⟨_, u, hu, ru⟩ := om.mem p _ hM
    obtain ⟨xs, rfl, h3⟩ := ru
    obtain ⟨e1, e2⟩ := inD_rep hx r1 ha h3
    refine ⟨p, xs, rfl, .inl (SqL.of hu), (flat_rep hx r1).2, e2, ?_⟩
    rw [e1]
    exact k.fin om rep_bl h⟩
/-! ### lists, tuples -/
theorem dop_cat {a b : List Dat} (hz : a.length + b.length ≤ 1000000) (h : q (.lst (a ++ b)) M) : DOp X F0 (binaryOp .Add) (.lst a) (.lst b) M q :=
  ⟨_, op_cat, fun F H vx vy Q om r1 r2 k => by
    obtain ⟨p, xs, rfl, h2, h3⟩ := r1
    obtain ⟨p', xs', rfl, h2', h3'⟩ := r2
    exact ⟨p, p', xs, xs', rfl, rfl, om.sub _ _ h2, om.sub _ _ h2', by rw [← h3.length, ← h3'.length]; exact sz_le hz, fun l hl => k.lst om (h3.app h3') h hl⟩⟩
theorem reps_rep {K : PySem.W.Frag} {F : Hp} {ds : List Dat} {xs : List V} (r : Reps K F ds xs) : ∀ n : Nat, Reps K F (List.replicate n ds).flatten (List.replicate n xs).flatten
  | 0 => Reps.nil
  | n + 1 => by
    rw [List.replicate_succ, List.replicate_succ, List.flatten_cons, List.flatten_cons]
    exact r.app (reps_rep r n)
theorem dop_rep {a : List Dat} {n : Int} (hn : -1000000 ≤ n ∧ n ≤ 1000000) (hz : a.length * n.toNat ≤ 1000000) (h : q (.lst (List.replicate n.toNat a).flatten) M) : DOp X F0 (binaryOp .Mult) (.lst a) (.int n) M q :=
  ⟨_, op_rep, fun F H vx vy Q om r1 r2 k => by
    obtain ⟨p, xs, rfl, h2, h3⟩ := r1
    refine ⟨p, n, xs, rfl, r2, om.sub _ _ h2, by omega, by omega, by rw [← h3.length]; exact sz_le hz, fun l hl => k.lst om (reps_rep h3 _) h hl⟩⟩
theorem dop_catU {a b : List Dat} (hz : a.length + b.length ≤ 1000000) (h : q (.tup (a ++ b)) M) : DOp X F0 (binaryOp .Add) (.tup a) (.tup b) M q :=
  ⟨_, op_catA, fun F H vx vy Q om r1 r2 k => by
    obtain ⟨p, xs, rfl, h2, h3⟩ := r1
    obtain ⟨p', xs', rfl, h2', h3'⟩ := r2
    refine ⟨p, p', xs, xs', rfl, rfl, ex_t om.sub h2, ex_t om.sub h2', by rw [← h3.length, ← h3'.length]; exact sz_le hz, fun e => ?_, fun _ e => ?_, fun _ _ l hl => k.tup om (h3.app h3') h hl⟩
    · subst e
      have e2 : a = [] := by
        have := h3.length
        cases a with
        | nil => rfl
        | cons _ _ => cases this
      subst e2
      exact k.fin om (rep_tup h2' h3') h
    · subst e
      have e2 : b = [] := by
        have := h3'.length
        cases b with
        | nil => rfl
        | cons _ _ => cases this
      subst e2
      rw [List.append_nil] at h
      exact k.fin om (rep_tup h2 h3) h⟩
/-! ### subscripts, slices -/
theorem reps_atI {K : PySem.W.Frag} {F : Hp} {ds : List Dat} {xs : List V} {i : Int} {d : Dat} (r : Reps K F ds xs) (h : atI ds i = some d) : ∃ x, atI xs i = some x ∧ Rep K F d x := by
  unfold atI at h ⊢
  rw [← r.length]
  cases e : ixN ds.length i with
  | none =>
    rw [e] at h
    cases h
  | some j =>
    rw [e] at h
    exact r.get h
theorem dix_lst {ds : List Dat} {i : Int} {d : Dat} (hd : atI ds i = some d) (h : q d M) : DIx X F0 (.lst ds) (.int i) M q :=
  ⟨_, ix_list, fun F H vx vy Q om r1 r2 k => by
    obtain ⟨p, xs, rfl, h2, h3⟩ := r1
    obtain ⟨x, h4, h5⟩ := reps_atI h3 hd
    exact ⟨p, xs, i, x, rfl, r2, SqL.of (om.sub _ _ h2), h4, k.fin om h5 h⟩⟩
theorem dix_cell {p : Addr} {ds : List Dat} {i : Int} {d : Dat} (hM : M p = some (.lst ds)) (hd : atI ds i = some d) (h : q d M) : DIx X F0 (.ptr p) (.int i) M q :=
  ⟨_, ix_list, fun F H vx vy Q om r1 r2 k => by
    obtain rfl : vx = .ref p := r1
    obtain ⟨_, u, hu, ru⟩ := om.mem p _ hM
    obtain ⟨xs, rfl, h3⟩ := ru
    obtain ⟨x, h4, h5⟩ := reps_atI h3 hd
    exact ⟨p, xs, i, x, rfl, r2, SqL.of hu, h4, k.fin om h5 h⟩⟩
theorem dix_tup {ds : List Dat} {i : Int} {d : Dat} (hd : atI ds i = some d) (h : q d M) : DIx X F0 (.tup ds) (.int i) M q :=
  ⟨_, ix_tup, fun F H vx vy Q om r1 r2 k => by
    obtain ⟨p, xs, rfl, h2, h3⟩ := r1
    obtain ⟨x, h4, h5⟩ := reps_atI h3 hd
    exact ⟨p, xs, i, x, rfl, r2, ex_t om.sub h2, h4, k.fin om h5 h⟩⟩
theorem dix_str {z : Str} {i : Int} {c : Nat} (hz : z.length ≤ 1000000) (hd : atI z.cps.toList i = some c) (h : q (.str ⟨#[c]⟩) M) : DIx X F0 (.str z) (.int i) M q :=
  ⟨_, ix_str, fun F H vx vy Q om r1 r2 k => ⟨z, i, c, r1, r2, sz_le hz, hd, k.fin om rep_str h⟩⟩
/-- the slice of a list -/
def cutD {α : Type} (xs : List α) (lo hi : Option Int) : List α := (xs.drop (HT.sIx xs.length 0 lo)).take (HT.sIx xs.length xs.length hi - HT.sIx xs.length 0 lo)
theorem reps_cut {K : PySem.W.Frag} {F : Hp} {ds : List Dat} {xs : List V} {lo hi : Option Int} (r : Reps K F ds xs) : Reps K F (cutD ds lo hi) (cutV xs lo hi) := by
  unfold cutD cutV
  rw [r.length]
  exact (r.drop _).take _
theorem dsl_lst {ds : List Dat} {lo hi : Option Int} (h : q (.lst (cutD ds lo hi)) M) : DSl X F0 (.lst ds) lo hi M q :=
  ⟨_, sl_list, fun F H vx Q om r1 k => by
    obtain ⟨p, xs, rfl, h2, h3⟩ := r1
    exact ⟨p, xs, rfl, SqL.of (om.sub _ _ h2), fun l hl => k.lst om (reps_cut h3) h hl⟩⟩
theorem dsl_scr {ns : List Int} {lo hi : Option Int} (h : q (.lst (cutD (ns.map Dat.int) lo hi)) M) : DSl X F0 (.scr ns) lo hi M q :=
  ⟨_, sl_list, fun F H vx Q om r1 k => by
    obtain ⟨p, rfl, h2⟩ := r1
    exact ⟨p, _, rfl, ex_l om.sub h2, fun l hl => k.lst om (reps_cut (Reps.ofInts ns)) h hl⟩⟩
theorem dsl_cell {p : Addr} {ds : List Dat} {lo hi : Option Int} (hM : M p = some (.lst ds)) (h : q (.lst (cutD ds lo hi)) M) : DSl X F0 (.ptr p) lo hi M q :=
  ⟨_, sl_list, fun F H vx Q om r1 k => by
    obtain rfl : vx = .ref p := r1
    obtain ⟨_, u, hu, ru⟩ := om.mem p _ hM
    obtain ⟨xs, rfl, h3⟩ := ru
    exact ⟨p, xs, rfl, SqL.of hu, fun l hl => k.lst om (reps_cut h3) h hl⟩⟩
theorem dsl_tup {ds : List Dat} {lo hi : Option Int} (h : q (.tup (cutD ds lo hi)) M) : DSl X F0 (.tup ds) lo hi M q :=
  ⟨_, sl_tupA, fun F H vx Q om r1 k => by
    obtain ⟨p, xs, rfl, h2, h3⟩ := r1
    refine ⟨p, xs, rfl, ex_t om.sub h2, fun ⟨e1, e2⟩ => ?_, fun _ l hl => k.tup om (reps_cut h3) h hl⟩
    have e : cutD ds lo hi = ds := by
      unfold cutD
      rw [h3.length, e1, e2, List.drop_zero, Nat.sub_zero, ← h3.length, List.take_length]
    rw [e] at h
    exact k.fin om (rep_tup h2 h3) h⟩
theorem dsl_str {z : Str} {lo hi : Option Int} (hz : z.length ≤ 1000000) (h : q (.str (cutS z lo hi)) M) : DSl X F0 (.str z) lo hi M q :=
  ⟨_, sl_str, fun F H vx Q om r1 k => ⟨z, r1, sz_le hz, k.fin om rep_str h⟩⟩

/-! ### built-in functions -/
theorem reps1 {K : PySem.W.Frag} {F : Hp} {d : Dat} {vs : List V} (r : Reps K F [d] vs) : ∃ v, vs = [v] ∧ Rep K F d v := by
  obtain ⟨x, t, rfl, h1, h2⟩ := r
  cases h2
  exact ⟨x, rfl, h1⟩
theorem reps2 {K : PySem.W.Frag} {F : Hp} {d e : Dat} {vs : List V} (r : Reps K F [d, e] vs) : ∃ v w, vs = [v, w] ∧ Rep K F d v ∧ Rep K F e w := by
  obtain ⟨x, t, rfl, h1, h2⟩ := r
  obtain ⟨y, rfl, h3⟩ := reps1 h2
  exact ⟨x, y, rfl, h1, h3⟩
theorem dcl_lenL {ds : List Dat} (h : q (.int ds.length) M) : DCl X F0 (.builtin "len") [.lst ds] M q :=
  ⟨_, call_len_seq, fun F H vs Q om r k => by
    obtain ⟨v, rfl, p, xs, rfl, h2, h3⟩ := reps1 r
    refine ⟨p, xs, rfl, .inl (SqL.of (om.sub _ _ h2)), ?_⟩
    rw [← h3.length]
    exact k.fin om rep_int h⟩
theorem dcl_lenC {p : Addr} {ds : List Dat} (hM : M p = some (.lst ds)) (h : q (.int ds.length) M) : DCl X F0 (.builtin "len") [.ptr p] M q :=
  ⟨_, call_len_seq, fun F H vs Q om r k => by
    obtain ⟨v, rfl, r1⟩ := reps1 r
    obtain rfl : v = .ref p := r1
    obtain ⟨_, u, hu, ru⟩ := om.mem p _ hM
    obtain ⟨xs, rfl, h3⟩ := ru
    refine ⟨p, xs, rfl, .inl (SqL.of hu), ?_⟩
    rw [← h3.length]
    exact k.fin om rep_int h⟩
theorem dcl_lenU {ds : List Dat} (h : q (.int ds.length) M) : DCl X F0 (.builtin "len") [.tup ds] M q :=
  ⟨_, call_len_seq, fun F H vs Q om r k => by
    obtain ⟨v, rfl, p, xs, rfl, h2, h3⟩ := reps1 r
    refine ⟨p, xs, rfl, .inr (ex_t om.sub h2), ?_⟩
    rw [← h3.length]
    exact k.fin om rep_int h⟩
theorem dcl_lenT {z : Str} (hz : z.length ≤ 1000000) (h : q (.int z.length) M) : DCl X F0 (.builtin "len") [.str z] M q :=
  ⟨_, call_len_str, fun F H vs Q om r k => by
    obtain ⟨v, rfl, r1⟩ := reps1 r
    cases r1
    exact ⟨z, rfl, sz_le hz, k.fin om rep_int h⟩⟩
theorem dcl_abs {i : Int} (h : q (.int (if i < 0 then -i else i)) M) : DCl X F0 (.builtin "abs") [.int i] M q :=
  ⟨_, call_abs, fun F H vs Q om r k => by
    obtain ⟨v, rfl, r1⟩ := reps1 r
    cases r1
    exact ⟨i, rfl, k.fin om rep_int h⟩⟩
theorem dcl_intI {i : Int} (h : q (.int i) M) : DCl X F0 (.type "int") [.int i] M q :=
  ⟨_, call_int1, fun F H vs Q om r k => by
    obtain ⟨v, rfl, r1⟩ := reps1 r
    cases r1
    exact .inl ⟨i, rfl, k.fin om rep_int h⟩⟩
theorem dcl_intB {b : Bool} (h : q (.int (if b then 1 else 0)) M) : DCl X F0 (.type "int") [.bl b] M q :=
  ⟨_, call_int1, fun F H vs Q om r k => by
    obtain ⟨v, rfl, r1⟩ := reps1 r
    cases r1
    exact .inr ⟨b, rfl, k.fin om rep_int h⟩⟩
theorem dcl_boolI {i : Int} (h : q (.bl (i != 0)) M) : DCl X F0 (.type "bool") [.int i] M q :=
  ⟨_, call_bool1, fun F H vs Q om r k => by
    obtain ⟨v, rfl, r1⟩ := reps1 r
    cases r1
    exact .inl ⟨i, rfl, k.fin om rep_bl h⟩⟩
theorem IB.log {n : Nat} {i : Int} (h : IB n i) (hn : n ≤ 1900) : i.natAbs.log2 < 1920 := Nat.lt_of_lt_of_le (PySem.Flt.log2_lt_of (Nat.succ_pos n) (h.mono (Nat.le_succ n)).lt) (by omega)
theorem dcl_strI {n : Nat} {i : Int} (hi : IB n i) (hn : n ≤ 1900) (h : q (.str (toString i)) M) : DCl X F0 (.type "str") [.int i] M q :=
  ⟨_, call_str_int, fun F H vs Q om r k => by
    obtain ⟨v, rfl, r1⟩ := reps1 r
    cases r1
    exact ⟨i, rfl, hi.log hn, k.fin om rep_str h⟩⟩
theorem dcl_listL {ds : List Dat} (h : q (.lst ds) M) : DCl X F0 (.type "list") [.lst ds] M q :=
  ⟨_, call_list_of, fun F H vs Q om r k => by
    obtain ⟨v, rfl, p, xs, rfl, h2, h3⟩ := reps1 r
    exact ⟨p, xs, rfl, .inl (SqL.of (om.sub _ _ h2)), fun l hl => k.lst om h3 h hl⟩⟩
theorem dcl_listU {ds : List Dat} (h : q (.lst ds) M) : DCl X F0 (.type "list") [.tup ds] M q :=
  ⟨_, call_list_of, fun F H vs Q om r k => by
    obtain ⟨v, rfl, p, xs, rfl, h2, h3⟩ := reps1 r
    exact ⟨p, xs, rfl, .inr (ex_t om.sub h2), fun l hl => k.lst om h3 h hl⟩⟩
theorem dcl_tupL {ds : List Dat} (h : q (.tup ds) M) : DCl X F0 (.type "tuple") [.lst ds] M q :=
  ⟨_, call_tuple_of, fun F H vs Q om r k => by
    obtain ⟨v, rfl, p, xs, rfl, h2, h3⟩ := reps1 r
    exact ⟨p, xs, rfl, .inl ⟨SqL.of (om.sub _ _ h2), fun l hl => k.tup om h3 h hl⟩⟩⟩
theorem dcl_tupU {ds : List Dat} (h : q (.tup ds) M) : DCl X F0 (.type "tuple") [.tup ds] M q :=
  ⟨_, call_tuple_of, fun F H vs Q om r k => by
    obtain ⟨v, rfl, p, xs, rfl, h2, h3⟩ := reps1 r
    exact ⟨p, xs, rfl, .inr ⟨ex_t om.sub h2, k.fin om (rep_tup h2 h3) h⟩⟩⟩
theorem Reps.bls {K : PySem.W.Frag} {F : Hp} : ∀ {bs : List Bool} {xs : List V}, Reps K F (bs.map Dat.bl) xs → xs = bs.map V.bl
  | [], _, h => h
  | n :: ns, _, h => by
    obtain ⟨x, r, rfl, h2, h3⟩ := h
    cases h2
    rw [Reps.bls h3]
    rfl
theorem dcl_all {bs : List Bool} (hc : X.calm = true) (h : q (.bl (bs.all id)) M) : DCl X F0 (.builtin "all") [.lst (bs.map Dat.bl)] M q :=
  ⟨_, cr_all hc, fun F H vs Q om r k => by
    obtain ⟨v, rfl, p, xs, rfl, h2, h3⟩ := reps1 r
    exact ⟨p, bs, rfl, SqL.of (om.sub _ _ (by rw [← h3.bls]; exact h2)), k.fin om rep_bl h⟩⟩
theorem dcl_any {bs : List Bool} (hc : X.calm = true) (h : q (.bl (bs.any id)) M) : DCl X F0 (.builtin "any") [.lst (bs.map Dat.bl)] M q :=
  ⟨_, cr_any hc, fun F H vs Q om r k => by
    obtain ⟨v, rfl, p, xs, rfl, h2, h3⟩ := reps1 r
    exact ⟨p, bs, rfl, SqL.of (om.sub _ _ (by rw [← h3.bls]; exact h2)), k.fin om rep_bl h⟩⟩
theorem dcl_sum {ns : List Int} (hc : X.calm = true) (h : q (.int ns.sum) M) : DCl X F0 (.builtin "sum") [.lst (ns.map Dat.int)] M q :=
  ⟨_, cr_sum hc, fun F H vs Q om r k => by
    obtain ⟨v, rfl, p, xs, rfl, h2, h3⟩ := reps1 r
    exact ⟨p, ns, rfl, SqL.of (om.sub _ _ (by rw [← h3.ints]; exact h2)), k.fin om rep_int h⟩⟩

/-! ### isinstance -/
/-- a class's instances are what they seem -/
structure ClsOk (K : PySem.W.Frag) (C : Addr) : Prop where
  cls : Cls K C
  ha : PySem.W.findIn K (.ref C) "__class__" = some (some (.builtin "object.__class__"))
  hn : PySem.W.specialIn K (.builtin "object.__class__") "__get__" = some (some (.builtin "getset_descriptor.__get__"))
  htk : PySem.W.takesIn K (.builtin "object.__class__") = some true
  hm : PySem.W.mroIn K C (.type "object") = some true
def tyName : Dat → Option String
  | .non => some "NoneType"
  | .bl _ => some "bool"
  | .int _ => some "int"
  | .str _ => some "str"
  | .lst _ => some "list"
  | .scr _ => some "list"
  | .tup _ => some "tuple"
  | .dct _ _ => some "dict"
  | _ => none
theorem tyX_of {F H : Hp} {d : Dat} {n : String} {v : V} (h : tyName d = some n) (om : OkM X.K F0 F M H) (r : Rep X.K F d v) : TyX X.K H v (.type n) := by
  cases d with
  | non =>
    cases r
    cases h
    exact .base .non
  | bl b =>
    cases r
    cases h
    exact .base (.bl b)
  | int i =>
    cases r
    cases h
    exact .base (.int i)
  | str x =>
    cases r
    cases h
    exact .base (.str x)
  | ty x => cases h
  | ptr x => cases h
  | scr ns =>
    obtain ⟨p, rfl, h2⟩ := r
    cases h
    rcases ex_l om.sub h2 with (h3 | ⟨o, h3⟩) | ⟨o, its, m, h3, h4, _⟩
    · exact .base (.lst h3)
    · exact .base (.frz h3)
    · exact .kList h3 h4
  | lst ds =>
    obtain ⟨p, xs, rfl, h2, _⟩ := r
    cases h
    exact .base (.lst (om.sub _ _ h2))
  | tup ds =>
    obtain ⟨p, xs, rfl, h2, _⟩ := r
    cases h
    rcases ex_t om.sub h2 with (h3 | ⟨o, h3⟩) | ⟨o, its, m, h3, h4, _⟩
    · exact .base (.tup h3)
    · exact .fTuple h3
    · exact .kTuple h3 h4
  | obj C ns ds => cases h
  | dct ks ds =>
    obtain ⟨p, xs, rfl, h2, _⟩ := r
    cases h
    exact .base (.dK (om.sub _ _ h2))
  | tpx ds => cases h
  | dcf ks ds => cases h
  | lam cl q pa b sc => cases h
theorem dcl_isi {d : Dat} {n c : String} {b : Bool} (hn : tyName d = some n) (hk : kitB n c = some b) (h : q (.bl b) M) : DCl X F0 (.builtin "isinstance") [d, .ty c] M q :=
  ⟨_, call_isi, fun F H vs Q om r k => by
    obtain ⟨v, w, rfl, r1, r2⟩ := reps2 r
    cases r2
    exact ⟨v, .ty c, .type n, .type c, b, rfl, .ty c, tyX_of hn om r1, kit_ty hk, k.fin om rep_bl h⟩⟩
/-- a datum against an own class -/
theorem dcl_isiC {d : Dat} {n : String} {C : Addr} {b : Bool} (hn : tyName d = some n) (hk : PySem.W.kitOne X.K (.type n) (.ref C) = some b) (h : q (.bl b) M) : DCl X F0 (.builtin "isinstance") [d, .ptr C] M q :=
  ⟨_, call_isi, fun F H vs Q om r k => by
    obtain ⟨v, w, rfl, r1, r2⟩ := reps2 r
    cases r2
    exact ⟨v, .ref C, .type n, .ref C, b, rfl, .own C, tyX_of hn om r1, hk, k.fin om rep_bl h⟩⟩
/-- an own instance against a class -/
theorem dcl_isiO {C : Addr} {ns : List Str} {ds : List Dat} {c : String} {b : Bool} (T : ClsOk X.K C) (hk : PySem.W.kitOne X.K (.ref C) (.type c) = some b) (h : q (.bl b) M) : DCl X F0 (.builtin "isinstance") [.obj C ns ds, .ty c] M q :=
  ⟨_, call_isi, fun F H vs Q om r k => by
    obtain ⟨v, w, rfl, r1, r2⟩ := reps2 r
    cases r2
    obtain ⟨p, dx, xs, rfl, h2, _⟩ := r1
    exact ⟨_, .ty c, .ref C, .type c, b, rfl, .ty c, .base (.ins (om.sub _ _ h2) T.cls T.ha T.hn T.htk T.hm), hk, k.fin om rep_bl h⟩⟩
theorem dcl_isiOC {C C' : Addr} {ns : List Str} {ds : List Dat} {b : Bool} (T : ClsOk X.K C) (hk : PySem.W.kitOne X.K (.ref C) (.ref C') = some b) (h : q (.bl b) M) : DCl X F0 (.builtin "isinstance") [.obj C ns ds, .ptr C'] M q :=
  ⟨_, call_isi, fun F H vs Q om r k => by
    obtain ⟨v, w, rfl, r1, r2⟩ := reps2 r
    cases r2
    obtain ⟨p, dx, xs, rfl, h2, _⟩ := r1
    exact ⟨_, .ref C', .ref C, .ref C', b, rfl, .own C', .base (.ins (om.sub _ _ h2) T.cls T.ha T.hn T.htk T.hm), hk, k.fin om rep_bl h⟩⟩
end
end DL
/-! DL7: methods, isinstance with a tuple, repr, the law's end -/
namespace DL
open PySem PySem.Spec PyProof.Rows L2

section
variable {X : Cx} {F0 : Hp} {M : Mem} {q : DK}
theorem OkM.cellAt {K : PySem.W.Frag} {F : Hp} {H : Hp} {p : Addr} {ds : List Dat} (om : OkM K F0 F M H) (hM : M p = some (.lst ds)) : ∃ xs, H p = some (.lst xs) ∧ Reps K F ds xs := by
  obtain ⟨_, u, hu, ru⟩ := om.mem p _ hM
  obtain ⟨xs, rfl, h3⟩ := ru
  exact ⟨xs, hu, h3⟩
/-- a method that changes the list at p -/
theorem kV.put {K : PySem.W.Frag} {F : Hp} {H : Hp} {Q : VK} {p : Addr} {w : MO} {ds' : List Dat} {xs' : List V} (k : kV K F0 F q Q) (om : OkM K F0 F M H) (hM : M p = some w) (r : Reps K F ds' xs') (h : q .non (updM M p (.lst ds'))) : Q .non (upd H p (.lst xs')) :=
  k F _ .non .non _ (Ex.refl F) (om.put hM (repM_lst r)) rep_non h
theorem dmt_append {p : Addr} {ds : List Dat} {d : Dat} (hM : M p = some (.lst ds)) (hz : ds.length < 1000000) (h : q .non (updM M p (.lst (ds ++ [d])))) : DMt X F0 "list.append" (.ptr p) [d] M q :=
  ⟨_, mt_append, fun F H vx vs Q om r1 r2 k => by
    obtain rfl : vx = .ref p := r1
    obtain ⟨v, rfl, rv⟩ := reps1 r2
    obtain ⟨xs, hu, rs⟩ := om.cellAt hM
    exact ⟨p, xs, v, rfl, rfl, hu, by rw [← rs.length]; exact sz_lt hz, k.put om hM (rs.app (Reps.cons rv Reps.nil)) h⟩⟩
theorem dmt_extend {p : Addr} {ds es : List Dat} (hM : M p = some (.lst ds)) (hz : ds.length + es.length ≤ 1000000) (h : q .non (updM M p (.lst (ds ++ es)))) : DMt X F0 "list.extend" (.ptr p) [.lst es] M q :=
  ⟨_, mt_extend, fun F H vx vs Q om r1 r2 k => by
    obtain rfl : vx = .ref p := r1
    obtain ⟨v, rfl, b, zs, rfl, h2, h3⟩ := reps1 r2
    obtain ⟨xs, hu, rs⟩ := om.cellAt hM
    exact ⟨p, b, xs, zs, rfl, rfl, hu, om.sub _ _ h2, by rw [← rs.length, ← h3.length]; exact sz_le hz, k.put om hM (rs.app h3) h⟩⟩
theorem dmt_insert {p : Addr} {ds : List Dat} {d : Dat} {i : Int} (hM : M p = some (.lst ds)) (hz : ds.length < 1000000) (hi : 0 ≤ i ∧ i ≤ 1000000) (h : q .non (updM M p (.lst (ds.take i.toNat ++ [d] ++ ds.drop i.toNat)))) : DMt X F0 "list.insert" (.ptr p) [.int i, d] M q :=
  ⟨_, mt_insert, fun F H vx vs Q om r1 r2 k => by
    obtain rfl : vx = .ref p := r1
    obtain ⟨v, w, rfl, rv, rw'⟩ := reps2 r2
    cases rv
    obtain ⟨xs, hu, rs⟩ := om.cellAt hM
    exact ⟨p, xs, i, w, rfl, rfl, hu, by rw [← rs.length]; exact sz_lt hz, hi.1, by omega, k.put om hM (((rs.take _).app (Reps.cons rw' Reps.nil)).app (rs.drop _)) h⟩⟩
theorem dmt_clear {p : Addr} {ds : List Dat} (hM : M p = some (.lst ds)) (h : q .non (updM M p (.lst []))) : DMt X F0 "list.clear" (.ptr p) [] M q :=
  ⟨_, mt_clear, fun F H vx vs Q om r1 r2 k => by
    obtain rfl : vx = .ref p := r1
    cases r2
    obtain ⟨xs, hu, rs⟩ := om.cellAt hM
    exact ⟨p, xs, rfl, rfl, hu, k.put om hM Reps.nil h⟩⟩
theorem Reps.strs {K : PySem.W.Frag} {F : Hp} : ∀ {ys : List Str} {xs : List V}, Reps K F (ys.map Dat.str) xs → xs = ys.map V.str
  | [], _, h => h
  | n :: ns, _, h => by
    obtain ⟨x, r, rfl, h2, h3⟩ := h
    cases h2
    rw [Reps.strs h3]
    rfl
theorem Reps.ofStrs {K : PySem.W.Frag} {F : Hp} : ∀ (ns : List Str), Reps K F (ns.map Dat.str) (ns.map V.str)
  | [] => rfl
  | n :: ns => ⟨_, _, rfl, rfl, Reps.ofStrs ns⟩
theorem dmt_join {a : Str} {ys : List Str} (hz : (ys.map (·.length)).sum + ys.length * a.length ≤ 1000000) (h : q (.str (Txt.join a ys)) M) : DMt X F0 "str.join" (.str a) [.lst (ys.map Dat.str)] M q :=
  ⟨_, mt_join, fun F H vx vs Q om r1 r2 k => by
    obtain ⟨v, rfl, p, xs, rfl, h2, h3⟩ := reps1 r2
    rw [h3.strs] at h2
    exact ⟨a, p, ys, r1, rfl, .inl (SqL.of (om.sub _ _ h2)), Nat.le_trans hz (by decide), k.fin om rep_str h⟩⟩
theorem dmt_startswith {a b : Str} (h : q (.bl (Txt.startswith a b)) M) : DMt X F0 "str.startswith" (.str a) [.str b] M q :=
  ⟨_, mt_startswith, fun F H vx vs Q om r1 r2 k => by
    obtain ⟨v, rfl, r3⟩ := reps1 r2
    cases r3
    exact ⟨a, b, r1, rfl, k.fin om rep_bl h⟩⟩
theorem dmt_split {a b : Str} (hb : (b.length == 0) = false) (ha : a.length ≤ 1000000) (h : q (.lst ((Txt.split a b).map Dat.str)) M) : DMt X F0 "str.split" (.str a) [.str b] M q :=
  ⟨_, mt_split, fun F H vx vs Q om r1 r2 k => by
    obtain ⟨v, rfl, r3⟩ := reps1 r2
    cases r3
    exact ⟨a, b, r1, rfl, hb, Nat.le_trans (Nat.add_le_add_right ha 2) (by decide), fun p hp => k.lst om (Reps.ofStrs _) h hp⟩⟩
theorem dmt_partition {a b : Str} (hb : (b.length == 0) = false) (ha : a.length ≤ 1000000) (h : q (.tup [.str (Txt.partition a b).1, .str (Txt.partition a b).2.1, .str (Txt.partition a b).2.2]) M) : DMt X F0 "str.partition" (.str a) [.str b] M q :=
  ⟨_, mt_partition, fun F H vx vs Q om r1 r2 k => by
    obtain ⟨v, rfl, r3⟩ := reps1 r2
    cases r3
    exact ⟨a, b, r1, rfl, hb, sz_le ha, fun p hp => k.tup om (Reps.cons rep_str (Reps.cons rep_str (Reps.cons rep_str Reps.nil))) h hp⟩⟩
theorem dmt_lstripC {a b : Str} (ha : a.length ≤ 1000000) (h : q (.str (Txt.lstripChars a b)) M) : DMt X F0 "str.lstrip" (.str a) [.str b] M q :=
  ⟨_, mt_lstripChars, fun F H vx vs Q om r1 r2 k => by
    obtain ⟨v, rfl, r3⟩ := reps1 r2
    cases r3
    exact ⟨a, b, r1, rfl, sz_le ha, k.fin om rep_str h⟩⟩
theorem dcl_sortedI {ns : List Int} (hl : ns.length < 64) (h : ∀ ns' : List Int, ns'.Perm ns → ns'.Pairwise (· ≤ ·) → q (.lst (ns'.map Dat.int)) M) : DCl X F0 (.builtin "sorted") [.lst (ns.map Dat.int)] M q :=
  ⟨_, cr_sorted, fun F H vs Q om r k => by
    obtain ⟨v, rfl, p, xs, rfl, h2, h3⟩ := reps1 r
    rw [h3.ints] at h2
    exact ⟨p, ns, rfl, SqL.of (om.sub _ _ h2), hl, fun ns' l h4 h5 hl => k.lst om (Reps.ofInts ns') (h ns' h4 h5) hl⟩⟩
theorem dcl_sortedT {ys : List Str} (hl : ys.length < 64) (h : ∀ zs : List Str, zs.Perm ys → sortedS zs = true → q (.lst (zs.map Dat.str)) M) : DCl X F0 (.builtin "sorted") [.lst (ys.map Dat.str)] M q :=
  ⟨_, cr_sortedS, fun F H vs Q om r k => by
    obtain ⟨v, rfl, p, xs, rfl, h2, h3⟩ := reps1 r
    rw [h3.strs] at h2
    exact ⟨p, ys, rfl, SqL.of (om.sub _ _ h2), hl, fun ns' l h4 h5 hl => k.lst om (Reps.ofStrs ns') (h ns' h4 h5) hl⟩⟩

/-! ### isinstance(x, (c1, c2, ..)) -/
def kitAnyB (n : String) : List String → Option Bool
  | [] => some false
  | c :: r => match kitB n c with
    | some true => some true
    | some false => kitAnyB n r
    | none => none
theorem kitAny_of {K : PySem.W.Frag} {n : String} : ∀ {cs : List String} {b : Bool}, kitAnyB n cs = some b → PySem.W.kitAny K (.type n) (cs.map Value.type) = some b
  | [], b, h => h
  | c :: r, b, h => by
    unfold kitAnyB at h
    rw [List.map_cons]
    cases e : kitB n c with
    | none =>
      rw [e] at h
      cases h
    | some t =>
      rw [e] at h
      cases t with
      | true =>
        cases h
        exact kitAny_cons (kit_ty e) (fun z => by cases z) fun _ => rfl
      | false => exact kitAny_cons (kit_ty e) (fun _ => kitAny_of h) fun z => by cases z
theorem Reps.tys {K : PySem.W.Frag} {F : Hp} : ∀ {ys : List String} {xs : List V}, Reps K F (ys.map Dat.ty) xs → xs = ys.map V.ty
  | [], _, h => h
  | n :: ns, _, h => by
    obtain ⟨x, r, rfl, h2, h3⟩ := h
    cases h2
    rw [Reps.tys h3]
    rfl
theorem clsTys : ∀ ys : List String, Paired ClsV (ys.map V.ty) (ys.map Value.type)
  | [] => .nil
  | y :: ys => .cons (.ty y) (clsTys ys)
theorem de_isiT {ρ : DEnv} {e : Expr} {es : List Expr} {x1 p pos tpos} (hg : Gl X "isinstance") (hm : X.mg "isinstance" = none)
    (h : DE X F0 e ρ M fun d M1 => DA X F0 es ρ M1 fun cs M2 => ∃ n names b, tyName d = some n ∧ cs = List.map Dat.ty names ∧ names.length ≤ 1000 ∧ kitAnyB n names = some b ∧ q (.bl b) M2)
    (he : starEach [e, .Tuple es x1 tpos] X.env = (false, eval e X.env) :: starEach [.Tuple es x1 tpos] X.env := by rfl) (hpl : (backTo pos (starEach [.Tuple es x1 tpos] X.env)).any (·.1) = false := by rfl)
    (he2 : starEach [.Tuple es x1 tpos] X.env = (false, eval (.Tuple es x1 tpos) X.env) :: starEach [] X.env := by rfl) :
    DE X F0 (.Call (.Name "isinstance" p) [e, .Tuple es x1 tpos] [] pos) ρ M q :=
  PE.wk (pe_callB call_isiT hg hm (by decide +kernel) (pa_cons (uE (F0 := F0)) (pa_cons (pe_tup (uA (F0 := F0))) pa_nil he2) he) (by decide) (by decide) he hpl) fun σ H Q ⟨F, om, ol, k⟩ =>
    tU.go h om ol fun F1 H1 v d M1 e1 om1 r1 h1 => tUA.go h1 om1 (ol.mono e1) fun F2 H2 vs cs M2 e2 om2 r2 ⟨n, names, b, hn, hc, hl, hk, hq⟩ => by
      subst hc
      have hvs := r2.tys
      subst hvs
      refine ⟨by rw [List.length_map]; exact sz_le (by omega), fun t ht => ?_⟩
      have r1' := (r1.mono e2).mono (Ex.new (o := .tup (names.map V.ty)) (om2.freeF ht))
      have om3 := om2.new (u := .tup (names.map V.ty)) ht
      exact ⟨v, t, names.map V.ty, .type n, names.map Value.type, b, rfl, upd_same, clsTys names, tyX_of hn om3 r1', kitAny_of hk, ((k.mono (e1.trans e2)).mono (Ex.new (om2.freeF ht))).fin om3 rep_bl hq⟩

/-! ### data as the library has it: repr, == -/
mutual
def toPy : Dat → Option PyData
  | .non => some .none
  | .bl b => some (.bool b)
  | .int i => some (.int i)
  | .str x => some (.str x)
  | .lst ds => (toPys ds).map PyData.list
  | .tup ds => (toPys ds).map PyData.tuple
  | .ty _ | .ptr _ | .scr _ | .obj _ _ _ | .dct _ _ | .tpx _ | .dcf _ _ | .lam _ _ _ _ _ => none
def toPys : List Dat → Option (List PyData)
  | [] => some []
  | d :: ds => match toPy d, toPys ds with
    | some p, some ps => some (p :: ps)
    | _, _ => none
end
mutual
theorem toPy_dp {K : PySem.W.Frag} {F H : Hp} (e : Ex F H) : ∀ {d : Dat} {p : PyData} {v : V}, toPy d = some p → Rep K F d v → Dp K H v p
  | .non, p, v, h, r => by
    cases r
    unfold toPy at h
    cases h
    exact .non
  | .bl b, p, v, h, r => by
    cases r
    unfold toPy at h
    cases h
    exact .bl b
  | .int i, p, v, h, r => by
    cases r
    unfold toPy at h
    cases h
    exact .int i
  | .str x, p, v, h, r => by
    cases r
    unfold toPy at h
    cases h
    exact .str x
  | .lst ds, p, v, h, r => by
    obtain ⟨a, xs, rfl, h2, h3⟩ := r
    unfold toPy at h
    obtain ⟨ps, h4, rfl⟩ := Option.map_eq_some_iff.mp h
    exact .lst (SqL.of (e _ _ h2)) (toPys_dp e h4 h3)
  | .tup ds, p, v, h, r => by
    obtain ⟨a, xs, rfl, h2, h3⟩ := r
    unfold toPy at h
    obtain ⟨ps, h4, rfl⟩ := Option.map_eq_some_iff.mp h
    exact .tup (ex_t e h2) (toPys_dp e h4 h3)
  | .ty _, _, _, h, _ => by
    unfold toPy at h
    cases h
  | .ptr _, _, _, h, _ => by
    unfold toPy at h
    cases h
  | .scr _, _, _, h, _ => by
    unfold toPy at h
    cases h
  | .obj _ _ _, _, _, h, _ => by
    unfold toPy at h
    cases h
  | .dct _ _, _, _, h, _ => by
    unfold toPy at h
    cases h
  | .tpx _, _, _, h, _ => by
    unfold toPy at h
    cases h
  | .dcf _ _, _, _, h, _ => by
    unfold toPy at h
    cases h
  | .lam _ _ _ _ _, _, _, h, _ => by
    unfold toPy at h
    cases h
theorem toPys_dp {K : PySem.W.Frag} {F H : Hp} (e : Ex F H) : ∀ {ds : List Dat} {ps : List PyData} {vs : List V}, toPys ds = some ps → Reps K F ds vs → DpAll K H vs ps
  | [], ps, vs, h, r => by
    cases r
    unfold toPys at h
    cases h
    exact .nil
  | d :: ds, ps, vs, h, r => by
    obtain ⟨x, t, rfl, h2, h3⟩ := r
    unfold toPys at h
    cases e1 : toPy d with
    | none =>
      rw [e1] at h
      cases h
    | some p =>
      rw [e1] at h
      cases e2 : toPys ds with
      | none =>
        rw [e2] at h
        cases h
      | some pt =>
        rw [e2] at h
        cases h
        exact .cons (toPy_dp e e1 h2) (toPys_dp e e2 h3)
end
theorem dop_eqP {x y : Dat} {p r : PyData} {k : Nat} (hr : Room k X.A) (hx : toPy x = some p) (hy : toPy y = some r) (sx : SeqAt.shaped p = true) (sy : SeqAt.shaped r = true) (h : q (.bl (PyData.eqv p r)) M) : DOp X F0 (compareOp .Eq) x y M q :=
  ⟨_, op_eqD hr.units, fun F H vx vy Q om r1 r2 k => ⟨p, r, toPy_dp om.sub hx r1, toPy_dp om.sub hy r2, sx, sy, k.fin om rep_bl h⟩⟩
theorem dop_neP {x y : Dat} {p r : PyData} {k : Nat} (hr : Room k X.A) (hx : toPy x = some p) (hy : toPy y = some r) (sx : SeqAt.shaped p = true) (sy : SeqAt.shaped r = true) (h : q (.bl (!PyData.eqv p r)) M) : DOp X F0 (compareOp .NotEq) x y M q :=
  ⟨_, op_neD hr.units, fun F H vx vy Q om r1 r2 k => ⟨p, r, toPy_dp om.sub hx r1, toPy_dp om.sub hy r2, sx, sy, k.fin om rep_bl h⟩⟩
theorem no_dict : ∀ {K : PySem.W.Frag} {H : Hp} {v : V} {p : PyData}, Dp K H v p → p.hasDict = false := by
  intro K H
  refine fun {v p} h => Dp.rec (motive_1 := fun v p _ => p.hasDict = false) (motive_2 := fun vs ps _ => PyData.hasDictAll ps = false) ?_ ?_ ?_ ?_ ?_ ?_ ?_ ?_ h
  · simp only [PyData.hasDict]
  · intro b
    simp only [PyData.hasDict]
  · intro i
    simp only [PyData.hasDict]
  · intro x
    simp only [PyData.hasDict]
  · intro a xs ds _ _ ih
    simp only [PyData.hasDict]
    exact ih
  · intro a xs ds _ _ ih
    simp only [PyData.hasDict]
    exact ih
  · simp only [PyData.hasDictAll]
  · intro v vs d ds _ _ i1 i2
    simp only [PyData.hasDictAll, i1, i2]
    rfl
/-- repr of a list or a tuple -/
def isSeqD : Dat → Bool
  | .lst _ | .tup _ => true
  | _ => false
theorem call_reprD {p : PyData} {k : Nat} (hr : Room k X.A) (hg : X.A.guards = some []) (hs : p.showable = true) (hd : p.depth ≤ 60) (hz : p.shown.length ≤ sizeLine) :
    CallR X (.builtin "repr") (fun xs H Q => ∃ a, xs = [.ref a] ∧ Dp X.K H (.ref a) p ∧ Q (.str p.shown) H) := by
  intro pins s σ H xs us Q I r ⟨a, hx, hp, hq⟩
  subst hx
  obtain ⟨u, rfl, ru⟩ := Vals.one r
  cases ru
  obtain ⟨as, rd⟩ := Dp.reads I p _ _ hp rfl
  have hu := hr.units
  refine repr_of_reads' rd hs (PyData.noDict_hsm (no_dict hp)) hg (by omega) (fun _ _ e => e) (fun h' t tk keep => ?_) hz
  exact ⟨.str _, H, I.kept keep, ⟨t, rfl⟩, hq⟩
theorem dcl_repr {d : Dat} {p : PyData} {k : Nat} (hr : Room k X.A) (hg : X.A.guards = some []) (hd : isSeqD d = true) (hp : toPy d = some p) (hs : p.showable = true) (hdep : p.depth ≤ 60) (hz : p.shown.length ≤ sizeLine) (h : q (.str p.shown) M) : DCl X F0 (.builtin "repr") [d] M q :=
  ⟨_, call_reprD hr hg hs hdep hz, fun F H vs Q om r k => by
    obtain ⟨v, rfl, r1⟩ := reps1 r
    have dp := toPy_dp om.sub hp r1
    cases d with
    | lst ds =>
      obtain ⟨a, xs, rfl, _⟩ := r1
      exact ⟨a, rfl, dp, k.fin om rep_str h⟩
    | tup ds =>
      obtain ⟨a, xs, rfl, _⟩ := r1
      exact ⟨a, rfl, dp, k.fin om rep_str h⟩
    | _ => cases hd⟩
end

/-! ### the law's own end -/
theorem lawG {P : Program} {w : World} {K : PySem.W.Frag} {mg mb : Str → Option Value} {k : Nat} {fa a : Addr} {fd : FuncData} {x : Str} {S : DSpec} {s1 : Shared} {vs : List Value} {ns : List Int}
    (inK : K.In s1.heap) (nsM : s1.heap.Ns mainGlobals mg) (nsB : s1.heap.Ns builtinsNs mb) (boot : ∀ y : Str, y ≠ "__name__" → mb y = bootBuiltins y) (lim : s1.heap.NoLimit) (nog : s1.gens = #[])
    (script : s1.heap.get? a = some { cls := .type "list", data := .seq vs.toArray }) (hints : IntsAre vs ns) (short : ns.length ≤ sizeLine) (room : Room k callerA)
    (def_ : ∀ base : Heap, K.In base → base.Ns mainGlobals mg → FnG P w K mg base k fa fd [x] (LSp K S)) (binds : ∀ (s : Shared) (u : Value), BindsTo s fd ⟨[u], []⟩ [(x, u)])
    (spec : ∀ M, S [.scr ns] M (fun d _ => d = .bl true) (fun _ _ => False)) :
    codeAny (model P w) callerA (.call (.ref fa) ⟨[.ref a], []⟩) (fun r s' => r = .ok (.ret (.bool true)) ∧ OldK s1.heap s'.heap ∧ s'.os = s1.os ∧ AllBare s'.gens) s1 := by
  have rel := vals_ints hints
  have main : ∀ H : Hp, Only H → SqL K H a (ns.map V.int) → HOk P w H s1.heap → (∀ b u, H b = some u → b = a) → (∀ u, H a = some u → K.lookup a = none) →
      codeAny (model P w) callerA (.call (.ref fa) ⟨[.ref a], []⟩) (fun r s' => r = .ok (.ret (.bool true)) ∧ OldK s1.heap s'.heap ∧ s'.os = s1.os ∧ AllBare s'.gens) s1 := by
    intro H only seq held justA outK
    have free_of : ∀ {b : Addr} {ob : Obj}, b ≠ a → H b = none := by
      intro b _ hb
      cases e : H b with
      | none => rfl
      | some u => exact absurd (justA b u e) hb
    have dictFree : ∀ {b : Addr} {ob : Obj} {es : Array DictEntry} {ep : Nat}, s1.heap.get? b = some ob → ob.data = .dict es ep → H b = none := by
      intro b ob es ep e d
      by_cases hb : b = a
      · subst hb
        rw [script] at e
        cases e
        exact absurd (show Data.seq vs.toArray _ = Data.dict es ep from d) (fun z => by cases z)
      · exact free_of (ob := ob) hb
    have nsOf : ∀ {b : Addr} {m : Str → Option Value}, s1.heap.Ns b m → (hidT s1.heap H).Ns b m := by
      rintro b m ⟨ob, es, ep, e, d, rest⟩
      exact ⟨ob, es, ep, hidT_get e (dictFree e d), d, rest⟩
    have inB : K.In (hidT s1.heap H) := by
      intro b ob e
      refine hidT_get (inK b ob e) ?_
      cases q : H b with
      | none => rfl
      | some u =>
        have hb := justA b u q
        subst hb
        rw [outK u q] at e
        cases e
    have limB : (hidT s1.heap H).NoLimit := by
      obtain ⟨mc, l1, l2⟩ := lim
      exact ⟨mc, nsOf l1, l2⟩
    have env : Env0 P w K mg (hidT s1.heap H) callerA [] s1 H :=
      ⟨rfl, ⟨inB, nsOf nsM, ⟨mb, nsOf nsB, boot⟩, limB⟩, fun b ob e => of_hidT e, Nat.le_of_eq (hidT_size _ _), trivial, (fun b hb => absurd (show b ∈ ([] : List Addr) from hb) (by simp)), held, .of_eq nog⟩
    have om : OkM K H H (fun _ => none) H := ⟨Ex.refl H, Ex.refl H, fun p u z => by cases z⟩
    have sp : LSp K S [.ref a] H (fun v _ => v = .bl true) (fun _ _ _ => False) :=
      ⟨H, [.scr ns], fun _ => none, _, _, om, ⟨.ref a, [], rfl, ⟨a, rfl, seq⟩, rfl⟩, spec _, fun F' H' v d M' _ _ r hd => by
        subst hd
        exact r, fun _ _ _ _ _ _ _ _ _ z => z⟩
    refine codeAny_mono ((def_ _ inB (nsOf nsM)).go callerA [] s1 H ⟨[.ref a], []⟩ [.ref a] [.ref a] _ _ rfl room env (binds s1 (.ref a)) (.cons rfl .nil) sp) ?_
    intro r s2 out
    cases r with
    | error e =>
      obtain ⟨_, _, _, _, _, _, _, _, _, _, _, _, z⟩ := out
      exact z.elim
    | ok fl =>
      cases fl with
      | next => exact out.elim
      | brk => exact out.elim
      | cont => exact out.elim
      | ret u =>
        obtain ⟨v, H2, sameOs, bare, un, held2, rv, hv⟩ := out
        have hv' : v = .bl true := hv
        subst hv'
        obtain rfl : u = Value.bool true := rv
        refine ⟨rfl, OldK.of_keep ?_, sameOs, bare⟩
        intro b ob e
        rcases only b with z | ⟨o2, xs, z⟩
        · exact un.keep b ob e z (fun m => absurd (show b ∈ ([] : List Addr) from m) (by simp)) (by simp)
        · obtain ⟨g1, _⟩ := held b _ z
          obtain ⟨g2, _⟩ := held2 b _ (un.frzs b o2 _ z)
          rw [e] at g1
          cases g1
          exact g2
  have short' : (ns.map V.int).length ≤ sizeLine := by rw [List.length_map]; exact short
  cases found : K.lookup a with
  | some ob =>
    have e := inK a ob found
    rw [script] at e
    cases e
    refine main (fun _ => none) (fun _ => .inl rfl) (.inr ⟨_, vs.toArray, _, found, rfl, rfl, rfl, ?_, rel⟩) (fun b u z => by cases z) (fun b u z => by cases z) (fun u z => by cases z)
    rw [List.size_toArray, ← rel.length]
    exact short'
  | none =>
    let frozen : HO := .frz { cls := .type "list", data := .seq vs.toArray } (.lst (ns.map V.int))
    have at_a : upd (fun _ => none) a frozen a = some frozen := upd_same
    refine main (upd (fun _ => none) a frozen) (fun b => ?_) (.inl (.inr ⟨_, at_a⟩)) (fun b u z => ?_) (fun b u z => ?_) (fun _ _ => found)
    · by_cases hb : b = a
      · subst hb
        exact .inr ⟨_, _, at_a⟩
      · exact .inl (upd_ne hb)
    · by_cases hb : b = a
      · subst hb
        rw [at_a] at z
        cases z
        exact ⟨script, short', vs, _, rel, script⟩
      · rw [upd_ne hb] at z
        cases z
    · by_cases hb : b = a
      · exact hb
      · rw [upd_ne hb] at z
        cases z
/-- what a law is asked: True at every script -/
def SLaw : DSpec := fun ds M q _ => ∃ ns, ds = [.scr ns] ∧ ns.length ≤ 63 ∧ (∀ z ∈ ns, IB 1048576 z) ∧ ∀ M', q (.bl true) M'
theorem bits_ib {n : Nat} {z : Int} (h : Builtin.Int.intBits z ≤ n) : IB n z := by
  refine ⟨?_⟩
  unfold Builtin.Int.intBits at h
  by_cases e : z = 0
  · subst e
    exact Nat.pow_pos (by decide)
  · have e' : z.natAbs ≠ 0 := fun q => e (Int.natAbs_eq_zero.mp q)
    split at h
    · rename_i c
      exact absurd (by simpa using c) e
    · exact (Nat.log2_lt e').mp (by omega)
theorem walkG {l : PySem.W.OpenLaw} {k : Nat} {p : Program} {loose : List Str} {XP : (Str → Option Value) → Heap → Prop} {YP : World → Heap → Prop} {d : DefRec} {K : Params → PySem.W.Frag} {x : Str}
    (hn : l.most = some 63) (hdf : d.params.defaults = []) (hr : Room k callerA) (hY : ∀ (w : World) (h : Heap), YP w h → (K w.params).In h)
    (F : ∀ (w : World) (mg : Str → Option Value) (fa : Addr) (h : Heap), (K w.params).In h → h.Ns mainGlobals mg → mg d.name = some (.ref fa) →
      ∃ fd : FuncData, (∀ (s : Shared) (u : Value), BindsTo s fd ⟨[u], []⟩ [(x, u)]) ∧ ∀ base : Heap, (K w.params).In base → base.Ns mainGlobals mg → FnG l.prog w (K w.params) mg base k fa fd [x] (LSp (K w.params) SLaw)) :
    PySem.W.WalkO p loose XP YP l.row.toRowW d [] (fun f vs => PySem.call f vs) := by
  refine Att.attach_callB hn hdf ?_
  intro w s0 s1 mg mb fa o pm cd doc a vs ns G Y ho hd hcd hmg hobj hints hlen hbits hg
  obtain ⟨fd, hb, hF⟩ := F w mg fa _ (hY w _ Y) G.T.g hmg
  exact lawG (hY w _ Y) G.T.g G.T.b G.T.builtins G.T.nolimit hg hobj hints (Nat.le_trans hlen (by decide)) hr hF hb fun M => ⟨ns, rfl, hlen, fun z hz => bits_ib (hbits z hz), fun _ => rfl⟩
end DL
/-! DL8: small steps for the walk -/
namespace DL
open PySem PySem.Spec PyProof.Rows L2
theorem b_len : bootBuiltins "len" = some (.builtin "len") := by decide +kernel
theorem b_abs : bootBuiltins "abs" = some (.builtin "abs") := by decide +kernel
theorem b_all : bootBuiltins "all" = some (.builtin "all") := by decide +kernel
theorem b_any : bootBuiltins "any" = some (.builtin "any") := by decide +kernel
theorem b_sum : bootBuiltins "sum" = some (.builtin "sum") := by decide +kernel
theorem b_max : bootBuiltins "max" = some (.builtin "max") := by decide +kernel
theorem b_min : bootBuiltins "min" = some (.builtin "min") := by decide +kernel
theorem b_repr : bootBuiltins "repr" = some (.builtin "repr") := by decide +kernel
theorem b_sorted : bootBuiltins "sorted" = some (.builtin "sorted") := by decide +kernel
theorem b_isinstance : bootBuiltins "isinstance" = some (.builtin "isinstance") := by decide +kernel
theorem b_int : bootBuiltins "int" = some (.type "int") := by decide +kernel
theorem b_str : bootBuiltins "str" = some (.type "str") := by decide +kernel
theorem b_list : bootBuiltins "list" = some (.type "list") := by decide +kernel
theorem b_tuple : bootBuiltins "tuple" = some (.type "tuple") := by decide +kernel
theorem b_dict : bootBuiltins "dict" = some (.type "dict") := by decide +kernel
theorem b_bool : bootBuiltins "bool" = some (.type "bool") := by decide +kernel
/-! ### branches -/
theorem br_t {A B : Prop} (h : A) : (true = true → A) ∧ (true = false → B) := ⟨fun _ => h, fun z => by cases z⟩
theorem br_f {A B : Prop} (h : B) : (false = true → A) ∧ (false = false → B) := ⟨(fun z => by cases z), fun _ => h⟩
theorem br_dT {p A B : Prop} [Decidable p] (hp : p) (h : A) : (decide p = true → A) ∧ (decide p = false → B) := ⟨fun _ => h, fun z => absurd hp (of_decide_eq_false z)⟩
theorem br_dF {p A B : Prop} [Decidable p] (hp : ¬ p) (h : B) : (decide p = true → A) ∧ (decide p = false → B) := ⟨fun z => absurd (of_decide_eq_true z) hp, fun _ => h⟩
theorem br_d {p A B : Prop} [Decidable p] (h1 : p → A) (h2 : ¬ p → B) : (decide p = true → A) ∧ (decide p = false → B) := ⟨fun z => h1 (of_decide_eq_true z), fun z => h2 (of_decide_eq_false z)⟩
theorem br_n {k : Bool} {A B : Prop} (h : (k = true → B) ∧ (k = false → A)) : ((!k) = true → A) ∧ ((!k) = false → B) := by
  cases k with
  | true => exact ⟨(fun z => by cases z), fun _ => h.1 rfl⟩
  | false => exact ⟨fun _ => h.2 rfl, fun z => by cases z⟩
theorem br_b {k : Bool} {A B : Prop} (h1 : k = true → A) (h2 : k = false → B) : (k = true → A) ∧ (k = false → B) := ⟨h1, h2⟩
/-- the values said anew -/
theorem de_nm {i : Nat} {x : Str} {X : Cx} {F0 : Hp} {ρ : DEnv} {M : Mem} {q : Dat → Mem → Prop} {pos : Pos} (hN : X.N[i]? = some x) (hv : Vis X.env.scope x) (h : ∃ d, ρ[i]? = some (some d) ∧ q d M) (hd1 : (x == ("__debug__" : Str)) = false := by decide) (hd2 : (x == ("__classdict__" : Str)) = false := by decide) : DE X F0 (.Name x pos) ρ M q := by
  obtain ⟨d, h1, h2⟩ := h; exact de_var hN hv h1 h2 hd1 hd2
theorem env_is {X : Cx} {F0 : Hp} {sts : List Stmt} {ρ ρ' : DEnv} {M : Mem} {D : DEnds} (e : ρ = ρ') (h : DSs X F0 sts ρ' M D) : DSs X F0 sts ρ M D := by
  subst e
  exact h
theorem mem_is {X : Cx} {F0 : Hp} {sts : List Stmt} {ρ : DEnv} {M M' : Mem} {D : DEnds} (e : M = M') (h : DSs X F0 sts ρ M' D) : DSs X F0 sts ρ M D := by
  subst e
  exact h
theorem pass_body {P : Program} {w : World} {K : PySem.W.Frag} {mg : Str → Option Value} {base : Heap} {N : List Str} {qual : Str} {st : Stmt} {f : Addr} {cdv : Value} {A : Around} {outer : List PySem.Env} {s : Shared} {H : Hp} {E : XK} :
    PassesOwn (model (bodyX P w K mg base N qual st f cdv A outer s H E).prog (bodyX P w K mg base N qual st f cdv A outer s H E).w) (bodyX P w K mg base N qual st f cdv A outer s H E).A (bodyX P w K mg base N qual st f cdv A outer s H E).env (bodyX P w K mg base N qual st f cdv A outer s H E).xe := passes_of rfl
end DL
/-! DL9: calls of the text's defs, what the law's helpers answer -/
namespace DL
open PySem PySem.Spec PyProof.Rows L2

/-! ### more operations -/
section
variable {X : Cx} {F0 : Hp} {ρ : DEnv} {M : Mem} {q : DK}
theorem dop_isB {a b : Bool} (h : q (.bl (a == b)) M) : DOp X F0 (compareOp .Is) (.bl a) (.bl b) M q :=
  ⟨_, op_isBl, fun F H vx vy Q om r1 r2 k => ⟨a, b, r1, r2, by
    rw [show decide (a = b) = (a == b) by cases a <;> cases b <;> rfl]
    exact k.fin om rep_bl h⟩⟩
theorem dop_notB {a b : Bool} (h : q (.bl (!(a == b))) M) : DOp X F0 (compareOp .IsNot) (.bl a) (.bl b) M q :=
  ⟨_, op_notBl, fun F H vx vy Q om r1 r2 k => ⟨a, b, r1, r2, by
    rw [show decide (a = b) = (a == b) by cases a <;> cases b <;> rfl]
    exact k.fin om rep_bl h⟩⟩
theorem dt_chain {pos : Pos} {a b c : Expr} {op op' : CmpOp} {q : Bool → Mem → Prop} (h : DE X F0 a ρ M fun x M1 => DE X F0 b ρ M1 fun y M2 => DOp X F0 (compareOp op) x y M2 fun d M3 => ∃ k, d = .bl k ∧
      ((k = true → DE X F0 c ρ M3 fun z M4 => DOp X F0 (compareOp op') y z M4 fun d M5 => ∃ c, d = .bl c ∧ q c M5) ∧ (k = false → q false M3)))
    (hm : lastMarks [op, op'] [b, c] = false := by with_unfolding_all rfl) : DT X F0 (.Compare a [op, op'] [b, c] pos) ρ M q :=
  PT.wk (pt_chain (DOp.uni X _) (DOp.uni X _) (uE (F0 := F0)) (uE (F0 := F0)) (uE (F0 := F0)) hm) fun σ H Q ⟨F, om, ol, kk⟩ => by
    have k := kV.bl kk
    exact tU.go h om ol fun F1 H1 vx x M1 e1 om1 r1 h1 =>
      tU.go h1 om1 (ol.mono e1) fun F2 H2 vy y M2 e2 om2 r2 h2 => by
        obtain ⟨r, hr, t⟩ := h2
        refine ⟨r, hr, t F2 H2 vx vy _ om2 (r1.mono e2) r2 fun F3 H3 v3 d3 M3 e3 om3 r3 h3 => ?_⟩
        obtain ⟨b3, hd, ht, hf⟩ := h3
        subst hd
        refine ⟨b3, r3, ?_⟩
        cases b3 with
        | true =>
          rw [if_pos rfl]
          exact tU.go (ht rfl) om3 (ol.mono ((e1.trans e2).trans e3)) fun F4 H4 vz z M4 e4 om4 r4 h4 => by
            obtain ⟨r', hr', t'⟩ := h4
            exact ⟨r', hr', t' F4 H4 vy vz _ om4 (r2.mono (e3.trans e4)) r4 (k.mono (((e1.trans e2).trans e3).trans e4))⟩
        | false =>
          rw [if_neg Bool.false_ne_true]
          exact (k.mono ((e1.trans e2).trans e3)).fin om3 rep_bl ⟨false, rfl, hf rfl⟩
theorem op_mulT : OpR X (binaryOp .Mult) (fun x y H Q => ∃ z n, x = .str z ∧ y = .int n ∧ MulOk z n ∧ Q (.str (Txt.mul z n)) H) := by
  intro pins s σ H x y v u Q I rx ry h
  obtain ⟨z, n, rfl, rfl, ok, q⟩ := h
  obtain ⟨t, rfl⟩ := rx
  obtain ⟨t', rfl⟩ := ry
  exact SB.mul ok fun t2 k => ⟨.str _, H, I.tok k, ⟨t2, rfl⟩, q⟩
theorem dop_mulT {z : Str} {n : Int} (ok : MulOk z n) (h : q (.str (Txt.mul z n)) M) : DOp X F0 (binaryOp .Mult) (.str z) (.int n) M q :=
  ⟨_, op_mulT, fun F H vx vy Q om r1 r2 k => ⟨z, n, r1, r2, ok, k.fin om rep_str h⟩⟩
/-- bounds as they are asked for -/
theorem dop_mulx {i j : Int} (ha : IB 450000 i) (hb : IB 450000 j) (h : q (.int (i * j)) M) : DOp X F0 (binaryOp .Mult) (.int i) (.int j) M q := dop_mul ha hb (by decide) h
theorem dop_fdivx {i j : Int} (h0 : 0 < j) (hb : IB 8000 j) (h : q (.int (i / j)) M) : DOp X F0 (binaryOp .FloorDiv) (.int i) (.int j) M q := dop_fdiv h0 hb (by decide) h
theorem IB.small {n : Nat} {i : Int} (h1 : -(2 ^ 128) < i) (h2 : i < 2 ^ 128) (hn : 128 ≤ n := by decide) : IB n i := (IB.of h1 h2).mono hn
def keyD : Key → Dat
  | .inl i => .int i
  | .inr x => .str x
theorem rep_key {K : PySem.W.Frag} {F : Hp} {k : Key} {v : V} (r : Rep K F (keyD k) v) : v = L2.kV k := by
  cases k with
  | inl i => exact r
  | inr x => exact r
/-- dict([(k, d)]) -/
theorem dcl_dict1 {k : Key} {d : Dat} (hc : X.calm = true) (h : q (.dct [k] [d]) M) : DCl X F0 (.type "dict") [.lst [.tup [keyD k, d]]] M q :=
  ⟨_, call_dictP hc, fun F H vs Q om r kq => by
    obtain ⟨v, rfl, r1⟩ := reps1 r
    obtain ⟨p, xs, rfl, h2, h3⟩ := r1
    obtain ⟨x, rfl, h4⟩ := reps1 h3
    obtain ⟨p', xs', rfl, h5, h6⟩ := h4
    obtain ⟨a, b, rfl, h7, h8⟩ := reps2 h6
    obtain rfl := rep_key h7
    refine ⟨p, [p'], [(k, b)], rfl, SqL.of (om.sub _ _ h2), .cons (ex_t om.sub h5) .nil, fun p2 hp => ?_⟩
    exact kq (upd F p2 (.dK [(k, b)])) _ _ (.dct [k] [d]) M (Ex.new (om.freeF hp)) (om.new hp) ⟨p2, [b], rfl, upd_same, rfl, Reps.mono (Ex.new (om.freeF hp)) (Reps.cons h8 Reps.nil)⟩ h⟩
end

/-! ### a def of the module, without defaults -/
structure Cal (P : Program) (w : World) (K : PySem.W.Frag) (mg : Str → Option Value) (base : Heap) (x : Str) (k : Nat) (f : Addr) (fd : FuncData) (ps : List Str) (S : DSpec) : Prop where
  at_ : mg x = some (.ref f)
  len : ∀ ds M q x, S ds M q x → ds.length = ps.length
  kp : PySem.W.keepIn K (.ref f) = true
  ok : FnOk P w K mg base (L2.CX P w) k f fd ps (LSp K S)
  pos : ∀ (s : Shared) (us : List Value), us.length = ps.length → BindsTo s fd ⟨us, []⟩ (ps.zip us)
structure CalG (P : Program) (w : World) (K : PySem.W.Frag) (mg : Str → Option Value) (base : Heap) (x : Str) (k : Nat) (f : Addr) (fd : FuncData) (ps : List Str) (S : DSpec) : Prop where
  at_ : mg x = some (.ref f)
  len : ∀ ds M q x, S ds M q x → ds.length = ps.length
  kp : PySem.W.keepIn K (.ref f) = true
  ok : FnG P w K mg base k f fd ps (LSp K S)
  pos : ∀ (s : Shared) (us : List Value), us.length = ps.length → BindsTo s fd ⟨us, []⟩ (ps.zip us)
theorem range_pick {α : Type} (z : α) (l : List α) : pick z l (List.range l.length) = l := by
  unfold pick
  refine List.ext_getElem (by rw [List.length_map, List.length_range]) fun i h1 h2 => ?_
  rw [List.getElem_map, List.getElem_range, List.getD_eq_getElem?_getD, List.getElem?_eq_getElem h2]
  rfl
theorem bnd_pos {K : PySem.W.Frag} {fd : FuncData} {ps : List Str} (h : ∀ (s : Shared) (us : List Value), us.length = ps.length → BindsTo s fd ⟨us, []⟩ (ps.zip us)) : Bnd K fd ps ps.length [] [] (List.range ps.length) := by
  refine ⟨[], [], .nil, fun F => Reps.nil, fun s us ws _ h1 h2 => ?_⟩
  have e : ws = [] := List.eq_nil_of_length_eq_zero h2
  subst e
  rw [List.append_nil, List.append_nil, ← h1, range_pick]
  exact h s us h1
theorem bnd_kw {K : PySem.W.Frag} {fd : FuncData} {ps ks : List Str} {n : Nat} {perm : List Nat}
    (h : ∀ (s : Shared) (us ws : List Value), us.length = n → ws.length = ks.length → BindsTo s fd ⟨us, ks.zip ws⟩ (ps.zip (pick Value.none (us ++ ws) perm))) : Bnd K fd ps n ks [] perm := by
  refine ⟨[], [], .nil, fun F => Reps.nil, fun s us ws _ h1 h2 => ?_⟩
  rw [List.append_nil]
  exact h s us ws h1 h2
section
variable {X : Cx} {F0 : Hp} {ρ : DEnv} {M : Mem} {q : DK} {x : Str} {k k' : Nat} {f : Addr} {fd : FuncData} {ps ks : List Str} {S : DSpec} {e : Expr} {es : List Expr} {kws : List Keyword} {p pos : Pos} {xq : XQ} {n : Nat} {perm : List Nat}
theorem Cal.run {ds : List Dat} (C : Cal X.prog X.w X.K X.mg X.base x k f fd ps S) (hr : Room k' X.A) (hk : k ≤ k') (tk : XOk X F0 xq) (h : S ds M q xq) : DRun X F0 (.ref f) [] ds [] M q := by
  have hl := C.len _ _ _ _ h
  refine drun_f (dd := []) (n := ps.length) (perm := List.range ps.length) C.ok (hr.mono hk) tk (bnd_pos C.pos) hl rfl ?_
  rw [List.append_nil, List.append_nil, ← hl, range_pick]
  exact h
theorem Cal.runK {ds zs : List Dat} (C : Cal X.prog X.w X.K X.mg X.base x k f fd ps S) (hr : Room k' X.A) (hk : k ≤ k') (tk : XOk X F0 xq) (b : Bnd X.K fd ps n ks [] perm) (h1 : ds.length = n) (h2 : zs.length = ks.length) (h : S (pick Dat.non (ds ++ zs) perm) M q xq) : DRun X F0 (.ref f) ks ds zs M q := by
  refine drun_f (dd := []) C.ok (hr.mono hk) tk b h1 h2 ?_
  rw [List.append_nil]
  exact h
theorem CalG.run {ds : List Dat} (C : CalG X.prog X.w X.K X.mg X.base x k f fd ps S) (hr : Room k' X.A) (hg : X.A.guards = some []) (hk : k ≤ k') (tk : XOk X F0 xq) (h : S ds M q xq) : DRun X F0 (.ref f) [] ds [] M q := by
  have hl := C.len _ _ _ _ h
  refine drun_g (dd := []) (n := ps.length) (perm := List.range ps.length) (C.ok.mono hk) hr hg tk (bnd_pos C.pos) hl rfl ?_
  rw [List.append_nil, List.append_nil, ← hl, range_pick]
  exact h
/-- f(e, ..) -/
theorem de_fn (C : Cal X.prog X.w X.K X.mg X.base x k f fd ps S) (hg : Gl X x) (hr : Room k' X.A) (hk : k ≤ k') (tk : XOk X F0 xq) (h : DA X F0 (e :: es) ρ M fun ds M1 => S ds M1 q xq)
    (hdb : (x == ("__debug__" : Str)) = false := by decide) (he : starEach (e :: es) X.env = (false, eval e X.env) :: starEach es X.env := by rfl) (hpl : (backTo pos (starEach es X.env)).any (·.1) = false := by rfl) :
    DE X F0 (.Call (.Name x p) (e :: es) [] pos) ρ M q :=
  de_call hg C.at_ C.kp (PA.wk h fun σ H Q ⟨F, om, ol, kq⟩ => ⟨F, om, ol, fun F' H' vs ds M' e' o' r h' => kq F' H' vs ds M' e' o' r (C.run hr hk tk h')⟩) hdb he hpl
theorem de_fn0 (C : Cal X.prog X.w X.K X.mg X.base x k f fd ps S) (hg : Gl X x) (hr : Room k' X.A) (hk : k ≤ k') (tk : XOk X F0 xq) (h : S [] M q xq)
    (hdb : (x == ("__debug__" : Str)) = false := by decide) : DE X F0 (.Call (.Name x p) [] [] pos) ρ M q :=
  de_call0 hg C.at_ C.kp (C.run hr hk tk h) hdb
theorem da_imp {es : List Expr} {q q' : List Dat → Mem → Prop} (h : DA X F0 es ρ M q) (w : ∀ ds M', q ds M' → q' ds M') : DA X F0 es ρ M q' :=
  PA.wk h fun σ H Q ⟨F, om, ol, kq⟩ => ⟨F, om, ol, fun F' H' vs ds M' e' o' r h' => kq F' H' vs ds M' e' o' r (w ds M' h')⟩
theorem dk_imp {q q' : List Dat → Mem → Prop} (h : DKw X F0 kws ρ M q) (w : ∀ ds M', q ds M' → q' ds M') : DKw X F0 kws ρ M q' :=
  ⟨fun pos pins s σ H Q I ⟨F, om, ol, kq⟩ => (show PK X kws _ from h).run pos pins s σ H Q I ⟨F, om, ol, fun F' H' vs ds M' e' o' r h' => kq F' H' vs ds M' e' o' r (w ds M' h')⟩⟩
theorem de_fnG (C : CalG X.prog X.w X.K X.mg X.base x k f fd ps S) (hg : Gl X x) (hr : Room k' X.A) (hgd : X.A.guards = some []) (hk : k ≤ k') (tk : XOk X F0 xq) (h : DA X F0 (e :: es) ρ M fun ds M1 => S ds M1 q xq)
    (hdb : (x == ("__debug__" : Str)) = false := by decide) (he : starEach (e :: es) X.env = (false, eval e X.env) :: starEach es X.env := by rfl) (hpl : (backTo pos (starEach es X.env)).any (·.1) = false := by rfl) :
    DE X F0 (.Call (.Name x p) (e :: es) [] pos) ρ M q :=
  de_call hg C.at_ C.kp (da_imp h fun ds M' h' => C.run hr hgd hk tk h') hdb he hpl
/-- f(e, .., x=..) -/
theorem de_fnK (C : Cal X.prog X.w X.K X.mg X.base x k f fd ps S) (b : Bnd X.K fd ps n ks [] perm) (hg : Gl X x) (hr : Room k' X.A) (hk : k ≤ k') (tk : XOk X F0 xq) (hks : (backToKw pos (keywordEach kws X.env)).filterMap (·.1) = ks)
    (h : DA X F0 (e :: es) ρ M fun ds M1 => DKw X F0 kws ρ M1 fun zs M2 => ds.length = n ∧ zs.length = ks.length ∧ S (pick Dat.non (ds ++ zs) perm) M2 q xq)
    (hall : (backToKw pos (keywordEach kws X.env)).all (·.1.isSome) = true := by rfl) (hdb : (x == ("__debug__" : Str)) = false := by decide) (he : starEach (e :: es) X.env = (false, eval e X.env) :: starEach es X.env := by rfl)
    (hpl : ((backTo pos (starEach (e :: es) X.env)).any (·.1) || (backToKw pos (keywordEach kws X.env)).any (·.1.isNone)) = false := by rfl) :
    DE X F0 (.Call (.Name x p) (e :: es) kws pos) ρ M q :=
  de_callK hg C.at_ C.kp hks (da_imp h fun ds M' h' => dk_imp h' fun zs M'' h'' => C.runK hr hk tk b h''.1 h''.2.1 h''.2.2) hall hdb he hpl
theorem de_fnK0 (C : Cal X.prog X.w X.K X.mg X.base x k f fd ps S) (b : Bnd X.K fd ps 0 ks [] perm) (hg : Gl X x) (hr : Room k' X.A) (hk : k ≤ k') (tk : XOk X F0 xq) (hks : (backToKw pos (keywordEach kws X.env)).filterMap (·.1) = ks)
    (h : DKw X F0 kws ρ M fun zs M2 => zs.length = ks.length ∧ S (pick Dat.non zs perm) M2 q xq)
    (hall : (backToKw pos (keywordEach kws X.env)).all (·.1.isSome) = true := by rfl) (hdb : (x == ("__debug__" : Str)) = false := by decide)
    (hpl : ((backTo pos (starEach [] X.env)).any (·.1) || (backToKw pos (keywordEach kws X.env)).any (·.1.isNone)) = false := by rfl) :
    DE X F0 (.Call (.Name x p) [] kws pos) ρ M q :=
  de_callK0 hg C.at_ C.kp hks (dk_imp h fun zs M'' h'' => C.runK hr hk tk b rfl h''.1 h''.2) hall hdb hpl
end
/-- where a def without defaults stands -/
structure FunN (K : PySem.W.Frag) (x qual : Str) (st : Stmt) (f : Addr) (fd : FuncData) : Prop where
  ex : ∃ (oc : Value) (od : Option Addr) (kV doc pm : Value) (an : Option Addr) (cdv ct : Value) (osl : Array (Option Value)),
    fd = PySem.W.fnOf x qual (defArgs st) (defBody st) (defScope st) .none kV doc pm an cdv ct ∧ K.lookup f = some ⟨oc, od, .func fd, osl⟩ ∧ PySem.W.codeIn K cdv qual = true
  kp : PySem.W.keepIn K (.ref f) = true
theorem FunN.mk' {K : PySem.W.Frag} {x qual : Str} {st : Stmt} {f : Addr} {oc : Value} {od : Option Addr} {kV doc pm : Value} {an : Option Addr} {cdv ct : Value} {osl : Array (Option Value)}
    (l : K.lookup f = some ⟨oc, od, .func (PySem.W.fnOf x qual (defArgs st) (defBody st) (defScope st) .none kV doc pm an cdv ct), osl⟩) (c : PySem.W.codeIn K cdv qual = true) (k : PySem.W.keepIn K (.ref f) = true) :
    FunN K x qual st f (PySem.W.fnOf x qual (defArgs st) (defBody st) (defScope st) .none kV doc pm an cdv ct) := ⟨⟨_, _, _, _, _, _, _, _, _, rfl, l, c⟩, k⟩
theorem FunN.toD {K : PySem.W.Frag} {x qual : Str} {st : Stmt} {f : Addr} {fd : FuncData} (F : FunN K x qual st f fd) : FunD K x qual st f fd := by
  obtain ⟨⟨oc, od, kV, doc, pm, an, cdv, ct, osl, h1, h2, h3⟩, h4⟩ := F
  exact ⟨⟨oc, od, .none, kV, doc, pm, an, cdv, ct, osl, h1, h2, h3⟩, h4⟩
theorem FunN.pos {K : PySem.W.Frag} {x qual : Str} {st : Stmt} {f : Addr} {fd : FuncData} {ps : List Str} (F : FunN K x qual st f fd)
    (h : ∀ (kV doc pm : Value) (an : Option Addr) (cdv ct : Value) (us : List Value), us.length = ps.length → bindArgs (PySem.W.fnOf x qual (defArgs st) (defBody st) (defScope st) .none kV doc pm an cdv ct) ⟨us, []⟩ = pure (ps.zip us)) :
    ∀ (s : Shared) (us : List Value), us.length = ps.length → BindsTo s fd ⟨us, []⟩ (ps.zip us) := by
  obtain ⟨⟨oc, od, kV, doc, pm, an, cdv, ct, osl, rfl, h2, h3⟩, h4⟩ := F
  exact fun s us hl => .of_eq (h _ _ _ _ _ _ us hl)
theorem FunN.kw {K : PySem.W.Frag} {x qual : Str} {st : Stmt} {f : Addr} {fd : FuncData} {ps ks : List Str} {n : Nat} {perm : List Nat} (F : FunN K x qual st f fd)
    (h : ∀ (kV doc pm : Value) (an : Option Addr) (cdv ct : Value) (us ws : List Value), us.length = n → ws.length = ks.length → bindArgs (PySem.W.fnOf x qual (defArgs st) (defBody st) (defScope st) .none kV doc pm an cdv ct) ⟨us, ks.zip ws⟩ = pure (ps.zip (pick Value.none (us ++ ws) perm))) :
    Bnd K fd ps n ks [] perm := by
  obtain ⟨⟨oc, od, kV, doc, pm, an, cdv, ct, osl, rfl, h2, h3⟩, h4⟩ := F
  exact bnd_kw fun s us ws h1 h2 => .of_eq (h _ _ _ _ _ _ us ws h1 h2)

/-! ### what the law's helpers answer -/
abbrev noX : XQ := fun _ _ => False
def Same (p : Addr) (M M' : Mem) : Prop := ∀ a, a ≠ p → M' a = M a
theorem Same.refl (p : Addr) (M : Mem) : Same p M M := fun _ _ => rfl
theorem Same.trans {p : Addr} {M1 M2 M3 : Mem} (h : Same p M1 M2) (h' : Same p M2 M3) : Same p M1 M3 := fun a n => (h' a n).trans (h a n)
theorem Same.upd {p : Addr} {M M' : Mem} {o} (h : Same p M M') : Same p M (updM M' p o) := fun a n => (updM_ne n).trans (h a n)
/-- the bag: a list of the script, a place, a number, a seed, a count of calls -/
def Bag (c : Nat) (o : Option MO) : Prop := ∃ (ns : List Int) (i cl sd n : Int), o = some (.lst [.lst (ns.map Dat.int), .int i, .int cl, .int sd, .int n]) ∧ (∀ z ∈ ns, IB 1048576 z) ∧ 0 ≤ i ∧ 0 ≤ cl ∧ IB 1048576 cl ∧ 0 ≤ sd ∧ sd < 2147483629 ∧ 0 ≤ n ∧ n ≤ (c : Int)
theorem Bag.mono {c c' : Nat} {o : Option MO} (h : Bag c o) (hc : c ≤ c') : Bag c' o := by
  obtain ⟨ns, i, cl, sd, n, h1, h2, h3, h4, h5, h6, h7, h8, h9⟩ := h
  exact ⟨ns, i, cl, sd, n, h1, h2, h3, h4, h5, h6, h7, h8, by omega⟩
def S_bag : DSpec := fun ds M q _ => ∃ ns, ds = [.scr ns] ∧ ns.length ≤ 63 ∧ (∀ z ∈ ns, IB 1048576 z) ∧ ∀ p M', M p = none → Bag 0 (M' p) → Same p M M' → q (.ptr p) M'
def S_take : DSpec := fun ds M q _ => ∃ p m c, ds = [.ptr p, .int m] ∧ Bag c (M p) ∧ c ≤ 1000000 ∧ 1 ≤ m ∧ m < 10 ^ 30 ∧ ∀ d M', 0 ≤ d → d < m → Bag (c + 1) (M' p) → Same p M M' → q (.int d) M'
def thingsD : Dat → List Dat
  | .lst xs => xs
  | .tup xs => xs
  | .str s => signs s
  | _ => []
def S_of : DSpec := fun ds M q _ => ∃ p th c, ds = [.ptr p, th] ∧ Bag c (M p) ∧ c ≤ 1000000 ∧ thingsD th ≠ [] ∧ (thingsD th).length ≤ 100000 ∧ ∀ d M', d ∈ thingsD th → Bag (c + 1) (M' p) → Same p M M' → q d M'
/-- a name -/
def NmL (s : Str) : Prop := (∀ c ∈ s.cps.toList, 97 ≤ c ∧ c ≤ 122) ∧ 1 ≤ s.length ∧ s.length ≤ 7
def S_names : DSpec := fun ds M q _ => ∃ (p : Addr) (m c : Nat), ds = [.ptr p, .int m] ∧ Bag c (M p) ∧ c ≤ 900000 ∧ m ≤ 26 ∧ ∀ (xs : List Str) M', xs.length = m → xs.Nodup → (∀ s ∈ xs, NmL s) → Bag (c + 11 + m) (M' p) → Same p M M' → q (.lst (xs.map Dat.str)) M'
theorem atI_in {ds : List Dat} {i : Int} (h0 : 0 ≤ i) (h1 : i < (ds.length : Int)) : ∃ d, d ∈ ds ∧ atI ds i = some d := by
  have h2 : i.toNat < ds.length := by omega
  refine ⟨ds[i.toNat], List.getElem_mem h2, ?_⟩
  unfold atI ixN
  rw [if_pos h0, if_pos h1]
  exact List.getElem?_eq_getElem h2
theorem atI_ints {ns : List Int} {i : Int} (h0 : 0 ≤ i) (h1 : i < ((ns.map Dat.int).length : Int)) : ∃ z, z ∈ ns ∧ atI (ns.map Dat.int) i = some (.int z) := by
  obtain ⟨d, h2, h3⟩ := atI_in h0 h1
  obtain ⟨z, h4, rfl⟩ := List.mem_map.mp h2
  exact ⟨z, h4, h3⟩
theorem IB.ediv {n : Nat} {i m : Int} (h : IB n i) (h0 : 0 ≤ i) (hm : 1 ≤ m) : IB n (i / m) := by
  have h := h.lt
  refine ⟨?_⟩
  have h1 : 0 ≤ i / m := Int.ediv_nonneg h0 (by omega)
  have h2 : i / m ≤ i := Int.ediv_le_self m h0
  omega
theorem e18 : (10 : Int) ^ Int.toNat 18 = 1000000000000000000 := by decide
theorem same_sub {p : Addr} {M1 M2 M3 : Mem} {o : Option MO} (h : Same p M1 M2) : Same p M1 M2 := h
end DL
/-! DL10: comprehensions, ready to use -/
namespace DL
open PySem PySem.Spec PyProof.Rows L2
def ExM (M M' : Mem) : Prop := ∀ a o, M a = some o → M' a = some o
theorem ExM.upd {M : Mem} {a : Addr} {o : MO} (h : M a = none) : ExM M (updM M a o) := fun b u e => by
  by_cases hb : b = a
  · subst hb
    rw [h] at e
    cases e
  · rw [updM_ne hb]
    exact e
theorem del_upd {M : Mem} {a : Addr} {o : MO} (h : M a = none) : delM (updM M a o) a = M := by
  funext b
  unfold delM updM
  by_cases hb : b = a
  · rw [if_pos hb, hb, h]
  · rw [if_neg hb, if_neg hb]
def blkB (N : List Str) (sc scope : Scope) (own : List (Str × Nat)) : Bool :=
  decide (scope.kind = .function) && scope.names.all (fun y => decide (scope.names.lookup y.1 = some y.2)) && own.all (fun p => decide (N[p.2]? = some p.1))
  && scope.names.all (fun y => !decide (y.2 = .free) || decide (sc.names.lookup y.1 = some .cell) || decide (sc.names.lookup y.1 = some .free))
  && scope.names.all (fun y => !(decide (y.2 = .local) || decide (y.2 = .cell)) || (own.map (·.1)).contains y.1 || !N.contains y.1)
theorem blk_ok {N : List Str} {sc scope : Scope} {own : List (Str × Nat)} (h : blkB N sc scope own = true) : BlkOk N sc scope own := by
  unfold blkB at h
  simp only [Bool.and_eq_true, decide_eq_true_eq, List.all_eq_true, Bool.or_eq_true, Bool.not_eq_true', decide_eq_false_iff_not] at h
  obtain ⟨⟨⟨⟨h1, h2⟩, h3⟩, h4⟩, h5⟩ := h
  refine ⟨h1, h2, h3, fun y hy e => ?_, fun y hy e => ?_⟩
  · rcases h4 y hy with (z | z) | z
    · exact absurd e z
    · exact .inl z
    · exact .inr z
  · rcases h5 y hy with (z | z) | z
    · simp only [Bool.or_eq_false_iff, decide_eq_false_iff_not] at z
      rcases e with e | e
      · exact absurd e z.1
      · exact absurd e z.2
    · exact .inl (by simpa using z)
    · exact .inr (by simpa using z)
section
variable {X : Cx} {F0 : Hp} {ρ : DEnv} {M : Mem} {elt iter : Expr} {scope : Scope} {pos px : Pos} {x : Str} {i : Nat} {q : DK}
theorem DI.imp {tg : Expr} {q q' : List Dat → Mem → Prop} (h : DI X F0 tg iter ρ M q) (w : ∀ ds M', q ds M' → q' ds M') : DI X F0 tg iter ρ M q' := by
  obtain ⟨wi, h1, h2⟩ := h
  exact ⟨wi, h1, fun F σ H R om ol k => h2 F σ H R om ol fun F' H' J ds M' e o wk hq => k F' H' J ds M' e o wk (w ds M' hq)⟩
theorem loc_in {s : Shared} {H : Hp} {C : Addr} {cl : List (Str × Addr)} {fp : List Addr} (hl : scope.names.lookup x = some .local) : (blkX X scope s H C cl fp).env.scope.names.lookup x = some .local := PySem.lookup_relabel_local hl
theorem dg_own {s : Shared} {H : Hp} {C : Addr} {cl : List (Str × Addr)} {fp : List Addr} {d : Dat} {ρ : DEnv} {M : Mem} {vs : List Nat} {q : DEnv → Mem → Prop} (hN : X.N.Nodup) (hi : X.N[i]? = some x) (hl : scope.names.lookup x = some .local) (hv : vs.contains i = true) (h : q (ρ.set i (some d)) M) :
    DG (blkX X scope s H C cl fp) F0 (some vs) (.Name x px) d ρ M q :=
  dg_name (i := i) hN hi (.inl (loc_in hl)) hv h (.inr (loc_in hl))
theorem set2 {ρ : DEnv} {i : Nat} {d : Option Dat} : (wipeD ρ [i]).set i d = ρ.set i d := by
  show ((ρ.set i none).set i d) = _
  rw [List.set_set]
theorem one_in {i : Nat} : ([i] : List Nat).contains i = true := by simp
/-- [e for x in iter], nothing changes -/
theorem de_map (f : Dat → Dat) (hc : X.calm = true) (hN : X.N.Nodup) (hi : X.N[i]? = some x) (hl : scope.names.lookup x = some .local) (ok : BlkOk X.N X.env.scope scope [(x, i)])
    (h : DI X F0 (.Name x px) iter ρ M fun ds M1 => ds.length ≤ 100000 ∧ (∀ d ∈ ds, ∀ M', ExM M1 M' → Blk X scope fun X' => ∀ q2 : DK, q2 (f d) M' → DE X' F0 elt (ρ.set i (some d)) M' q2) ∧ q (.lst (ds.map f)) M1)
    (hs : ∀ y, foldedSetIterable iter X.env y = pure y := by intro _; rfl) : DE X F0 (.ListComp elt [⟨.Name x px, iter, [], 0⟩] scope pos) ρ M q := by
  refine de_lc hc hN ok (h.imp fun ds M1 ⟨h1, h2, h3⟩ => ⟨h1, fun D hD => ?_⟩) hs
  refine dcp_map f ds [] M1 hD (fun d hd acc s H C cl fp q' k => dg_own hN hi hl one_in (k _ ?_ ?_)) ?_
  · exact fun s H C cl fp q2 z => dts_nil z
  · intro s H C cl fp q2 z
    show DE _ F0 elt ((wipeD ρ [i]).set i (some d)) _ q2
    rw [set2]
    exact h2 d hd _ (ExM.upd hD) s H C cl fp q2 z
  · rw [List.nil_append]
    show q _ (delM (updM M1 D _) D)
    rw [del_upd hD]
    exact h3
/-- each item under a test -/
theorem dcp_filt {vs : List Nat} {ρw : DEnv} {D : Addr} {tg c : Expr} {q : List Dat → Mem → Prop} (g : Dat → Bool) (f : Dat → Dat) : ∀ (r acc : List Dat) (M : Mem), M D = none →
    (∀ d ∈ r, ∀ acc, Blk X scope fun X' => ∀ q' : DEnv → Mem → Prop, (∀ ρ2, (Blk X scope fun X' => ∀ q2 : Bool → Mem → Prop, q2 (g d) (updM M D (.lst acc)) → DT X' F0 c ρ2 (updM M D (.lst acc)) q2) → (g d = true → Blk X scope fun X' => ∀ q2 : DK, q2 (f d) (updM M D (.lst acc)) → DE X' F0 elt ρ2 (updM M D (.lst acc)) q2) → q' ρ2 (updM M D (.lst acc))) →
      DG X' F0 (some vs) tg d ρw (updM M D (.lst acc)) q') →
    q (acc ++ (r.filter g).map f) (updM M D (.lst (acc ++ (r.filter g).map f))) → DCp X F0 scope vs tg [c] elt ρw D q r acc (updM M D (.lst acc))
  | [], acc, M, hM, _, h => by
    rw [List.filter_nil, List.map_nil, List.append_nil] at h
    exact h
  | d :: r, acc, M, hM, hd, h => fun s H C cl fp => hd d List.mem_cons_self acc s H C cl fp _ fun ρ2 h1 h2 => fun s H C cl fp => dts_one (h1 s H C cl fp _ ⟨fun z => fun s H C cl fp => h2 z s H C cl fp _ ⟨updM_same, by
      rw [updM_updM]
      refine dcp_filt g f r (acc ++ [f d]) M hM (fun e he => hd e (List.mem_cons_of_mem _ he)) ?_
      rw [List.filter_cons_of_pos z, List.map_cons] at h
      rw [List.append_assoc]
      exact h⟩, fun z => ⟨updM_same, by
      refine dcp_filt g f r acc M hM (fun e he => hd e (List.mem_cons_of_mem _ he)) ?_
      rw [List.filter_cons_of_neg (by rw [z]; exact Bool.false_ne_true)] at h
      exact h⟩⟩)
/-- [e for x in iter if c], nothing changes -/
theorem de_filt {c : Expr} (g : Dat → Bool) (f : Dat → Dat) (hc : X.calm = true) (hN : X.N.Nodup) (hi : X.N[i]? = some x) (hl : scope.names.lookup x = some .local) (ok : BlkOk X.N X.env.scope scope [(x, i)])
    (h : DI X F0 (.Name x px) iter ρ M fun ds M1 => ds.length ≤ 100000 ∧ (∀ d ∈ ds, ∀ M', ExM M1 M' → Blk X scope fun X' => ∀ q2 : Bool → Mem → Prop, q2 (g d) M' → DT X' F0 c (ρ.set i (some d)) M' q2) ∧
      (∀ d ∈ ds, g d = true → ∀ M', ExM M1 M' → Blk X scope fun X' => ∀ q2 : DK, q2 (f d) M' → DE X' F0 elt (ρ.set i (some d)) M' q2) ∧ q (.lst ((ds.filter g).map f)) M1)
    (hs : ∀ y, foldedSetIterable iter X.env y = pure y := by intro _; rfl) : DE X F0 (.ListComp elt [⟨.Name x px, iter, [c], 0⟩] scope pos) ρ M q := by
  refine de_lc hc hN ok (h.imp fun ds M1 ⟨h1, h2, h3, h4⟩ => ⟨h1, fun D hD => ?_⟩) hs
  refine dcp_filt g f ds [] M1 hD (fun d hd acc s H C cl fp q' k => dg_own hN hi hl one_in (k _ ?_ ?_)) ?_
  · intro s H C cl fp q2 z
    show DT _ F0 c ((wipeD ρ [i]).set i (some d)) _ q2
    rw [set2]
    exact h2 d hd _ (ExM.upd hD) s H C cl fp q2 z
  · intro y s H C cl fp q2 z
    show DE _ F0 elt ((wipeD ρ [i]).set i (some d)) _ q2
    rw [set2]
    exact h3 d hd y _ (ExM.upd hD) s H C cl fp q2 z
  · rw [List.nil_append]
    show q _ (delM (updM M1 D _) D)
    rw [del_upd hD]
    exact h4
/-- the items change the cell p alone -/
theorem dcp_bag {vs : List Nat} {ρw : DEnv} {D p : Addr} {tg : Expr} {M1 : Mem} {q : List Dat → Mem → Prop} (P : Nat → List Dat → Option MO → Prop) (hD : M1 D = none) (hp : p ≠ D) : ∀ (r : List Dat) (j : Nat) (acc : List Dat) (M : Mem), M D = some (.lst acc) → P j acc (M p) → (∀ a, a ≠ p → a ≠ D → M a = M1 a) →
    (∀ (k : Nat) (d : Dat) (acc : List Dat) (M : Mem), r[k]? = some d → P (j + k) acc (M p) → (∀ a o, a ≠ p → M1 a = some o → M a = some o) → Blk X scope fun X' => ∀ q' : DEnv → Mem → Prop, (∀ ρ2, (Blk X scope fun X' => ∀ q2 : DK, (∀ y M2, Same p M M2 → P (j + k + 1) (acc ++ [y]) (M2 p) → q2 y M2) → DE X' F0 elt ρ2 M q2) → q' ρ2 M) → DG X' F0 (some vs) tg d ρw M q') →
    (∀ acc M, M D = some (.lst acc) → P (j + r.length) acc (M p) → (∀ a, a ≠ p → a ≠ D → M a = M1 a) → q acc M) → DCp X F0 scope vs tg [] elt ρw D q r acc M
  | [], j, acc, M, h1, h2, h3, _, h => h acc M h1 h2 h3
  | d :: r, j, acc, M, h1, h2, h3, hd, h => fun s H C cl fp => hd 0 d acc M rfl h2 (fun a o ha e => by
      by_cases hb : a = D
      · subst hb
        rw [hD] at e
        cases e
      · rw [h3 a ha hb]
        exact e) s H C cl fp _ fun ρ2 h4 => fun s H C cl fp => dts_nil ⟨fun _ => fun s H C cl fp => h4 s H C cl fp _ fun y M2 h5 h6 => ⟨by rw [h5 D (Ne.symm hp)]; exact h1, by
      refine dcp_bag P hD hp r (j + 1) (acc ++ [y]) _ updM_same ?_ ?_ (fun k d' acc' M' hk hP => ?_) (fun acc' M' hm hP => ?_)
      · rw [updM_ne hp]
        exact h6
      · intro a ha hb
        rw [updM_ne hb, h5 a ha, h3 a ha hb]
      · have z := hd (k + 1) d' acc' M' (by simpa using hk) (by rw [show j + (k + 1) = j + 1 + k by omega]; exact hP)
        rw [show j + (k + 1) + 1 = j + 1 + k + 1 by omega] at z
        exact z
      · exact h acc' M' hm (by
          rw [List.length_cons, show j + (r.length + 1) = j + 1 + r.length by omega]
          exact hP)⟩, fun z => by cases z⟩
/-- [e for x in iter], e changes the cell p alone; P k acc b: after k items -/
theorem de_bag (p : Addr) (P : Nat → List Dat → Option MO → Prop) (hc : X.calm = true) (hN : X.N.Nodup) (hi : X.N[i]? = some x) (hl : scope.names.lookup x = some .local) (ok : BlkOk X.N X.env.scope scope [(x, i)])
    (h : DI X F0 (.Name x px) iter ρ M fun ds M1 => ds.length ≤ 100000 ∧ M1 p ≠ none ∧ P 0 [] (M1 p) ∧ (∀ (k : Nat) (d : Dat) (acc : List Dat) (M' : Mem), ds[k]? = some d → P k acc (M' p) → (∀ a o, a ≠ p → M1 a = some o → M' a = some o) → Blk X scope fun X' => ∀ q2 : DK, (∀ y M2, Same p M' M2 → P (k + 1) (acc ++ [y]) (M2 p) → q2 y M2) → DE X' F0 elt (ρ.set i (some d)) M' q2) ∧
      (∀ acc M', P ds.length acc (M' p) → Same p M1 M' → q (.lst acc) M'))
    (hs : ∀ y, foldedSetIterable iter X.env y = pure y := by intro _; rfl) : DE X F0 (.ListComp elt [⟨.Name x px, iter, [], 0⟩] scope pos) ρ M q := by
  refine de_lc hc hN ok (h.imp fun ds M1 ⟨h1, h2, h3, h4, h5⟩ => ⟨h1, fun D hD => ?_⟩) hs
  have hp : p ≠ D := fun e => h2 (by rw [e]; exact hD)
  refine dcp_bag P hD hp ds 0 [] _ updM_same (by rw [updM_ne hp]; exact h3) (fun a _ hb => updM_ne hb) (fun k d acc M' hk hP hx s H C cl fp q' kk => dg_own hN hi hl one_in (kk _ ?_)) (fun acc M' hm hP hx => ?_)
  · intro s H C cl fp q2 z
    rw [Nat.zero_add] at hP z
    show DE _ F0 elt ((wipeD ρ [i]).set i (some d)) _ q2
    rw [set2]
    exact h4 k d acc M' hk hP hx s H C cl fp q2 z
  · rw [Nat.zero_add] at hP
    refine h5 acc (delM M' D) ?_ ?_
    · show P _ _ (if p = D then none else M' p)
      rw [if_neg hp]
      exact hP
    · intro a ha
      show (if a = D then none else M' a) = M1 a
      by_cases hb : a = D
      · rw [if_pos hb, hb, hD]
      · rw [if_neg hb]
        exact hx a ha hb
end
theorem cutD_mem {α : Type} {xs : List α} {lo hi : Option Int} {d : α} (h : d ∈ cutD xs lo hi) : d ∈ xs := by
  unfold cutD at h
  exact List.mem_of_mem_drop (List.mem_of_mem_take h)
theorem sIx_pos {n d : Nat} {v : Int} (h : 0 ≤ v) : HT.sIx n d (some v) = min v.toNat n := by
  show (if v < 0 then (v + (n : Int)).toNat else min v.toNat n) = _
  rw [if_neg (by omega)]
theorem take_min {α : Type} (xs : List α) (n : Nat) : xs.take (min n xs.length) = xs.take n := by
  by_cases h : n ≤ xs.length
  · rw [Nat.min_eq_left h]
  · rw [Nat.min_eq_right (by omega), List.take_length, List.take_of_length_le (by omega)]
theorem drop_min {α : Type} (xs : List α) (n : Nat) : xs.drop (min n xs.length) = xs.drop n := by
  by_cases h : n ≤ xs.length
  · rw [Nat.min_eq_left h]
  · rw [Nat.min_eq_right (by omega), List.drop_length, List.drop_eq_nil_of_le (by omega)]
theorem cut_to {α : Type} {xs : List α} {v : Int} (h : 0 ≤ v) : cutD xs none (some v) = xs.take v.toNat := by
  unfold cutD
  rw [sIx_pos h]
  show (xs.drop 0).take (min v.toNat xs.length - 0) = _
  rw [List.drop_zero, Nat.sub_zero, take_min]
theorem cut_from {α : Type} {xs : List α} {v : Int} (h : 0 ≤ v) : cutD xs (some v) none = xs.drop v.toNat := by
  unfold cutD
  rw [sIx_pos h]
  show (xs.drop (min v.toNat xs.length)).take (xs.length - min v.toNat xs.length) = _
  rw [drop_min, List.take_of_length_le]
  rw [List.length_drop]
  omega
theorem cut_mid {α : Type} {xs : List α} {v u : Int} (h : 0 ≤ v) (h' : 0 ≤ u) : cutD xs (some v) (some u) = (xs.drop v.toNat).take (u.toNat - v.toNat) := by
  unfold cutD
  rw [sIx_pos h, sIx_pos h', drop_min]
  by_cases a : u.toNat ≤ xs.length
  · rw [Nat.min_eq_left a]
    by_cases b : v.toNat ≤ xs.length
    · rw [Nat.min_eq_left b]
    · rw [List.drop_eq_nil_of_le (by omega), List.take_nil, List.take_nil]
  · rw [Nat.min_eq_right (by omega)]
    rw [List.take_of_length_le (by rw [List.length_drop]; omega), List.take_of_length_le (by rw [List.length_drop]; omega)]
theorem cut63 {ns : List Int} : cutD (ns.map Dat.int) none (some 63) = (ns.take 63).map Dat.int := by
  rw [cut_to (by decide), List.map_take]
  rfl
theorem atI_at {α : Type} {cs : List α} {i : Int} (h0 : 0 ≤ i) (h1 : i < (cs.length : Int)) : ∃ d, d ∈ cs ∧ atI cs i = some d := by
  have h2 : i.toNat < cs.length := by omega
  refine ⟨cs[i.toNat], List.getElem_mem h2, ?_⟩
  unfold atI ixN
  rw [if_pos h0, if_pos h1]
  exact List.getElem?_eq_getElem h2
end DL
/-! DL11: texts by their code points -/
namespace DL
open PySem PySem.Spec PyProof.Rows L2
def tx (l : List Nat) : Str := ⟨l.toArray⟩
theorem tx_of (s : Str) : tx s.cps.toList = s := by
  obtain ⟨a⟩ := s
  rfl
theorem tx_list {l : List Nat} : (tx l).cps.toList = l := rfl
theorem tx_len {l : List Nat} : (tx l).length = l.length := rfl
theorem tx_app {a b : List Nat} : tx a ++ tx b = tx (a ++ b) := by
  show (⟨a.toArray ++ b.toArray⟩ : Str) = _
  unfold tx
  rw [List.append_toArray]
theorem tx_inj {a b : List Nat} (h : tx a = tx b) : a = b := by
  have := congrArg (fun s : Str => s.cps.toList) h
  exact this
theorem tx_cut {l : List Nat} {lo hi : Option Int} : cutS (tx l) lo hi = tx (cutD l lo hi) := rfl
theorem joinL_one : ∀ cs : List Nat, TL.joinL [] (cs.map fun c => [c]) = cs
  | [] => rfl
  | [c] => rfl
  | c :: d :: r => by
    show [c] ++ ([] ++ TL.joinL [] ((d :: r).map fun c => [c])) = _
    rw [joinL_one (d :: r)]
    rfl
theorem tx_join {cs : List Nat} : Txt.join (tx []) (cs.map fun c => tx [c]) = tx cs := by
  have e := SX.join_S [] (cs.map fun c => [c])
  rw [joinL_one, List.map_map] at e
  exact e
theorem step_inj {s f : Int} (hs : s ∈ [1, 3, 5, 7, 9, 11, 15, 17, 19, 21, 23, 25]) {j k : Nat} (hj : j < 26) (hk : k < 26) (h : (f + (j : Int) * s) % 26 = (f + (k : Int) * s) % 26) : j = k := by
  simp only [List.mem_cons, List.not_mem_nil, or_false] at hs
  rcases hs with rfl | rfl | rfl | rfl | rfl | rfl | rfl | rfl | rfl | rfl | rfl | rfl <;> omega
def abcL : List Nat := [97, 98, 99, 100, 101, 102, 103, 104, 105, 106, 107, 108, 109, 110, 111, 112, 113, 114, 115, 116, 117, 118, 119, 120, 121, 122]
theorem abc_is : ("abcdefghijklmnopqrstuvwxyz" : Str) = tx abcL := by decide +kernel
theorem abc_at {i : Int} (h0 : 0 ≤ i) (h1 : i < 26) : atI abcL i = some (97 + i.toNat) := by
  obtain ⟨n, rfl⟩ := Int.eq_ofNat_of_zero_le h0
  have hn : n < 26 := by omega
  have key : ∀ m : Fin 26, atI abcL (m.val : Int) = some (97 + m.val) := by decide +kernel
  exact key ⟨n, hn⟩
theorem abc_mem {d : Dat} (h : d ∈ DL.signs (tx abcL)) : ∃ c, d = .str (tx [c]) ∧ 97 ≤ c ∧ c ≤ 122 := by
  obtain ⟨c, hc, rfl⟩ := List.mem_map.mp h
  refine ⟨c, rfl, ?_⟩
  have hc' : c ∈ abcL := hc
  have key : ∀ c ∈ abcL, 97 ≤ c ∧ c ≤ 122 := by decide +kernel
  exact key c hc'
/-- the k-th name -/
def nmK (stem : List Nat) (a : Nat) (f s : Int) (k t : Nat) : List Nat := stem.take a ++ [97 + ((f + (k : Int) * s) % 26).toNat] ++ (stem.drop a).take t
theorem nmK_ok {stem : List Nat} {a : Nat} {f s : Int} {k t : Nat} (h : ∀ c ∈ stem, 97 ≤ c ∧ c ≤ 122) (hl : stem.length ≤ 6) : NmL (tx (nmK stem a f s k t)) := by
  have h1 : 0 ≤ (f + (k : Int) * s) % 26 := Int.emod_nonneg _ (by decide)
  have h2 : (f + (k : Int) * s) % 26 < 26 := Int.emod_lt_of_pos _ (by decide)
  refine ⟨fun c hc => ?_, ?_, ?_⟩
  · rw [tx_list] at hc
    unfold nmK at hc
    rcases List.mem_append.mp hc with hc | hc
    · rcases List.mem_append.mp hc with hc | hc
      · exact h c (List.mem_of_mem_take hc)
      · rw [List.mem_singleton.mp hc]
        omega
    · exact h c (List.mem_of_mem_drop (List.mem_of_mem_take hc))
  · rw [tx_len]
    unfold nmK
    rw [List.length_append, List.length_append, List.length_singleton]
    omega
  · rw [tx_len]
    unfold nmK
    rw [List.length_append, List.length_append, List.length_singleton, List.length_take, List.length_take, List.length_drop]
    omega
theorem nmK_inj {stem : List Nat} {a : Nat} {f s : Int} {j k t u : Nat} (hs : s ∈ [1, 3, 5, 7, 9, 11, 15, 17, 19, 21, 23, 25]) (hj : j < 26) (hk : k < 26) (h : nmK stem a f s j t = nmK stem a f s k u) : j = k := by
  unfold nmK at h
  rw [List.append_assoc, List.append_assoc] at h
  have h2 := List.append_cancel_left h
  have h3 := (List.cons.inj h2).1
  have h1 : 0 ≤ (f + (k : Int) * s) % 26 := Int.emod_nonneg _ (by decide)
  have h4 : 0 ≤ (f + (j : Int) * s) % 26 := Int.emod_nonneg _ (by decide)
  exact step_inj (f := f) hs hj hk (by omega)
theorem nodup_ix {α : Type} : ∀ {ys : List α}, (∀ (i j : Nat) (a : α), ys[i]? = some a → ys[j]? = some a → i = j) → ys.Nodup
  | [], _ => List.nodup_nil
  | y :: ys, h => by
    refine List.nodup_cons.mpr ⟨fun m => ?_, nodup_ix fun i j a h1 h2 => ?_⟩
    · obtain ⟨i, hi⟩ := List.mem_iff_getElem?.mp m
      have := h 0 (i + 1) y rfl (by simpa using hi)
      omega
    · have := h (i + 1) (j + 1) a (by simpa using h1) (by simpa using h2)
      omega
theorem Bag.some {c : Nat} {o : Option MO} (h : Bag c o) : o ≠ none := by
  obtain ⟨ns, i, cl, sd, n, h1, _⟩ := h
  rw [h1]
  exact fun z => by cases z
theorem ints_mem {xs : List Int} {d : Dat} (h : d ∈ thingsD (.lst (xs.map Dat.int))) : ∃ z, z ∈ xs ∧ d = .int z := by
  obtain ⟨z, h1, h2⟩ := List.mem_map.mp (show d ∈ xs.map Dat.int from h)
  exact ⟨z, h1, h2.symm⟩
theorem dop_addX {X : Cx} {F0 : Hp} {M : Mem} {q : DK} {a b : List Nat} (hz : a.length + b.length ≤ 1000000) (h : q (.str (tx (a ++ b))) M) : DOp X F0 (binaryOp .Add) (.str (tx a)) (.str (tx b)) M q := dop_addT hz (by rw [tx_app]; exact h)
end DL
/-! DL12: isinstance of data against built-in classes, as a table -/
namespace DL
open PySem PySem.Spec PyProof.Rows L2
def isiD (d : Dat) (c : String) : Option Bool := (tyName d).bind fun n => kitB n c
def isiL (d : Dat) (cs : List String) : Option Bool := (tyName d).bind fun n => kitAnyB n cs
theorem dcl_isiX {X : Cx} {F0 : Hp} {M : Mem} {q : DK} {d : Dat} {c : String} (h : ∃ b, isiD d c = some b ∧ q (.bl b) M) : DCl X F0 (.builtin "isinstance") [d, .ty c] M q := by
  obtain ⟨b, h1, h2⟩ := h
  obtain ⟨n, h3, h4⟩ := Option.bind_eq_some_iff.mp h1
  exact dcl_isi h3 h4 h2
theorem isi_non_int : isiD .non "int" = some false := (by decide +kernel : kitB "NoneType" "int" = some false)
theorem isi_non_str : isiD .non "str" = some false := (by decide +kernel : kitB "NoneType" "str" = some false)
theorem isi_non_bool : isiD .non "bool" = some false := (by decide +kernel : kitB "NoneType" "bool" = some false)
theorem isi_non_list : isiD .non "list" = some false := (by decide +kernel : kitB "NoneType" "list" = some false)
theorem isi_non_tuple : isiD .non "tuple" = some false := (by decide +kernel : kitB "NoneType" "tuple" = some false)
theorem isi_non_dict : isiD .non "dict" = some false := (by decide +kernel : kitB "NoneType" "dict" = some false)
theorem isi_non_list_tuple : isiL .non ["list", "tuple"] = some false := (by decide +kernel : kitAnyB "NoneType" ["list", "tuple"] = some false)
theorem isi_non_int_str : isiL .non ["int", "str"] = some false := (by decide +kernel : kitAnyB "NoneType" ["int", "str"] = some false)
theorem isi_non_str_int : isiL .non ["str", "int"] = some false := (by decide +kernel : kitAnyB "NoneType" ["str", "int"] = some false)
theorem isi_non_tuple_list : isiL .non ["tuple", "list"] = some false := (by decide +kernel : kitAnyB "NoneType" ["tuple", "list"] = some false)
theorem isi_bl_int {b : Bool} : isiD (.bl b) "int" = some true := (by decide +kernel : kitB "bool" "int" = some true)
theorem isi_bl_str {b : Bool} : isiD (.bl b) "str" = some false := (by decide +kernel : kitB "bool" "str" = some false)
theorem isi_bl_bool {b : Bool} : isiD (.bl b) "bool" = some true := (by decide +kernel : kitB "bool" "bool" = some true)
theorem isi_bl_list {b : Bool} : isiD (.bl b) "list" = some false := (by decide +kernel : kitB "bool" "list" = some false)
theorem isi_bl_tuple {b : Bool} : isiD (.bl b) "tuple" = some false := (by decide +kernel : kitB "bool" "tuple" = some false)
theorem isi_bl_dict {b : Bool} : isiD (.bl b) "dict" = some false := (by decide +kernel : kitB "bool" "dict" = some false)
theorem isi_bl_list_tuple {b : Bool} : isiL (.bl b) ["list", "tuple"] = some false := (by decide +kernel : kitAnyB "bool" ["list", "tuple"] = some false)
theorem isi_bl_int_str {b : Bool} : isiL (.bl b) ["int", "str"] = some true := (by decide +kernel : kitAnyB "bool" ["int", "str"] = some true)
theorem isi_bl_str_int {b : Bool} : isiL (.bl b) ["str", "int"] = some true := (by decide +kernel : kitAnyB "bool" ["str", "int"] = some true)
theorem isi_bl_tuple_list {b : Bool} : isiL (.bl b) ["tuple", "list"] = some false := (by decide +kernel : kitAnyB "bool" ["tuple", "list"] = some false)
theorem isi_int_int {i : Int} : isiD (.int i) "int" = some true := (by decide +kernel : kitB "int" "int" = some true)
theorem isi_int_str {i : Int} : isiD (.int i) "str" = some false := (by decide +kernel : kitB "int" "str" = some false)
theorem isi_int_bool {i : Int} : isiD (.int i) "bool" = some false := (by decide +kernel : kitB "int" "bool" = some false)
theorem isi_int_list {i : Int} : isiD (.int i) "list" = some false := (by decide +kernel : kitB "int" "list" = some false)
theorem isi_int_tuple {i : Int} : isiD (.int i) "tuple" = some false := (by decide +kernel : kitB "int" "tuple" = some false)
theorem isi_int_dict {i : Int} : isiD (.int i) "dict" = some false := (by decide +kernel : kitB "int" "dict" = some false)
theorem isi_int_list_tuple {i : Int} : isiL (.int i) ["list", "tuple"] = some false := (by decide +kernel : kitAnyB "int" ["list", "tuple"] = some false)
theorem isi_int_int_str {i : Int} : isiL (.int i) ["int", "str"] = some true := (by decide +kernel : kitAnyB "int" ["int", "str"] = some true)
theorem isi_int_str_int {i : Int} : isiL (.int i) ["str", "int"] = some true := (by decide +kernel : kitAnyB "int" ["str", "int"] = some true)
theorem isi_int_tuple_list {i : Int} : isiL (.int i) ["tuple", "list"] = some false := (by decide +kernel : kitAnyB "int" ["tuple", "list"] = some false)
theorem isi_str_int {x : Str} : isiD (.str x) "int" = some false := (by decide +kernel : kitB "str" "int" = some false)
theorem isi_str_str {x : Str} : isiD (.str x) "str" = some true := (by decide +kernel : kitB "str" "str" = some true)
theorem isi_str_bool {x : Str} : isiD (.str x) "bool" = some false := (by decide +kernel : kitB "str" "bool" = some false)
theorem isi_str_list {x : Str} : isiD (.str x) "list" = some false := (by decide +kernel : kitB "str" "list" = some false)
theorem isi_str_tuple {x : Str} : isiD (.str x) "tuple" = some false := (by decide +kernel : kitB "str" "tuple" = some false)
theorem isi_str_dict {x : Str} : isiD (.str x) "dict" = some false := (by decide +kernel : kitB "str" "dict" = some false)
theorem isi_str_list_tuple {x : Str} : isiL (.str x) ["list", "tuple"] = some false := (by decide +kernel : kitAnyB "str" ["list", "tuple"] = some false)
theorem isi_str_int_str {x : Str} : isiL (.str x) ["int", "str"] = some true := (by decide +kernel : kitAnyB "str" ["int", "str"] = some true)
theorem isi_str_str_int {x : Str} : isiL (.str x) ["str", "int"] = some true := (by decide +kernel : kitAnyB "str" ["str", "int"] = some true)
theorem isi_str_tuple_list {x : Str} : isiL (.str x) ["tuple", "list"] = some false := (by decide +kernel : kitAnyB "str" ["tuple", "list"] = some false)
theorem isi_lst_int {ds : List Dat} : isiD (.lst ds) "int" = some false := (by decide +kernel : kitB "list" "int" = some false)
theorem isi_lst_str {ds : List Dat} : isiD (.lst ds) "str" = some false := (by decide +kernel : kitB "list" "str" = some false)
theorem isi_lst_bool {ds : List Dat} : isiD (.lst ds) "bool" = some false := (by decide +kernel : kitB "list" "bool" = some false)
theorem isi_lst_list {ds : List Dat} : isiD (.lst ds) "list" = some true := (by decide +kernel : kitB "list" "list" = some true)
theorem isi_lst_tuple {ds : List Dat} : isiD (.lst ds) "tuple" = some false := (by decide +kernel : kitB "list" "tuple" = some false)
theorem isi_lst_dict {ds : List Dat} : isiD (.lst ds) "dict" = some false := (by decide +kernel : kitB "list" "dict" = some false)
theorem isi_lst_list_tuple {ds : List Dat} : isiL (.lst ds) ["list", "tuple"] = some true := (by decide +kernel : kitAnyB "list" ["list", "tuple"] = some true)
theorem isi_lst_int_str {ds : List Dat} : isiL (.lst ds) ["int", "str"] = some false := (by decide +kernel : kitAnyB "list" ["int", "str"] = some false)
theorem isi_lst_str_int {ds : List Dat} : isiL (.lst ds) ["str", "int"] = some false := (by decide +kernel : kitAnyB "list" ["str", "int"] = some false)
theorem isi_lst_tuple_list {ds : List Dat} : isiL (.lst ds) ["tuple", "list"] = some true := (by decide +kernel : kitAnyB "list" ["tuple", "list"] = some true)
theorem isi_tup_int {ds : List Dat} : isiD (.tup ds) "int" = some false := (by decide +kernel : kitB "tuple" "int" = some false)
theorem isi_tup_str {ds : List Dat} : isiD (.tup ds) "str" = some false := (by decide +kernel : kitB "tuple" "str" = some false)
theorem isi_tup_bool {ds : List Dat} : isiD (.tup ds) "bool" = some false := (by decide +kernel : kitB "tuple" "bool" = some false)
theorem isi_tup_list {ds : List Dat} : isiD (.tup ds) "list" = some false := (by decide +kernel : kitB "tuple" "list" = some false)
theorem isi_tup_tuple {ds : List Dat} : isiD (.tup ds) "tuple" = some true := (by decide +kernel : kitB "tuple" "tuple" = some true)
theorem isi_tup_dict {ds : List Dat} : isiD (.tup ds) "dict" = some false := (by decide +kernel : kitB "tuple" "dict" = some false)
theorem isi_tup_list_tuple {ds : List Dat} : isiL (.tup ds) ["list", "tuple"] = some true := (by decide +kernel : kitAnyB "tuple" ["list", "tuple"] = some true)
theorem isi_tup_int_str {ds : List Dat} : isiL (.tup ds) ["int", "str"] = some false := (by decide +kernel : kitAnyB "tuple" ["int", "str"] = some false)
theorem isi_tup_str_int {ds : List Dat} : isiL (.tup ds) ["str", "int"] = some false := (by decide +kernel : kitAnyB "tuple" ["str", "int"] = some false)
theorem isi_tup_tuple_list {ds : List Dat} : isiL (.tup ds) ["tuple", "list"] = some true := (by decide +kernel : kitAnyB "tuple" ["tuple", "list"] = some true)
theorem isi_dct_int {ks : List Key} {ds : List Dat} : isiD (.dct ks ds) "int" = some false := (by decide +kernel : kitB "dict" "int" = some false)
theorem isi_dct_str {ks : List Key} {ds : List Dat} : isiD (.dct ks ds) "str" = some false := (by decide +kernel : kitB "dict" "str" = some false)
theorem isi_dct_bool {ks : List Key} {ds : List Dat} : isiD (.dct ks ds) "bool" = some false := (by decide +kernel : kitB "dict" "bool" = some false)
theorem isi_dct_list {ks : List Key} {ds : List Dat} : isiD (.dct ks ds) "list" = some false := (by decide +kernel : kitB "dict" "list" = some false)
theorem isi_dct_tuple {ks : List Key} {ds : List Dat} : isiD (.dct ks ds) "tuple" = some false := (by decide +kernel : kitB "dict" "tuple" = some false)
theorem isi_dct_dict {ks : List Key} {ds : List Dat} : isiD (.dct ks ds) "dict" = some true := (by decide +kernel : kitB "dict" "dict" = some true)
theorem isi_dct_list_tuple {ks : List Key} {ds : List Dat} : isiL (.dct ks ds) ["list", "tuple"] = some false := (by decide +kernel : kitAnyB "dict" ["list", "tuple"] = some false)
theorem isi_dct_int_str {ks : List Key} {ds : List Dat} : isiL (.dct ks ds) ["int", "str"] = some false := (by decide +kernel : kitAnyB "dict" ["int", "str"] = some false)
theorem isi_dct_str_int {ks : List Key} {ds : List Dat} : isiL (.dct ks ds) ["str", "int"] = some false := (by decide +kernel : kitAnyB "dict" ["str", "int"] = some false)
theorem isi_dct_tuple_list {ks : List Key} {ds : List Dat} : isiL (.dct ks ds) ["tuple", "list"] = some false := (by decide +kernel : kitAnyB "dict" ["tuple", "list"] = some false)
theorem isi_scr_int {ns : List Int} : isiD (.scr ns) "int" = some false := (by decide +kernel : kitB "list" "int" = some false)
theorem isi_scr_str {ns : List Int} : isiD (.scr ns) "str" = some false := (by decide +kernel : kitB "list" "str" = some false)
theorem isi_scr_bool {ns : List Int} : isiD (.scr ns) "bool" = some false := (by decide +kernel : kitB "list" "bool" = some false)
theorem isi_scr_list {ns : List Int} : isiD (.scr ns) "list" = some true := (by decide +kernel : kitB "list" "list" = some true)
theorem isi_scr_tuple {ns : List Int} : isiD (.scr ns) "tuple" = some false := (by decide +kernel : kitB "list" "tuple" = some false)
theorem isi_scr_dict {ns : List Int} : isiD (.scr ns) "dict" = some false := (by decide +kernel : kitB "list" "dict" = some false)
theorem isi_scr_list_tuple {ns : List Int} : isiL (.scr ns) ["list", "tuple"] = some true := (by decide +kernel : kitAnyB "list" ["list", "tuple"] = some true)
theorem isi_scr_int_str {ns : List Int} : isiL (.scr ns) ["int", "str"] = some false := (by decide +kernel : kitAnyB "list" ["int", "str"] = some false)
theorem isi_scr_str_int {ns : List Int} : isiL (.scr ns) ["str", "int"] = some false := (by decide +kernel : kitAnyB "list" ["str", "int"] = some false)
theorem isi_scr_tuple_list {ns : List Int} : isiL (.scr ns) ["tuple", "list"] = some true := (by decide +kernel : kitAnyB "list" ["tuple", "list"] = some true)
theorem de_isiX {X : Cx} {F0 : Hp} {M : Mem} {q : DK} {ρ : DEnv} {e : Expr} {es : List Expr} {x1 p pos tpos} (hg : Gl X "isinstance") (hm : X.mg "isinstance" = none)
    (h : DE X F0 e ρ M fun d M1 => DA X F0 es ρ M1 fun cs M2 => ∃ names, cs = List.map Dat.ty names ∧ ∃ b, isiL d names = some b ∧ names.length ≤ 1000 ∧ q (.bl b) M2)
    (he : starEach [e, .Tuple es x1 tpos] X.env = (false, eval e X.env) :: starEach [.Tuple es x1 tpos] X.env := by rfl) (hpl : (backTo pos (starEach [.Tuple es x1 tpos] X.env)).any (·.1) = false := by rfl)
    (he2 : starEach [.Tuple es x1 tpos] X.env = (false, eval (.Tuple es x1 tpos) X.env) :: starEach [] X.env := by rfl) :
    DE X F0 (.Call (.Name "isinstance" p) [e, .Tuple es x1 tpos] [] pos) ρ M q :=
  de_isiT hg hm (PE.wk h fun σ H Q ⟨F, om, ol, kq⟩ => ⟨F, om, ol, fun F' H' v d M' e' o' r h' => kq F' H' v d M' e' o' r (da_imp h' fun cs M2 ⟨names, h1, b, h2, h3, h4⟩ => by
    obtain ⟨n, h5, h6⟩ := Option.bind_eq_some_iff.mp h2
    exact ⟨n, names, b, h5, h1, h3, h6, h4⟩)⟩) he hpl he2
end DL
/-! DL13: == of nested data, texts many times -/
namespace DL
open PySem PySem.Spec PyProof.Rows L2
/-- == of two data, where it is decided here -/
def eqDD (x y : Dat) : Option Bool := (toPy x).bind fun p => (toPy y).bind fun r => if SeqAt.shaped p && SeqAt.shaped r then some (PyData.eqv p r) else none
def EqD (x y : Dat) (k : Bool → Prop) : Prop := ∃ b, eqDD x y = some b ∧ k b
theorem EqD.mk {x y : Dat} {k : Bool → Prop} (b : Bool) (h : eqDD x y = some b) (hk : k b) : EqD x y k := ⟨b, h, hk⟩
section
variable {X : Cx} {F0 : Hp} {ρ : DEnv} {M : Mem} {q : DK}
theorem dop_eqD {x y : Dat} {k : Nat} (hr : Room k X.A) (h : EqD x y fun b => q (.bl b) M) : DOp X F0 (compareOp .Eq) x y M q := by
  obtain ⟨b, h1, h2⟩ := h
  obtain ⟨p, h3, h4⟩ := Option.bind_eq_some_iff.mp h1
  obtain ⟨r, h5, h6⟩ := Option.bind_eq_some_iff.mp h4
  by_cases h : (SeqAt.shaped p && SeqAt.shaped r) = true
  · rw [if_pos h] at h6
    cases h6
    obtain ⟨h7, h8⟩ := Bool.and_eq_true_iff.mp h
    exact dop_eqP hr h3 h5 h7 h8 h2
  · rw [if_neg h] at h6
    cases h6
theorem dop_neD {x y : Dat} {k : Nat} (hr : Room k X.A) (h : EqD x y fun b => q (.bl (!b)) M) : DOp X F0 (compareOp .NotEq) x y M q := by
  obtain ⟨b, h1, h2⟩ := h
  obtain ⟨p, h3, h4⟩ := Option.bind_eq_some_iff.mp h1
  obtain ⟨r, h5, h6⟩ := Option.bind_eq_some_iff.mp h4
  by_cases h : (SeqAt.shaped p && SeqAt.shaped r) = true
  · rw [if_pos h] at h6
    cases h6
    obtain ⟨h7, h8⟩ := Bool.and_eq_true_iff.mp h
    exact dop_neP hr h3 h5 h7 h8 h2
  · rw [if_neg h] at h6
    cases h6
end
theorem cutS_len {z : Str} {lo hi : Option Int} : (cutS z lo hi).length ≤ z.length := by
  show (((z.cps.toList.drop _).take _).toArray).size ≤ z.cps.size
  rw [List.size_toArray, List.length_take, List.length_drop, Array.length_toList]
  omega
theorem mulT_ok {z : Str} {n : Int} (hz : z.length ≤ 1000) (hn : n ≤ 1000) (hl : -1000 ≤ n) : MulOk z n := mulOk_of 1000 1000 hz hn (by omega) (by decide) (by decide)
theorem rep_nil {α : Type} : ∀ n : Nat, (List.replicate n ([] : List α)).flatten = []
  | 0 => rfl
  | n + 1 => by
    rw [List.replicate_succ, List.flatten_cons, rep_nil n]
    rfl
theorem rep_fold {l : List Nat} : ∀ (k : Nat) (acc : List Nat), List.foldl (fun x1 x2 => x1 ++ x2) acc.toArray (List.replicate k l.toArray) = (acc ++ (List.replicate k l).flatten).toArray
  | 0, acc => by simp
  | k + 1, acc => by
    rw [List.replicate_succ, List.foldl_cons, List.append_toArray, rep_fold k, List.replicate_succ, List.flatten_cons, List.append_assoc]
theorem tx_mul {l : List Nat} {n : Int} (h : 2 ≤ n) : Txt.mul (tx l) n = tx (List.replicate n.toNat l).flatten := by
  unfold Txt.mul
  rw [if_neg (by omega)]
  by_cases e : l = []
  · subst e
    rw [rep_nil, if_pos (by rw [show (tx []).length = 0 from rfl]; simp)]
  · have e2 : ¬ (n == 1 || (tx l).length == 0) = true := by
      intro z
      rcases Bool.or_eq_true_iff.mp z with z | z
      · have := eq_of_beq z
        omega
      · have z := eq_of_beq z
        exact e (List.eq_nil_of_length_eq_zero z)
    rw [if_neg e2]
    have := rep_fold (l := l) n.toNat []
    show (⟨_⟩ : Str) = ⟨_⟩
    rw [show (#[] : Array Nat) = ([] : List Nat).toArray from rfl]
    exact congrArg Str.mk (this.trans (by rw [List.nil_append]))
section
variable {X : Cx} {F0 : Hp} {ρ : DEnv} {M : Mem} {q : DK}
theorem dcl_dictS {x : Str} {d : Dat} (hc : X.calm = true) (h : q (.dct [.inr x] [d]) M) : DCl X F0 (.type "dict") [.lst [.tup [.str x, d]]] M q := dcl_dict1 (k := .inr x) hc h
theorem dcl_strIx {i : Int} (hi : IB 1900 i) (h : q (.str (toString i)) M) : DCl X F0 (.type "str") [.int i] M q := dcl_strI hi (Nat.le_refl _) h
theorem dop_isT {a : Bool} (h : q (.bl a) M) : DOp X F0 (compareOp .Is) (.bl a) (.bl true) M q := dop_isB (by cases a <;> exact h)
theorem dop_isF {a : Bool} (h : q (.bl (!a)) M) : DOp X F0 (compareOp .Is) (.bl a) (.bl false) M q := dop_isB (by cases a <;> exact h)
theorem dop_ntT {a : Bool} (h : q (.bl (!a)) M) : DOp X F0 (compareOp .IsNot) (.bl a) (.bl true) M q := dop_notB (by cases a <;> exact h)
theorem dop_ntF {a : Bool} (h : q (.bl a) M) : DOp X F0 (compareOp .IsNot) (.bl a) (.bl false) M q := dop_notB (by cases a <;> exact h)
theorem dop_p9 (h : q (.int 1000000000) M) : DOp X F0 (binaryOp .Pow) (.int 10) (.int 9) M q := dop_pow (by decide) h
theorem dop_p6 (h : q (.int 1000000) M) : DOp X F0 (binaryOp .Pow) (.int 10) (.int 6) M q := dop_pow (by decide) h
theorem dop_p14 (h : q (.int 100000000000000) M) : DOp X F0 (binaryOp .Pow) (.int 10) (.int 14) M q := dop_pow (by decide) h
theorem dop_p18 (h : q (.int 1000000000000000000) M) : DOp X F0 (binaryOp .Pow) (.int 10) (.int 18) M q := dop_pow (by decide) h
end
theorem glob_str {K : PySem.W.Frag} {h : Heap} {mg : Str → Option Value} {x z : Str} {t : Tok} (X : K.In h) (G : h.Ns mainGlobals mg) (g : PySem.W.nsIn K mainGlobals x = some (some (.str z t))) : GlobD K mg x (.str z) :=
  ⟨.str z, .str z t, PySem.W.mg_of X G g, ⟨t, rfl⟩, fun _ => rfl⟩
theorem glob_int {K : PySem.W.Frag} {h : Heap} {mg : Str → Option Value} {x : Str} {i : Int} {t : Tok} (X : K.In h) (G : h.Ns mainGlobals mg) (g : PySem.W.nsIn K mainGlobals x = some (some (.int i t))) : GlobD K mg x (.int i) :=
  ⟨.int i, .int i t, PySem.W.mg_of X G g, ⟨t, rfl⟩, fun _ => rfl⟩
end DL
/-! DL14: own classes -/
namespace DL
open PySem PySem.Spec PyProof.Rows L2
/-- a def that stands as an attribute of a class -/
structure Met (P : Program) (w : World) (K : PySem.W.Frag) (mg : Str → Option Value) (base : Heap) (C : Addr) (m : Str) (k : Nat) (f : Addr) (fd : FuncData) (ps : List Str) (S : DSpec) : Prop where
  at_ : PySem.W.findIn K (.ref C) m = some (some (.ref f))
  fn : PySem.W.isFn K (.ref f) = true
  len : ∀ ds M q x, S ds M q x → ds.length = ps.length
  kp : PySem.W.keepIn K (.ref f) = true
  ok : FnOk P w K mg base (L2.CX P w) k f fd ps (LSp K S)
  pos : ∀ (s : Shared) (us : List Value), us.length = ps.length → BindsTo s fd ⟨us, []⟩ (ps.zip us)
theorem Met.meth {P : Program} {w : World} {K : PySem.W.Frag} {mg : Str → Option Value} {base : Heap} {C : Addr} {m : Str} {k : Nat} {f : Addr} {fd : FuncData} {ps : List Str} {S : DSpec} (c : Met P w K mg base C m k f fd ps S) : Meth K C m f := ⟨c.at_, c.fn, c.kp⟩
theorem relv_ni {y : V} (h : RelV y Value.notImplemented) : False := by
  cases y <;> first | (cases h; done) | (obtain ⟨_, h⟩ := h; cases h)
theorem ep_cmp {X : Cx} {pins : List (Addr × Obj)} {σ : L2.St} {Q : VK} {v : Value} {s : Shared} (h : EP X pins σ Q v s) : PySem.W.CmpBack (EP X pins σ Q) v s := by
  obtain ⟨y, H, I, r, z⟩ := h
  cases v <;> first | exact (relv_ni r).elim | exact ⟨y, H, I, r, z⟩
theorem inst_at {X : Cx} {pins : List (Addr × Obj)} {σ : L2.St} {H : Hp} {s : Shared} {a C dx : Addr} {fs : List (Str × V)} (I : Inv X pins σ H s) (e : H a = some (.ins C dx fs)) : ∃ od, PySem.W.InstAt s.heap a (PySem.W.instObj C dx) C (some od) := by
  obtain ⟨mA, O, r, _, _, _⟩ := ins_get I.hok e
  obtain ⟨od, J, _⟩ := O.look
  exact ⟨od, J⟩
/-- an instance: as a datum, or in a cell -/
def Ins (M : Mem) (C : Addr) (ns : List Str) (ds : List Dat) (d : Dat) : Prop := d = .obj C ns ds ∨ ∃ p, d = .ptr p ∧ M p = some (.obj C ns ds)
theorem Ins.at {K : PySem.W.Frag} {F0 F H : Hp} {M : Mem} {C : Addr} {ns : List Str} {ds : List Dat} {d : Dat} {v : V} (h : Ins M C ns ds d) (om : OkM K F0 F M H) (r : Rep K F d v) : ∃ a dx xs, v = .ref a ∧ H a = some (.ins C dx (ns.zip xs)) ∧ ns.length = xs.length ∧ Reps K F ds xs := by
  rcases h with rfl | ⟨p, rfl, hM⟩
  · obtain ⟨p, dx, xs, rfl, h1, h2, h3⟩ := r
    exact ⟨p, dx, xs, rfl, om.sub _ _ h1, h2, h3⟩
  · obtain rfl : v = .ref p := r
    obtain ⟨_, u, hu, ru⟩ := om.mem p _ hM
    obtain ⟨dx, xs, rfl, h2, h3⟩ := ru
    exact ⟨p, dx, xs, rfl, hu, h2, h3⟩
theorem look_rep {K : PySem.W.Frag} {F : Hp} {f : Str} {d : Dat} : ∀ {ns : List Str} {ds : List Dat} {xs : List V}, ns.length = xs.length → Reps K F ds xs → (ns.zip ds).lookup f = some d → ∃ v, (ns.zip xs).lookup f = some v ∧ Rep K F d v
  | [], ds, xs, _, _, h => by cases h
  | n :: ns, [], xs, _, _, h => by cases h
  | n :: ns, e :: ds, [], hl, r, h => by cases hl
  | n :: ns, e :: ds, x :: xs, hl, r, h => by
    obtain ⟨y, t, e1, r1, r2⟩ := r
    cases e1
    rw [List.zip_cons_cons, List.lookup_cons] at h ⊢
    cases hb : f == n with
    | true =>
      rw [hb] at h
      cases h
      exact ⟨_, rfl, r1⟩
    | false =>
      rw [hb] at h
      exact look_rep (Nat.succ.inj hl) r2 h
theorem look_none {f : Str} : ∀ {ns : List Str} {xs : List V}, f ∉ ns → (ns.zip xs).lookup f = none
  | [], _, _ => rfl
  | n :: ns, [], _ => rfl
  | n :: ns, x :: xs, h => by
    rw [List.zip_cons_cons, List.lookup_cons]
    have : (f == n) = false := by
      refine Bool.eq_false_iff.mpr fun z => h ?_
      rw [eq_of_beq z]
      exact List.mem_cons_self
    rw [this]
    exact look_none fun z => h (List.mem_cons_of_mem _ z)
/-- the fields after a store -/
def putN (f : Str) (d : Dat) : List Str → List Dat → List Str × List Dat
  | n :: ns, e :: ds => if n = f then (n :: ns, d :: ds) else ((putN f d ns ds).1.cons n, (putN f d ns ds).2.cons e)
  | _, _ => ([f], [d])
section
variable {X : Cx} {F0 : Hp} {ρ : DEnv} {M : Mem} {q : DK} {k k' : Nat} {f C : Addr} {fd : FuncData} {ps : List Str} {S : DSpec} {e : Expr} {es : List Expr} {pos : Pos} {xq : XQ} {m : Str}
theorem Met.run {ds : List Dat} (c : Met X.prog X.w X.K X.mg X.base C m k f fd ps S) (hr : Room k' X.A) (hk : k ≤ k') (tk : XOk X F0 xq) (h : S ds M q xq) : DRun X F0 (.ref f) [] ds [] M q := by
  have hl := c.len _ _ _ _ h
  refine drun_f (dd := []) (n := ps.length) (perm := List.range ps.length) c.ok (hr.mono hk) tk (bnd_pos c.pos) hl rfl ?_
  rw [List.append_nil, List.append_nil, ← hl, range_pick]
  exact h
/-- a field -/
theorem de_fld {n : Str} (h : DE X F0 e ρ M fun d M1 => ∃ C ns ds, Ins M1 C ns ds d ∧ Cls X.K C ∧ NoAttr X.K C n ∧ ∃ y, (ns.zip ds).lookup n = some y ∧ q y M1) (hb : attributeBase e n X.env (eval e X.env) = eval e X.env := by rfl) : DE X F0 (.Attribute e n pos) ρ M q :=
  PE.wk (pe_fld (uE (F0 := F0)) hb) fun σ H Q ⟨F, om, ol, kq⟩ => tU.go h om ol fun F1 H1 v d M1 e1 om1 r1 ⟨C, ns, ds, hi, hc, hn, y, hl, hq⟩ => by
    obtain ⟨a, dx, xs, rfl, ha, hlen, hx⟩ := hi.at om1 r1
    obtain ⟨vy, h1, h2⟩ := look_rep hlen hx hl
    exact ⟨a, C, dx, _, vy, rfl, ha, hc, hn, h1, (kq.mono e1).fin om1 h2 hq⟩
/-- o.m(e, ..) -/
theorem de_meth {o : Expr} {apos : Pos} {pl : Sem Bool} (c : Met X.prog X.w X.K X.mg X.base C m k f fd ps S) (cl : Cls X.K C) (hr : Room k' X.A) (hk : k ≤ k') (tk : XOk X F0 xq)
    (h : DE X F0 o ρ M fun d M1 => ∃ ns fs, Ins M1 C ns fs d ∧ m ∉ ns ∧ DA X F0 (e :: es) ρ M1 fun ds M2 => S (d :: ds) M2 q xq)
    (hst : starEach (e :: es) X.env = (false, eval e X.env) :: starEach es X.env := by rfl) (hpl : (backTo pos (starEach es X.env)).any (·.1) = false := by rfl)
    (ht : eval (.Call (.Attribute o m apos) (e :: es) [] pos) X.env = (do
      let ov ← eval o X.env
      standAt apos.atName
      let (f, first) ← holding [ov] (getMethod ov m pl)
      callWith pos f first (backTo pos (starEach (e :: es) X.env)) (backToKw pos (keywordEach [] X.env))) := by rfl) : DE X F0 (.Call (.Attribute o m apos) (e :: es) [] pos) ρ M q := by
  refine ⟨fun pins s σ H Q I ⟨F, om, ol, kq⟩ => ?_⟩
  refine PySem.W.methodCall_KW (pl := pl) (thn ((uE (X := X) (F0 := F0) (e := o)).run pins s σ H (fun v H1 => ∃ F1 d M1, Ex F F1 ∧ OkM X.K F0 F1 M1 H1 ∧ Rep X.K F1 d v ∧ ∃ ns fs, Ins M1 C ns fs d ∧ m ∉ ns ∧ DA X F0 (e :: es) ρ M1 fun ds M2 => S (d :: ds) M2 q xq) I
    (tU.go h om ol fun F1 H1 v d M1 e1 om1 r1 h1 => ⟨F1, d, M1, e1, om1, r1, h1⟩)) fun u s1 ⟨v, H1, I1, rv, F1, d, M1, e1, om1, r1, ns, fs, hi, hn, h1⟩ => ?_) ht
  obtain ⟨a, dx, xs, rfl, ha, hlen, hx⟩ := hi.at om1 r1
  obtain rfl : u = Value.ref a := rv
  refine getmeth_ok I1 ha cl c.meth (look_none hn) ?_
  refine PySem.W.callWith_K (first := [.ref a]) (h₀ := X.base) I.ok.mod.kin c.kp (thn ((uA (X := X) (F0 := F0) (es := e :: es)).run pos pins s1 σ H1 (fun vs H2 => ∃ F2 ds M2, Ex F1 F2 ∧ OkM X.K F0 F2 M2 H2 ∧ Reps X.K F2 ds vs ∧ S (d :: ds) M2 q xq) I1
    (tUA.go h1 om1 (ol.mono e1) fun F2 H2 vs ds M2 e2 om2 r2 h2 => ⟨F2, ds, M2, e2, om2, r2, h2⟩)) fun us s2 ⟨vs, H2, I2, rvs, F2, ds, M2, e2, om2, r2, h2⟩ => ⟨I2.kIn, ?_⟩) hst hpl
  exact c.run hr hk tk h2 pins σ H2 s2 (.ref a :: us) [] F2 (.ref a :: vs) [] Q I2 om2 (Reps.cons (r1.mono e2) r2) Reps.nil (.cons rfl rvs) .nil (kq.mono (e1.trans e2))
/-- o.m() -/
theorem de_meth0 {o : Expr} {apos : Pos} {pl : Sem Bool} (c : Met X.prog X.w X.K X.mg X.base C m k f fd ps S) (cl : Cls X.K C) (hr : Room k' X.A) (hk : k ≤ k') (tk : XOk X F0 xq)
    (h : DE X F0 o ρ M fun d M1 => ∃ ns fs, Ins M1 C ns fs d ∧ m ∉ ns ∧ S [d] M1 q xq)
    (ht : eval (.Call (.Attribute o m apos) [] [] pos) X.env = (do
      let ov ← eval o X.env
      standAt apos.atName
      let (f, first) ← holding [ov] (getMethod ov m pl)
      callWith pos f first (backTo pos (starEach [] X.env)) (backToKw pos (keywordEach [] X.env))) := by rfl) : DE X F0 (.Call (.Attribute o m apos) [] [] pos) ρ M q := by
  refine ⟨fun pins s σ H Q I ⟨F, om, ol, kq⟩ => ?_⟩
  refine PySem.W.methodCall_KW (pl := pl) (thn ((uE (X := X) (F0 := F0) (e := o)).run pins s σ H (fun v H1 => ∃ F1 d M1, Ex F F1 ∧ OkM X.K F0 F1 M1 H1 ∧ Rep X.K F1 d v ∧ ∃ ns fs, Ins M1 C ns fs d ∧ m ∉ ns ∧ S [d] M1 q xq) I
    (tU.go h om ol fun F1 H1 v d M1 e1 om1 r1 h1 => ⟨F1, d, M1, e1, om1, r1, h1⟩)) fun u s1 ⟨v, H1, I1, rv, F1, d, M1, e1, om1, r1, ns, fs, hi, hn, h1⟩ => ?_) ht
  obtain ⟨a, dx, xs, rfl, ha, hlen, hx⟩ := hi.at om1 r1
  obtain rfl : u = Value.ref a := rv
  refine getmeth_ok I1 ha cl c.meth (look_none hn) ?_
  refine PySem.W.callWith_K0 (first := [.ref a]) I1.kIn c.kp ?_
  exact c.run hr hk tk h1 pins σ H1 s1 [.ref a] [] F1 [.ref a] [] Q I1 om1 (Reps.cons r1 Reps.nil) Reps.nil (.cons rfl .nil) .nil (kq.mono e1)
end
/-! ### a field stored -/
theorem putN_cons {f : Str} {d : Dat} {n : Str} {ns : List Str} {e : Dat} {ds : List Dat} : putN f d (n :: ns) (e :: ds) = if n = f then (n :: ns, d :: ds) else ((putN f d ns ds).1.cons n, (putN f d ns ds).2.cons e) := rfl
theorem put_rep {K : PySem.W.Frag} {F : Hp} {f : Str} {d : Dat} {v : V} (r : Rep K F d v) : ∀ {ns : List Str} {ds : List Dat} {xs : List V}, ns.length = xs.length → Reps K F ds xs →
    ∃ ys, L2.putF f v (ns.zip xs) = (putN f d ns ds).1.zip ys ∧ (putN f d ns ds).1.length = ys.length ∧ Reps K F (putN f d ns ds).2 ys
  | [], [], xs, hl, h => ⟨[v], rfl, rfl, Reps.cons r Reps.nil⟩
  | [], e :: ds, [], hl, h => by
    obtain ⟨y, t, e1, r1, r2⟩ := h
    cases e1
  | [], e :: ds, x :: xs, hl, h => by cases hl
  | n :: ns, [], [], hl, h => by cases hl
  | n :: ns, [], x :: xs, hl, h => by cases h
  | n :: ns, e :: ds, [], hl, h => by cases hl
  | n :: ns, e :: ds, x :: xs, hl, h => by
    obtain ⟨y, t, e1, r1, r2⟩ := h
    cases e1
    rw [putN_cons]
    by_cases hn : n = f
    · rw [if_pos hn]
      refine ⟨v :: xs, ?_, hl, Reps.cons r r2⟩
      rw [List.zip_cons_cons, List.zip_cons_cons, L2.putF, if_pos hn]
    · rw [if_neg hn]
      obtain ⟨ys, h1, h2, h3⟩ := put_rep r (Nat.succ.inj hl) r2
      refine ⟨x :: ys, ?_, congrArg Nat.succ h2, Reps.cons r1 h3⟩
      rw [List.zip_cons_cons, L2.putF, if_neg hn, h1]
      rfl
section
variable {X : Cx} {F0 : Hp} {ρ : DEnv} {M : Mem} {q : DK} {k k' : Nat} {f C : Addr} {fd : FuncData} {ps ks : List Str} {S : DSpec} {e o : Expr} {es : List Expr} {pos p' : Pos} {xq : XQ} {m x : Str} {D : DEnds} {n : Nat} {dd : List Dat} {perm : List Nat} {kws : List Keyword} {p : Pos}
theorem ds_fld {n : Str} (h : DE X F0 e ρ M fun y M1 => DE X F0 o ρ M1 fun d M2 => ∃ p C ns ds, d = .ptr p ∧ M2 p = some (.obj C ns ds) ∧ Cls X.K C ∧ NoAttr X.K C n ∧ ns.length < 900 ∧ D.nx ρ (updM M2 p (.obj C (putN n y ns ds).1 (putN n y ns ds).2)))
    (hs : swapsWith e (some (.Attribute o n p')) pos.line X.env = pure false := by rfl) : DS X F0 (.Assign [.Attribute o n p'] e pos) ρ M D :=
  PS.wk (ps_fld (uE (F0 := F0)) (uE (F0 := F0)) hs) fun E σ H ⟨F, om, ol, k⟩ => tU.go h om ol fun F1 H1 vy y M1 e1 om1 r1 h1 => tU.go h1 om1 (ol.mono e1) fun F2 H2 v d M2 e2 om2 r2 ⟨p, C, ns, ds, hd, hM, hc, hn, hl, hq⟩ => by
    subst hd
    obtain rfl : v = .ref p := r2
    obtain ⟨hF, u, hu, ru⟩ := om2.mem p _ hM
    obtain ⟨dx, xs, rfl, h2, h3⟩ := ru
    have rd : Rep X.K F2 y vy := r1.mono e2
    obtain ⟨ys, g1, g2, g3⟩ := put_rep (f := n) rd h2 h3
    refine ⟨p, C, dx, _, rfl, hu, hc, hn, ?_, ?_⟩
    · rw [List.length_zip]
      omega
    · rw [g1]
      exact k.nx F2 _ σ ρ _ (e1.trans e2) (om2.put (w' := .obj C (putN n y ns ds).1 (putN n y ns ds).2) hM ⟨dx, ys, rfl, g2, g3⟩) (ol.mono (e1.trans e2)) hq

/-! ### an instance made -/
theorem OkM.extra {K : PySem.W.Frag} {F0 F H : Hp} {M : Mem} (o : OkM K F0 F M H) {p : Addr} {u : HO} (h : H p = none) : OkM K F0 F M (upd H p u) := by
  refine ⟨o.base, o.sub.mut (o.freeF h), fun a w hw => ?_⟩
  obtain ⟨h1, v, h2, h3⟩ := o.mem a w hw
  exact ⟨h1, v, by rw [upd_ne (ne_of_none h2 h)]; exact h2, h3⟩
/-- the value of a call of the class C: an instance that __init__ (f) has filled, and that will not change -/
theorem drun_mk {ds zs : List Dat} (mk : Mk X.K C f) (F : FnOk X.prog X.w X.K X.mg X.base (L2.CX X.prog X.w) k f fd ps (LSp X.K S)) (hr : Room k' X.A) (hk : k + 1 ≤ k') (tk : XOk X F0 xq) (b : Bnd X.K fd ps (n + 1) ks dd perm) (h1 : ds.length = n) (h2 : zs.length = ks.length)
    (h : ∀ a, M a = none → S (pick Dat.non ((.ptr a :: ds) ++ zs ++ dd) perm) (updM M a (.obj C [] [])) (fun v M2 => v = .non ∧ ∃ ns fs, M2 a = some (.obj C ns fs) ∧ q (.obj C ns fs) (delM M2 a)) xq) : DRun X F0 (.ref C) ks ds zs M q := by
  intro pins σ H s us ws Fz vs zvs Q I om rd rz vd vz kq
  obtain ⟨dv, du, hv, hD, hb⟩ := b.to
  have kb : KBn X.K fd ps (n + 1) ks (fun us ws => pick Value.none (us ++ ws ++ du) perm) (fun vs zs => pick V.non (vs ++ zs ++ dv) perm) :=
    ⟨fun s us ws inK l1 l2 => hb s us ws inK l1 l2, fun r1 r2 => pick_vals ((r1.append r2).append hv) perm⟩
  refine run_makeK mk F (hr.mono hk) kb (E := wX X.K F0 xq) (fun pins σ H s e s' I z => passes_call tk (fun _ _ _ _ z => z) pins σ H s e s' I z) I vd vz (by rw [← rd.length, h1]) (by rw [← rz.length, h2]) fun a dx ha hdx hne => ?_
  have om1 : OkM X.K F0 Fz M (upd H dx (.own a)) := om.extra hdx
  have ha1 : (upd H dx (.own a)) a = none := by rw [upd_ne (Ne.symm hne)]; exact ha
  have om2 : OkM X.K F0 Fz (updM M a (.obj C [] [])) (upd (upd H dx (.own a)) a (.ins C dx [])) := om1.cell ha1 ⟨dx, [], rfl, rfl, Reps.nil⟩
  have hMa : M a = none := om.freeM ha
  have rep := pick_reps (reps_pos (Reps.cons (rep_ptr (K := X.K) (F := Fz) (a := a)) rd) rz (hD Fz)) perm
  refine ⟨Fz, _, _, _, xq, om2.entry, rep, h a hMa, ?_, kX.entry om2⟩
  intro F' H' v d M' e' o' r ⟨hd, ns, fs, hM', hq⟩
  subst hd
  refine ⟨r, ?_⟩
  obtain ⟨hF, u, hu, ru⟩ := o'.mem a _ hM'
  obtain ⟨dx', xs, rfl, g2, g3⟩ := ru
  have o'' : OkM X.K F0 F' M' H' := ⟨om.base.trans e', o'.sub, o'.mem⟩
  refine kq (upd F' a (.ins C dx' (ns.zip xs))) H' (.ref a) (.obj C ns fs) (delM M' a) (e'.trans (Ex.new hF)) (o''.freeze hM' hu) ⟨a, dx', xs, rfl, upd_same, g2, g3.mono (Ex.new hF)⟩ hq
end
end DL
/-! DL15: operators that an own class defines -/
namespace DL
open PySem PySem.Spec PyProof.Rows L2
section
variable {X : Cx} {F0 : Hp} {ρ : DEnv} {M : Mem} {q : DK} {k k' : Nat} {f C : Addr} {fd : FuncData} {ps : List Str} {S : DSpec} {e : Expr} {es : List Expr} {pos : Pos} {xq : XQ} {m : Str}
theorem dop_raw {g : Value → Value → Sem Value} {x y : Dat} (h : ∀ (F H : Hp) (vx vy : V) (Q : VK), OkM X.K F0 F M H → Rep X.K F x vx → Rep X.K F y vy → kV X.K F0 F q Q → ∀ (pins : List (Addr × Obj)) (σ : L2.St) (s : Shared) (v u : Value), Inv X pins σ H s → RelV vx v → RelV vy u →
    wpAny (model X.prog X.w) X.A (g v u) (EP X pins σ Q) X.xe s) : DOp X F0 g x y M q :=
  ⟨fun x y H Q => ∀ (pins : List (Addr × Obj)) (σ : L2.St) (s : Shared) (v u : Value), Inv X pins σ H s → RelV x v → RelV y u → wpAny (model X.prog X.w) X.A (g v u) (EP X pins σ Q) X.xe s,
    fun pins s σ H x y v u Q I rx ry h => h pins σ s v u I rx ry, h⟩
theorem dun_raw {g : Value → Sem Value} {x : Dat} (h : ∀ (F H : Hp) (vx : V) (Q : VK), OkM X.K F0 F M H → Rep X.K F x vx → kV X.K F0 F q Q → ∀ (pins : List (Addr × Obj)) (σ : L2.St) (s : Shared) (v : Value), Inv X pins σ H s → RelV vx v →
    wpAny (model X.prog X.w) X.A (g v) (EP X pins σ Q) X.xe s) : DUn X F0 g x M q :=
  ⟨fun x H Q => ∀ (pins : List (Addr × Obj)) (σ : L2.St) (s : Shared) (v : Value), Inv X pins σ H s → RelV x v → wpAny (model X.prog X.w) X.A (g v) (EP X pins σ Q) X.xe s,
    fun pins s σ H x v Q I rx h => h pins σ s v I rx, h⟩
theorem dcl_raw {g : Value} {ds : List Dat} (h : ∀ (F H : Hp) (vs : List V) (Q : VK), OkM X.K F0 F M H → Reps X.K F ds vs → kV X.K F0 F q Q → ∀ (pins : List (Addr × Obj)) (σ : L2.St) (s : Shared) (us : List Value), Inv X pins σ H s → Vals vs us →
    wpAny (model X.prog X.w) X.A (call g us) (EP X pins σ Q) X.xe s) : DCl X F0 g ds M q :=
  ⟨fun vs H Q => ∀ (pins : List (Addr × Obj)) (σ : L2.St) (s : Shared) (us : List Value), Inv X pins σ H s → Vals vs us → wpAny (model X.prog X.w) X.A (call g us) (EP X pins σ Q) X.xe s,
    fun pins s σ H vs us Q I rv h => h pins σ s us I rv, h⟩
/-- what type(d) is -/
def TyV (M : Mem) (d : Dat) (t : Value) : Prop := (∃ n, tyName d = some n ∧ t = .type n) ∨ ∃ C ns ds, Ins M C ns ds d ∧ t = .ref C
theorem TyV.look {F H : Hp} {d : Dat} {t u : Value} {v : V} {pins : List (Addr × Obj)} {σ : L2.St} {s : Shared} (h : TyV M d t) (om : OkM X.K F0 F M H) (r : Rep X.K F d v) (I : Inv X pins σ H s) (rv : RelV v u) : PySem.W.Looks (model X.prog X.w) s.heap (typeOf u) t := by
  rcases h with ⟨n, h1, rfl⟩ | ⟨C, ns, ds, h1, rfl⟩
  · obtain ⟨P, kx, hP, _⟩ := kit_of I rv (tyX_of h1 om r)
    exact kx.ty _ _ I.kIn hP
  · obtain ⟨a, dx, xs, rfl, ha, _, _⟩ := h1.at om r
    obtain rfl : u = .ref a := rv
    obtain ⟨od, J⟩ := inst_at I ha
    exact J.type
/-- x op y by the class's own comparison -/
theorem dop_cmpO {op : CmpOp} {x y : Dat} {ns : List Str} {fs : List Dat} {t : Value} (he : ∀ a b, compareOp op a b = richCompare op a b) (c : Met X.prog X.w X.K X.mg X.base C (cmpInfo op).2.1 k f fd ps S) (hr : Room k' X.A) (hk : k ≤ k') (tk : XOk X F0 xq)
    (hi : Ins M C ns fs x) (ht : TyV M y t) (hn : PySem.W.notFirst X.K C t = true) (h : S [x, y] M q xq) : DOp X F0 (compareOp op) x y M q :=
  dop_raw fun F H vx vy Q om rx ry kq pins σ s v u I rv ru => by
    obtain ⟨a, dx, xs, rfl, ha, _, _⟩ := hi.at om rx
    obtain rfl : v = .ref a := rv
    obtain ⟨od, J⟩ := inst_at I ha
    obtain ⟨mm, Fr⟩ := I.fr
    rw [he]
    refine PySem.W.cmp_K hr.units0 Fr I.ok.mod.kin J (ht.look om ry I ru) hn c.at_ c.fn ?_
    exact wpAny_mono (c.run hr hk tk h pins σ H s [.ref a, u] [] F [.ref a, vy] [] Q I om (Reps.cons rx (Reps.cons ry Reps.nil)) Reps.nil (.cons rfl (.cons ru .nil)) .nil kq) (fun v s' z => ep_cmp z) fun _ _ z => z
/-- x op y by the class's own method, y of the same class -/
theorem dop_binO {op : Operator} {x y : Dat} {ns ns' : List Str} {fs fs' : List Dat} (c : Met X.prog X.w X.K X.mg X.base C (PySem.dunder op.info.2) k f fd ps S) (hc : PySem.W.selfFirst X.K C = true) (hr : Room k' X.A) (hk : k ≤ k') (tk : XOk X F0 xq)
    (hi : Ins M C ns fs x) (hj : Ins M C ns' fs' y) (h : S [x, y] M q xq) : DOp X F0 (binaryOp op) x y M q :=
  dop_raw fun F H vx vy Q om rx ry kq pins σ s v u I rv ru => by
    obtain ⟨a, dx, xs, rfl, ha, _, _⟩ := hi.at om rx
    obtain rfl : v = .ref a := rv
    obtain ⟨od, J⟩ := inst_at I ha
    obtain ⟨mm, Fr⟩ := I.fr
    refine PySem.W.binop_K Fr I.ok.mod.kin J (TyV.look (.inr ⟨C, _, _, hj, rfl⟩) om ry I ru) hc c.at_ c.fn ?_
    exact wpAny_mono (c.run hr hk tk h pins σ H s [.ref a, u] [] F [.ref a, vy] [] Q I om (Reps.cons rx (Reps.cons ry Reps.nil)) Reps.nil (.cons rfl (.cons ru .nil)) .nil kq) (fun v s' z => ep_cmp z) fun _ _ z => z
theorem pure_ty {d : Dat} {n : String} {F H : Hp} {v : V} {u : Value} {K : PySem.W.Frag} (h : d = .int i ∧ n = "int" ∨ d = .bl b ∧ n = "bool" ∨ d = .str z ∧ n = "str" ∨ d = .non ∧ n = "NoneType") (r : Rep K F d v) (rv : RelV v u) : typeOf u = pure (.type n) := by
  rcases h with ⟨rfl, rfl⟩ | ⟨rfl, rfl⟩ | ⟨rfl, rfl⟩ | ⟨rfl, rfl⟩
  · obtain rfl : v = .int i := r
    obtain ⟨t, rfl⟩ := rv
    rfl
  · obtain rfl : v = .bl b := r
    obtain rfl : u = .bool b := rv
    rfl
  · obtain rfl : v = .str z := r
    obtain ⟨t, rfl⟩ := rv
    rfl
  · obtain rfl : v = .non := r
    obtain rfl : u = .none := rv
    rfl
/-- x op i, i a number -/
theorem dop_binI {op : Operator} {x : Dat} {i : Int} {ns : List Str} {fs : List Dat} {fo ro rc : Option Value} (c : Met X.prog X.w X.K X.mg X.base C (PySem.dunder op.info.2) k f fd ps S) (hc : PySem.W.selfFirst X.K C = true)
    (h3 : PySem.W.findIn X.K (.ref C) (dunderR op.info.2) = some rc) (hp : rc = none ∨ ∃ g : Addr, rc = some (.ref g)) (h1 : PySem.W.findIn X.K (.type "int") (PySem.dunder op.info.2) = some fo) (h2 : PySem.W.findIn X.K (.type "int") (dunderR op.info.2) = some ro) (hsub : PySem.W.subIn X.K (.type "int") (.ref C) = some false)
    (hr : Room k' X.A) (hk : k ≤ k') (tk : XOk X F0 xq) (hi : Ins M C ns fs x) (h : S [x, .int i] M q xq) : DOp X F0 (binaryOp op) x (.int i) M q :=
  dop_raw fun F H vx vy Q om rx ry kq pins σ s v u I rv ru => by
    obtain ⟨a, dx, xs, rfl, ha, _, _⟩ := hi.at om rx
    obtain rfl : v = .ref a := rv
    obtain ⟨od, J⟩ := inst_at I ha
    obtain ⟨mm, Fr⟩ := I.fr
    have hty : typeOf u = pure (.type "int") := pure_ty (b := true) (z := ⟨#[]⟩) (H := H) (.inl ⟨rfl, rfl⟩) ry ru
    refine PySem.W.ksp_binT Fr I.ok.mod.kin J hty hc c.at_ c.fn h3 hp h1 h2 hsub ?_
    exact wpAny_mono (c.run hr hk tk h pins σ H s [.ref a, u] [] F [.ref a, vy] [] Q I om (Reps.cons rx (Reps.cons ry Reps.nil)) Reps.nil (.cons rfl (.cons ru .nil)) .nil kq) (fun v s' z => ep_cmp z) fun _ _ z => z
/-- - x -/
theorem dun_negO {x : Dat} {ns : List Str} {fs : List Dat} (c : Met X.prog X.w X.K X.mg X.base C "__neg__" k f fd ps S) (hr : Room k' X.A) (hk : k ≤ k') (tk : XOk X F0 xq) (hi : Ins M C ns fs x) (h : S [x] M q xq) : DUn X F0 (unaryOp .USub) x M q :=
  dun_raw fun F H vx Q om rx kq pins σ s v I rv => by
    obtain ⟨a, dx, xs, rfl, ha, _, _⟩ := hi.at om rx
    obtain rfl : v = .ref a := rv
    obtain ⟨od, J⟩ := inst_at I ha
    obtain ⟨mm, Fr⟩ := I.fr
    exact PySem.W.ksp_neg Fr I.ok.mod.kin J c.at_ c.fn (c.run hr hk tk h pins σ H s [.ref a] [] F [.ref a] [] Q I om (Reps.cons rx Reps.nil) Reps.nil (.cons rfl .nil) .nil kq)
/-- y in x -/
theorem dop_inO {x y : Dat} {ns : List Str} {fs : List Dat} (c : Met X.prog X.w X.K X.mg X.base C "__contains__" k f fd ps S) (hr : Room k' X.A) (hk : k ≤ k') (tk : XOk X F0 xq) (hi : Ins M C ns fs x) (h : S [x, y] M (fun d M' => ∃ b, d = .bl b ∧ q (.bl b) M') xq) : DOp X F0 (compareOp .In) y x M q :=
  dop_raw fun F H vy vx Q om ry rx kq pins σ s u v I ru rv => by
    obtain ⟨a, dx, xs, rfl, ha, _, _⟩ := hi.at om rx
    obtain rfl : v = .ref a := rv
    obtain ⟨od, J⟩ := inst_at I ha
    obtain ⟨mm, Fr⟩ := I.fr
    refine PySem.W.in_K Fr I.ok.mod.kin J c.at_ c.fn ?_
    refine wpAny_mono (c.run hr hk tk h pins σ H s [.ref a, u] [] F [.ref a, vy] [] (fun w H' => ∃ b, w = .bl b ∧ Q (.bl b) H') I om (Reps.cons rx (Reps.cons ry Reps.nil)) Reps.nil (.cons rfl (.cons ru .nil)) .nil ?_) (fun r s' z => ?_) fun _ _ z => z
    · rintro F' H' w d M' e' o' r ⟨b, rfl, hq⟩
      obtain rfl : w = .bl b := r
      exact ⟨b, rfl, kq F' H' _ _ M' e' o' rep_bl hq⟩
    · obtain ⟨w, H', I', rw', b, rfl, hq⟩ := z
      obtain rfl : r = .bool b := rw'
      exact wpAny_truthy_bool ⟨.bl b, H', I', rfl, hq⟩
theorem dop_niO {x y : Dat} {ns : List Str} {fs : List Dat} (c : Met X.prog X.w X.K X.mg X.base C "__contains__" k f fd ps S) (hr : Room k' X.A) (hk : k ≤ k') (tk : XOk X F0 xq) (hi : Ins M C ns fs x) (h : S [x, y] M (fun d M' => ∃ b, d = .bl b ∧ q (.bl (!b)) M') xq) : DOp X F0 (compareOp .NotIn) y x M q :=
  dop_raw fun F H vy vx Q om ry rx kq pins σ s u v I ru rv => by
    obtain ⟨a, dx, xs, rfl, ha, _, _⟩ := hi.at om rx
    obtain rfl : v = .ref a := rv
    obtain ⟨od, J⟩ := inst_at I ha
    obtain ⟨mm, Fr⟩ := I.fr
    refine PySem.W.notIn_K Fr I.ok.mod.kin J c.at_ c.fn ?_
    refine wpAny_mono (c.run hr hk tk h pins σ H s [.ref a, u] [] F [.ref a, vy] [] (fun w H' => ∃ b, w = .bl b ∧ Q (.bl (!b)) H') I om (Reps.cons rx (Reps.cons ry Reps.nil)) Reps.nil (.cons rfl (.cons ru .nil)) .nil ?_) (fun r s' z => ?_) fun _ _ z => z
    · rintro F' H' w d M' e' o' r ⟨b, rfl, hq⟩
      obtain rfl : w = .bl b := r
      exact ⟨b, rfl, kq F' H' _ _ M' e' o' rep_bl hq⟩
    · obtain ⟨w, H', I', rw', b, rfl, hq⟩ := z
      obtain rfl : r = .bool b := rw'
      exact wpAny_truthy_bool ⟨.bl (!b), H', I', rfl, hq⟩
end
end DL
/-! DL16: defaults, methods by keywords, classes as values -/
namespace DL
open PySem PySem.Spec PyProof.Rows L2
/-- where a def with defaults stands -/
structure FunDf (K : PySem.W.Frag) (x qual : Str) (st : Stmt) (f : Addr) (fd : FuncData) (dvs : List V) : Prop where
  ex : ∃ (oc : Value) (od : Option Addr) (T : Addr) (o : Obj) (its : List Value) (n : Nat) (kV doc pm : Value) (an : Option Addr) (cdv ct : Value) (osl : Array (Option Value)),
    fd = PySem.W.fnOf x qual (defArgs st) (defBody st) (defScope st) (.ref T) kV doc pm an cdv ct ∧ K.lookup f = some ⟨oc, od, .func fd, osl⟩ ∧ PySem.W.codeIn K cdv qual = true ∧ K.lookup T = some o ∧ o.data = .seq its.toArray n ∧ Vals dvs its
  kp : PySem.W.keepIn K (.ref f) = true
theorem FunDf.toD {K : PySem.W.Frag} {x qual : Str} {st : Stmt} {f : Addr} {fd : FuncData} {dvs : List V} (F : FunDf K x qual st f fd dvs) : FunD K x qual st f fd := by
  obtain ⟨⟨oc, od, T, o, its, n, kV, doc, pm, an, cdv, ct, osl, h1, h2, h3, _⟩, h4⟩ := F
  exact ⟨⟨oc, od, .ref T, kV, doc, pm, an, cdv, ct, osl, h1, h2, h3⟩, h4⟩
theorem FunDf.bnd {K : PySem.W.Frag} {x qual : Str} {st : Stmt} {f : Addr} {fd : FuncData} {dvs : List V} {dd : List Dat} {ps ks : List Str} {perm : List Nat} {n : Nat} (F : FunDf K x qual st f fd dvs) (hd : ∀ F, Reps K F dd dvs)
    (h : ∀ (T : Addr) (kV doc pm : Value) (an : Option Addr) (cdv ct : Value) (us ws its : List Value), us.length = n → ws.length = ks.length → its.length = dvs.length →
      ∃ k, bindArgs (PySem.W.fnOf x qual (defArgs st) (defBody st) (defScope st) (.ref T) kV doc pm an cdv ct) ⟨us, ks.zip ws⟩ = seqItems? (.ref T) >>= k ∧ k (some its.toArray) = pure (ps.zip (pick Value.none (us ++ ws ++ its) perm))) : Bnd K fd ps n ks dd perm := by
  obtain ⟨⟨oc, od, T, o, its, m, kV, doc, pm, an, cdv, ct, osl, rfl, h2, h3, lT, oT, rT⟩, h4⟩ := F
  refine ⟨dvs, its, rT, hd, fun s us ws X l1 l2 => ?_⟩
  obtain ⟨k, e1, e2⟩ := h T kV doc pm an cdv ct us ws its l1 l2 rT.length.symm
  refine BindsTo.of_looks fun M => ?_
  rw [e1]
  exact looks_items X lT oT (.of_pure e2)
/-- a call that lacks the defaults dd: they are added -/
theorem Bnd.full {K : PySem.W.Frag} {fd : FuncData} {ps ks : List Str} {n : Nat} {dd : List Dat} {perm : List Nat} (b : Bnd K fd ps n ks dd perm) : Bnd K fd ps n ks dd perm := b
theorem glob_cls {K : PySem.W.Frag} {h : Heap} {mg : Str → Option Value} {x : Str} {C : Addr} (X : K.In h) (G : h.Ns mainGlobals mg) (g : PySem.W.nsIn K mainGlobals x = some (some (.ref C))) : GlobD K mg x (.ptr C) :=
  ⟨.ref C, .ref C, PySem.W.mg_of X G g, rfl, fun _ => rfl⟩
section
variable {X : Cx} {F0 : Hp} {ρ : DEnv} {M : Mem} {q : DK} {k k' n : Nat} {f C : Addr} {fd : FuncData} {ps ks : List Str} {S : DSpec} {e : Expr} {es : List Expr} {kws : List Keyword} {pos p : Pos} {xq : XQ} {m x : Str} {dd : List Dat} {perm : List Nat}
/-- C(e, ..) -/
theorem de_mk (mk : Mk X.K C f) (F : FnOk X.prog X.w X.K X.mg X.base (L2.CX X.prog X.w) k f fd ps (LSp X.K S)) (b : Bnd X.K fd ps (n + 1) [] dd perm) (hg : Gl X x) (hm : X.mg x = some (.ref C)) (hr : Room k' X.A) (hk : k + 1 ≤ k') (tk : XOk X F0 xq)
    (h : DA X F0 (e :: es) ρ M fun ds M1 => ds.length = n ∧ ∀ a, M1 a = none → S (pick Dat.non ((.ptr a :: ds) ++ [] ++ dd) perm) (updM M1 a (.obj C [] [])) (fun v M2 => v = .non ∧ ∃ ns fs, M2 a = some (.obj C ns fs) ∧ q (.obj C ns fs) (delM M2 a)) xq)
    (hdb : (x == ("__debug__" : Str)) = false := by decide) (he : starEach (e :: es) X.env = (false, eval e X.env) :: starEach es X.env := by rfl) (hpl : (backTo pos (starEach es X.env)).any (·.1) = false := by rfl) :
    DE X F0 (.Call (.Name x p) (e :: es) [] pos) ρ M q :=
  de_call hg hm mk.kp (da_imp h fun ds M' ⟨h1, h2⟩ => drun_mk mk F hr hk tk b h1 rfl h2) hdb he hpl
/-- o.m(.., x = ..) with keywords alone -/
theorem de_methK0 {o : Expr} {apos : Pos} {pl : Sem Bool} (c : Met X.prog X.w X.K X.mg X.base C m k f fd ps S) (b : Bnd X.K fd ps 1 ks [] perm) (cl : Cls X.K C) (hr : Room k' X.A) (hk : k ≤ k') (tk : XOk X F0 xq) (hks : (backToKw pos (keywordEach kws X.env)).filterMap (·.1) = ks)
    (h : DE X F0 o ρ M fun d M1 => ∃ ns fs, Ins M1 C ns fs d ∧ m ∉ ns ∧ DKw X F0 kws ρ M1 fun zs M2 => zs.length = ks.length ∧ S (pick Dat.non (d :: zs) perm) M2 q xq)
    (hall : (backToKw pos (keywordEach kws X.env)).all (·.1.isSome) = true := by rfl)
    (hpl : ((backTo pos (starEach [] X.env)).any (·.1) || (backToKw pos (keywordEach kws X.env)).any (·.1.isNone)) = false := by rfl)
    (ht : eval (.Call (.Attribute o m apos) [] kws pos) X.env = (do
      let ov ← eval o X.env
      standAt apos.atName
      let (f, first) ← holding [ov] (getMethod ov m pl)
      callWith pos f first (backTo pos (starEach [] X.env)) (backToKw pos (keywordEach kws X.env))) := by rfl) : DE X F0 (.Call (.Attribute o m apos) [] kws pos) ρ M q := by
  refine ⟨fun pins s σ H Q I ⟨F, om, ol, kq⟩ => ?_⟩
  refine PySem.W.methodCall_KW (pl := pl) (thn ((uE (X := X) (F0 := F0) (e := o)).run pins s σ H (fun v H1 => ∃ F1 d M1, Ex F F1 ∧ OkM X.K F0 F1 M1 H1 ∧ Rep X.K F1 d v ∧ ∃ ns fs, Ins M1 C ns fs d ∧ m ∉ ns ∧ DKw X F0 kws ρ M1 fun zs M2 => zs.length = ks.length ∧ S (pick Dat.non (d :: zs) perm) M2 q xq) I
    (tU.go h om ol fun F1 H1 v d M1 e1 om1 r1 h1 => ⟨F1, d, M1, e1, om1, r1, h1⟩)) fun u s1 ⟨v, H1, I1, rv, F1, d, M1, e1, om1, r1, ns, fs, hi, hn, h1⟩ => ?_) ht
  obtain ⟨a, dx, xs, rfl, ha, hlen, hx⟩ := hi.at om1 r1
  obtain rfl : u = Value.ref a := rv
  refine getmeth_ok I1 ha cl c.meth (look_none hn) ?_
  refine PySem.W.callWith_KW0 (first := [.ref a]) (h₀ := X.base) I.ok.mod.kin c.kp hall (thn ((uK (X := X) (F0 := F0) (kws := kws)).run pos pins s1 σ H1 (fun zv H2 => ∃ F2 zs M2, Ex F1 F2 ∧ OkM X.K F0 F2 M2 H2 ∧ Reps X.K F2 zs zv ∧ zs.length = ks.length ∧ S (pick Dat.non (d :: zs) perm) M2 q xq) I1
    (tUK.go h1 om1 (ol.mono e1) fun F2 H2 zv zs M2 e2 om2 r2 h2 => ⟨F2, zs, M2, e2, om2, r2, h2⟩)) fun ws s2 ⟨zv, H2, I2, rz, F2, zs, M2, e2, om2, r2, hl, h2⟩ => ⟨I2.kIn, ?_⟩) hpl
  rw [hks]
  refine drun_f (ds := [d]) (zs := zs) (dd := []) c.ok (hr.mono hk) tk b rfl hl ?_ pins σ H2 s2 [.ref a] ws F2 [.ref a] zv Q I2 om2 (Reps.cons (r1.mono e2) Reps.nil) r2 (.cons rfl .nil) rz (kq.mono (e1.trans e2))
  rw [List.append_nil]
  exact h2
end
end DL
/-! DL17: != where the class has == alone; len, repr, abs, bool of own instances -/
namespace PySem.W
open PySem PySem.Calls PyProof.Rows
section
variable {prog : Program} {w : World} {M : Model} {A : Around} {E : Value → Shared → Prop} {s : Shared} {K : Frag} {x C L f : Addr} {h₀ : Heap} {m : Str → Option Value} {ox : Obj} {od : Option Obj} {b tb : Value}
theorem dl_slot {name : Str} {id : String} {args : List Value} {Q : Option Value → Shared → Prop} (X : K.In s.heap) (I : InstAt s.heap x ox C od) (hs : findIn K (.ref C) name = some (some (.builtin id))) (S : PySem.Slot "object" name id)
    (h : wpAny M A (call (.builtin id) (.ref x :: args)) (fun v => Q (some v)) E s) : wpAny M A (callSpecialIfBound? (.ref x) name args) Q E s := by
  simp only [callSpecialIfBound?, bindSpecialIfBound?]
  refine wpAny_holding (wpAny_bind (wpAny_bind (wpAny_bind (I.type.here ((looks_findIn X hs).here ?_)))))
  refine wpAny_bind (wpAny_askSetting (wpAny_ite ?_))
  have fin : wpAny M A (call (.builtin id) ([.ref x] ++ args) >>= fun v => pure (some v)) Q E s := wpAny_bind (wpAny_mono h (fun v s' h' => wpAny_pure h') fun _ _ h' => h')
  simp only [S.bind]
  split
  · exact wpAny_bind (wpAny_pure (wpAny_pure (by exact fin)))
  · exact wpAny_tryCatch (wpAny_bind (wpAny_pure (wpAny_pure (by exact fin))))
theorem dl_necall {Q : Value → Shared → Prop} (hu : A.in1.units < cLine) (X : K.In s.heap) (I : InstAt s.heap x ox C od) (top : mroIn K C (.type "object") = some true) (hs : findIn K (.ref C) "__eq__" = some (some (.ref f))) (hf : isFn K (.ref f) = true)
    (h : wpAny (model prog w) A.in1 (call (.ref f) [.ref x, b]) (fun r s' => ∃ c, r = .bool c ∧ Q (.bool (!c)) s') E s) : wpAny (model prog w) A (call (.builtin "object.__ne__") [.ref x, b]) Q E s := by
  have t2 : Looks (model prog w) s.heap (isInstance (.ref x) (.type "object")) true := I.type.andThen (looks_mroIn X top)
  refine wpAny_call (codeAny_call_builtin F.cmp_object.ne.plain F.cmpEntry_ne (@check_slot (model prog w) _ _ _ "object.__ne__" "object" "__ne__" (.ref x) [b] [] _ F.cmpKind_ne F.cmpSplit_ne t2 (F.cmpArgs_ne _ _) ?_))
  unfold Builtin.«object.__ne__»
  refine wpAny_bind (m := slotArgs "__ne__" 1 _) (wpAny_pure ?_)
  refine wpAny_bind (wpAny_cRoomFor hu ?_)
  refine wpAny_bind (m := callSpecialIfBound? (.ref x) (Str.ofString "__eq__") [b]) (ifBound_K X I hs hf (wpAny_mono h (fun r s' z => ?_) fun _ _ z => z))
  obtain ⟨c, rfl, hq⟩ := z
  exact wpAny_bind (wpAny_truthy_bool (wpAny_pure hq))
theorem dl_ne {Q : Value → Shared → Prop} (hu : A.units < cLine) (hu1 : A.in1.units < cLine) (F : Fr h₀ L s.heap m) (X₀ : K.In h₀) (I : InstAt s.heap x ox C od) (hb : Looks (model prog w) s.heap (typeOf b) tb) (hn : notFirst K C tb = true)
    (hne : findIn K (.ref C) "__ne__" = some (some (.builtin "object.__ne__"))) (top : mroIn K C (.type "object") = some true) (hs : findIn K (.ref C) "__eq__" = some (some (.ref f))) (hf : isFn K (.ref f) = true)
    (h : wpAny (model prog w) A.in1 (call (.ref f) [.ref x, b]) (fun r s' => ∃ c, r = .bool c ∧ Q (.bool (!c)) s') E s) : wpAny (model prog w) A (richCompare .NotEq (.ref x) b) Q E s := by
  have X := X₀.keeps F.keep
  have one : wpAny (model prog w) A (tryCompare (.ref x) "__ne__" b) (fun r s' => ∃ v, r = some v ∧ Q v s') E s := by
    unfold tryCompare
    have nec : wpAny (model prog w) A (call (.builtin "object.__ne__") [.ref x, b]) (fun v s' => (∃ c, v = .bool c) ∧ Q v s') E s :=
      dl_necall hu1 X I top hs hf (wpAny_mono h (fun r s' ⟨c, hr, hq⟩ => ⟨c, hr, ⟨_, rfl⟩, hq⟩) fun _ _ z => z)
    refine wpAny_bind (dl_slot X I hne PySem.F.cmp_object.ne (wpAny_mono nec (fun v s' hv => ?_) fun _ _ e => e))
    obtain ⟨⟨c, rfl⟩, hq⟩ := hv
    exact wpAny_pure ⟨_, rfl, hq⟩
  unfold richCompare
  simp only [oneThing_ref]
  refine wpAny_holding (wpAny_bind (wpAny_cRoomFor hu ?_))
  refine wpAny_bind (I.type.here (wpAny_bind (hb.here ?_)))
  split
  · rename_i q
    have e : subIn K tb (.ref C) = some false := by
      rcases Bool.or_eq_true_iff.mp hn with e | e
      · rw [beq_iff_eq.mp e] at q; simp at q
      · exact beq_iff_eq.mp e
    refine wpAny_bind ((looks_subIn X e).here ?_)
    simp only [Bool.false_eq_true, if_false]
    refine wpAny_bind (wpAny_mono one (fun r s' z => ?_) fun _ _ e => e)
    obtain ⟨v, rfl, hq⟩ := z
    exact wpAny_pure hq
  · refine wpAny_bind (wpAny_pure ?_)
    simp only [Bool.false_eq_true, if_false]
    refine wpAny_bind (wpAny_mono one (fun r s' z => ?_) fun _ _ e => e)
    obtain ⟨v, rfl, hq⟩ := z
    exact wpAny_pure hq
end
end PySem.W
namespace DL
open PySem PySem.Spec PyProof.Rows L2
section
variable {X : Cx} {F0 : Hp} {ρ : DEnv} {M : Mem} {q : DK} {k k' : Nat} {f C : Addr} {fd : FuncData} {ps : List Str} {S : DSpec} {xq : XQ} {m : Str}
/-- the same call, one built-in deeper -/
def DRun1 (X : Cx) (F0 : Hp) (f : Value) (ds : List Dat) (M : Mem) (q : DK) : Prop :=
  ∀ (pins : List (Addr × Obj)) (σ : L2.St) (H : Hp) (s : Shared) (us : List Value) (F : Hp) (vs : List V) (Q : VK), Inv X pins σ H s → OkM X.K F0 F M H → Reps X.K F ds vs → Vals vs us →
    kV X.K F0 F q Q → wpAny (model X.prog X.w) X.A.in1 (call f us) (EP X pins σ Q) X.xe s
theorem Met.run1 {ds : List Dat} (c : Met X.prog X.w X.K X.mg X.base C m k f fd ps S) (hr : Room k' X.A) (hk : k + 1 ≤ k') (tk : XOk X F0 xq) (h : S ds M q xq) : DRun1 X F0 (.ref f) ds M q := by
  intro pins σ H s us Fz vs Q I om rd vd kq
  have hl : us.length = ps.length := by rw [← vd.length, ← rd.length, c.len _ _ _ _ h]
  have sp : LSp X.K S vs H Q (wX X.K F0 xq) := ⟨Fz, _, M, q, xq, om.entry, rd, h, kq.entry om, kX.entry om⟩
  refine wpAny_call (codeAny_mono (c.ok.run X.A.in1 X.stack s H _ _ _ Q _ (hr.mono hk).in1 I.env0.in1 (c.pos s us hl) vd sp) ?_)
  intro r s2 out
  cases r with
  | error e => exact passes_call tk (fun _ _ _ _ z => z) pins σ H s e s2 I out
  | ok fl =>
    cases fl with
    | ret u => exact I.after out
    | next => exact out.elim
    | brk => exact out.elim
    | cont => exact out.elim
theorem Room.u1 {k : Nat} {A : Around} (r : Room k A) : A.in1.units < cLine := by
  have := r.un
  show A.units + 1 < _
  omega
/-- x != y, the class has == alone -/
theorem dop_neO {x y : Dat} {ns : List Str} {fs : List Dat} {t : Value} (c : Met X.prog X.w X.K X.mg X.base C "__eq__" k f fd ps S) (hne : PySem.W.findIn X.K (.ref C) "__ne__" = some (some (.builtin "object.__ne__"))) (top : PySem.W.mroIn X.K C (.type "object") = some true)
    (hr : Room k' X.A) (hk : k + 1 ≤ k') (tk : XOk X F0 xq) (hi : Ins M C ns fs x) (ht : TyV M y t) (hn : PySem.W.notFirst X.K C t = true) (h : S [x, y] M (fun d M' => ∃ b, d = .bl b ∧ q (.bl (!b)) M') xq) : DOp X F0 (compareOp .NotEq) x y M q :=
  dop_raw fun F H vx vy Q om rx ry kq pins σ s v u I rv ru => by
    obtain ⟨a, dx, xs, rfl, ha, _, _⟩ := hi.at om rx
    obtain rfl : v = .ref a := rv
    obtain ⟨od, J⟩ := inst_at I ha
    obtain ⟨mm, Fr⟩ := I.fr
    refine PySem.W.dl_ne hr.units0 (Room.u1 hr) Fr I.ok.mod.kin J (ht.look om ry I ru) hn hne top c.at_ c.fn ?_
    refine wpAny_mono (c.run1 hr hk tk h pins σ H s [.ref a, u] F [.ref a, vy] (fun w H' => ∃ b, w = .bl b ∧ Q (.bl (!b)) H') I om (Reps.cons rx (Reps.cons ry Reps.nil)) (.cons rfl (.cons ru .nil)) ?_) (fun r s' z => ?_) fun _ _ z => z
    · rintro F' H' w d M' e' o' r ⟨b, rfl, hq⟩
      obtain rfl : w = .bl b := r
      exact ⟨b, rfl, kq F' H' _ _ M' e' o' rep_bl hq⟩
    · obtain ⟨w, H', I', rw', b, rfl, hq⟩ := z
      obtain rfl : r = .bool b := rw'
      exact ⟨b, rfl, .bl (!b), H', I', rfl, hq⟩
/-- len(x) -/
theorem dcl_lenO {x : Dat} {ns : List Str} {fs : List Dat} (c : Met X.prog X.w X.K X.mg X.base C "__len__" k f fd ps S) (hr : Room k' X.A) (hk : k + 1 ≤ k') (tk : XOk X F0 xq) (hi : Ins M C ns fs x) (h : S [x] M (fun d M' => ∃ i, d = .int i ∧ 0 ≤ i ∧ i < 1000000 ∧ q (.int i) M') xq) : DCl X F0 (.builtin "len") [x] M q :=
  dcl_raw fun F H vs Q om rx0 kq pins σ s us I rv => by
    obtain ⟨vx, rfl, rx⟩ := reps1 rx0
    obtain ⟨a, dx, xs, rfl, ha, _, _⟩ := hi.at om rx
    obtain ⟨u, rfl, ru⟩ : ∃ u, us = [u] ∧ RelV (.ref a) u := by
      cases rv with
      | cons r t =>
        cases t
        exact ⟨_, rfl, r⟩
    obtain rfl : u = .ref a := ru
    obtain ⟨od, J⟩ := inst_at I ha
    obtain ⟨mm, Fr⟩ := I.fr
    refine PySem.W.len_K Fr I.ok.mod.kin J c.at_ c.fn ?_
    refine wpAny_mono (c.run1 hr hk tk h pins σ H s [.ref a] F [.ref a] (fun w H' => ∃ i, w = .int i ∧ 0 ≤ i ∧ i < 1000000 ∧ Q (.int i) H') I om (Reps.cons rx Reps.nil) (.cons rfl .nil) ?_) (fun r s' z => ?_) fun _ _ z => z
    · rintro F' H' w d M' e' o' r ⟨i, rfl, h1, h2, hq⟩
      obtain rfl : w = .int i := r
      exact ⟨i, rfl, h1, h2, kq F' H' _ _ M' e' o' rep_int hq⟩
    · obtain ⟨w, H', I', rw', i, rfl, h1, h2, hq⟩ := z
      obtain ⟨t, rfl⟩ := rw'
      refine ⟨⟨h1, by omega⟩, ?_⟩
      exact ⟨.int i, H', I'.tok _, ⟨_, rfl⟩, hq⟩
/-- repr(x) -/
theorem dcl_reprO {x : Dat} {ns : List Str} {fs : List Dat} (c : Met X.prog X.w X.K X.mg X.base C "__repr__" k f fd ps S) (hr : Room k' X.A) (hk : k + 1 ≤ k') (tk : XOk X F0 xq) (hi : Ins M C ns fs x) (h : S [x] M (fun d M' => ∃ z, d = .str z ∧ q (.str z) M') xq) : DCl X F0 (.builtin "repr") [x] M q :=
  dcl_raw fun F H vs Q om rx0 kq pins σ s us I rv => by
    obtain ⟨vx, rfl, rx⟩ := reps1 rx0
    obtain ⟨a, dx, xs, rfl, ha, _, _⟩ := hi.at om rx
    obtain ⟨u, rfl, ru⟩ : ∃ u, us = [u] ∧ RelV (.ref a) u := by
      cases rv with
      | cons r t =>
        cases t
        exact ⟨_, rfl, r⟩
    obtain rfl : u = .ref a := ru
    obtain ⟨od, J⟩ := inst_at I ha
    obtain ⟨mm, Fr⟩ := I.fr
    refine PySem.W.repr_K (Room.u1 hr) Fr I.ok.mod.kin J c.at_ c.fn ?_
    refine wpAny_mono (c.run1 hr hk tk h pins σ H s [.ref a] F [.ref a] (fun w H' => ∃ z, w = .str z ∧ Q (.str z) H') I om (Reps.cons rx Reps.nil) (.cons rfl .nil) ?_) (fun r s' z => ?_) fun _ _ z => z
    · rintro F' H' w d M' e' o' r ⟨i, rfl, hq⟩
      obtain rfl : w = .str i := r
      exact ⟨i, rfl, kq F' H' _ _ M' e' o' rep_str hq⟩
    · obtain ⟨w, H', I', rw', i, rfl, hq⟩ := z
      obtain ⟨t, rfl⟩ := rw'
      exact ⟨.str i, H', I', ⟨_, rfl⟩, hq⟩
end
end DL
/-! DL18: repr(a) == repr(b) -/
namespace DL
open PySem PySem.Spec PyProof.Rows L2
/-- data whose text is short -/
def showB (p : PyData) : Bool := p.showable && decide (p.depth ≤ 60) && PyData.layable0 p && p.intsShort 13
def S_same : DSpec := fun ds M q _ => ∃ x y p, ds = [x, y] ∧ isSeqD x = true ∧ isSeqD y = true ∧ toPy x = some p ∧ toPy y = some p ∧ showB p = true ∧ q (.bl true) M
theorem dcl_reprS {X : Cx} {F0 : Hp} {M : Mem} {q : DK} {d : Dat} {p : PyData} {k : Nat} (hr : Room k X.A) (hg : X.A.guards = some []) (hd : isSeqD d = true) (hp : toPy d = some p) (hs : showB p = true) (h : q (.str p.shown) M) : DCl X F0 (.builtin "repr") [d] M q := by
  unfold showB at hs
  simp only [Bool.and_eq_true, decide_eq_true_eq] at hs
  obtain ⟨⟨⟨h1, h2⟩, h3⟩, h4⟩ := hs
  exact dcl_repr hr hg hd hp h1 h2 (Nat.le_trans (shown_le13 h3 h4) (by decide)) h
theorem br_bb {k : Bool} {A B : Prop} (h : B) : ((!(k == k)) = true → A) ∧ ((!(k == k)) = false → B) := by
  rw [beq_self_eq_true]
  exact ⟨(fun z => by cases z), fun _ => h⟩
end DL
/-! DL19: classes in one structure, calls with defaults, methods found by the class -/
namespace DL
open PySem PySem.Spec PyProof.Rows L2
/-- what is known of a plain own class that the module's name x holds -/
structure CT (K : PySem.W.Frag) (mg : Str → Option Value) (x : Str) (C : Addr) : Prop where
  ok : ClsOk K C
  at_ : mg x = some (.ref C)
  g : GlobD K mg x (.ptr C)
  own : PySem.W.kitOne K (.ref C) (.ref C) = some true
  tI : PySem.W.kitOne K (.type "int") (.ref C) = some false
  tB : PySem.W.kitOne K (.type "bool") (.ref C) = some false
  tS : PySem.W.kitOne K (.type "str") (.ref C) = some false
  tN : PySem.W.kitOne K (.type "NoneType") (.ref C) = some false
  tL : PySem.W.kitOne K (.type "list") (.ref C) = some false
  tU : PySem.W.kitOne K (.type "tuple") (.ref C) = some false
  cI : PySem.W.kitOne K (.ref C) (.type "int") = some false
  cB : PySem.W.kitOne K (.ref C) (.type "bool") = some false
  cS : PySem.W.kitOne K (.ref C) (.type "str") = some false
  cL : PySem.W.kitOne K (.ref C) (.type "list") = some false
  cU : PySem.W.kitOne K (.ref C) (.type "tuple") = some false
  nI : PySem.W.notFirst K C (.type "int") = true
  nB : PySem.W.notFirst K C (.type "bool") = true
  nS : PySem.W.notFirst K C (.type "str") = true
  nN : PySem.W.notFirst K C (.type "NoneType") = true
  nL : PySem.W.notFirst K C (.type "list") = true
  nU : PySem.W.notFirst K C (.type "tuple") = true
  hne : PySem.W.findIn K (.ref C) "__ne__" = some (some (.builtin "object.__ne__"))
theorem notFirst_self {K : PySem.W.Frag} {C : Addr} : PySem.W.notFirst K C (.ref C) = true := by
  unfold PySem.W.notFirst
  rw [show (Value.ref C == Value.ref C) = true from beq_self_eq_true _, Bool.true_or]
theorem kit_own {K : PySem.W.Frag} {C : Addr} (h : PySem.W.mroIn K C (.ref C) = some true) (h2 : PySem.W.kitOne K (.ref C) (.ref C) = some true) : PySem.W.kitOne K (.ref C) (.ref C) = some true := h2
/-- a class that is called -/
structure MkD (P : Program) (w : World) (K : PySem.W.Frag) (mg : Str → Option Value) (base : Heap) (x : Str) (C fi : Addr) (fd : FuncData) (k : Nat) (ps : List Str) (S : DSpec) : Prop where
  mks : Mk K C fi
  ok : FnOk P w K mg base (L2.CX P w) k fi fd ps (LSp K S)
  at_ : mg x = some (.ref C)
/-- where a def stands that may have defaults -/
structure CalB (P : Program) (w : World) (K : PySem.W.Frag) (mg : Str → Option Value) (base : Heap) (x : Str) (k : Nat) (f : Addr) (fd : FuncData) (ps : List Str) (S : DSpec) : Prop where
  at_ : mg x = some (.ref f)
  kp : PySem.W.keepIn K (.ref f) = true
  ok : FnOk P w K mg base (L2.CX P w) k f fd ps (LSp K S)
theorem Cal.toB {P : Program} {w : World} {K : PySem.W.Frag} {mg : Str → Option Value} {base : Heap} {x : Str} {k : Nat} {f : Addr} {fd : FuncData} {ps : List Str} {S : DSpec} (c : Cal P w K mg base x k f fd ps S) : CalB P w K mg base x k f fd ps S := ⟨c.at_, c.kp, c.ok⟩
structure MetB (P : Program) (w : World) (K : PySem.W.Frag) (mg : Str → Option Value) (base : Heap) (C : Addr) (m : Str) (k : Nat) (f : Addr) (fd : FuncData) (ps : List Str) (S : DSpec) : Prop where
  at_ : PySem.W.findIn K (.ref C) m = some (some (.ref f))
  fn : PySem.W.isFn K (.ref f) = true
  kp : PySem.W.keepIn K (.ref f) = true
  ok : FnOk P w K mg base (L2.CX P w) k f fd ps (LSp K S)
theorem Met.toB {P : Program} {w : World} {K : PySem.W.Frag} {mg : Str → Option Value} {base : Heap} {C : Addr} {m : Str} {k : Nat} {f : Addr} {fd : FuncData} {ps : List Str} {S : DSpec} (c : Met P w K mg base C m k f fd ps S) : MetB P w K mg base C m k f fd ps S := ⟨c.at_, c.fn, c.kp, c.ok⟩
theorem MetB.meth {P : Program} {w : World} {K : PySem.W.Frag} {mg : Str → Option Value} {base : Heap} {C : Addr} {m : Str} {k : Nat} {f : Addr} {fd : FuncData} {ps : List Str} {S : DSpec} (c : MetB P w K mg base C m k f fd ps S) : Meth K C m f := ⟨c.at_, c.fn, c.kp⟩
/-- what the call of a class asks of its __init__ -/
def NewQ (C : Addr) (S : DSpec) (dd : List Dat) (perm : List Nat) (ds zs : List Dat) (M : Mem) (q : DK) (xq : XQ) : Prop :=
  ∀ a, M a = none → S (pick Dat.non ((.ptr a :: ds) ++ zs ++ dd) perm) (updM M a (.obj C [] [])) (fun v M2 => v = .non ∧ ∃ ns fs, M2 a = some (.obj C ns fs) ∧ q (.obj C ns fs) (delM M2 a)) xq
section
variable {X : Cx} {F0 : Hp} {ρ : DEnv} {M : Mem} {q : DK} {k k' n : Nat} {f C : Addr} {fd : FuncData} {ps ks : List Str} {S : DSpec} {e o : Expr} {es : List Expr} {kws : List Keyword} {pos p apos : Pos} {xq : XQ} {m x : Str} {dd : List Dat} {perm : List Nat}
theorem de_new (R : MkD X.prog X.w X.K X.mg X.base x C f fd k ps S) (b : Bnd X.K fd ps (n + 1) [] dd perm) (hg : Gl X x) (hr : Room k' X.A) (hk : k + 1 ≤ k') (tk : XOk X F0 xq)
    (h : DA X F0 (e :: es) ρ M fun ds M1 => ds.length = n ∧ NewQ C S dd perm ds [] M1 q xq)
    (hdb : (x == ("__debug__" : Str)) = false := by decide) (he : starEach (e :: es) X.env = (false, eval e X.env) :: starEach es X.env := by rfl) (hpl : (backTo pos (starEach es X.env)).any (·.1) = false := by rfl) :
    DE X F0 (.Call (.Name x p) (e :: es) [] pos) ρ M q :=
  de_call hg R.at_ R.mks.kp (da_imp h fun ds M' ⟨h1, h2⟩ => drun_mk R.mks R.ok hr hk tk b h1 rfl h2) hdb he hpl
theorem de_new0 (R : MkD X.prog X.w X.K X.mg X.base x C f fd k ps S) (b : Bnd X.K fd ps 1 [] dd perm) (hg : Gl X x) (hr : Room k' X.A) (hk : k + 1 ≤ k') (tk : XOk X F0 xq) (h : NewQ C S dd perm [] [] M q xq)
    (hdb : (x == ("__debug__" : Str)) = false := by decide) : DE X F0 (.Call (.Name x p) [] [] pos) ρ M q :=
  de_call0 hg R.at_ R.mks.kp (drun_mk (n := 0) R.mks R.ok hr hk tk b rfl rfl h) hdb
theorem de_newK (R : MkD X.prog X.w X.K X.mg X.base x C f fd k ps S) (b : Bnd X.K fd ps (n + 1) ks dd perm) (hg : Gl X x) (hr : Room k' X.A) (hk : k + 1 ≤ k') (tk : XOk X F0 xq) (hks : (backToKw pos (keywordEach kws X.env)).filterMap (·.1) = ks)
    (h : DA X F0 (e :: es) ρ M fun ds M1 => DKw X F0 kws ρ M1 fun zs M2 => ds.length = n ∧ zs.length = ks.length ∧ NewQ C S dd perm ds zs M2 q xq)
    (hall : (backToKw pos (keywordEach kws X.env)).all (·.1.isSome) = true := by rfl) (hdb : (x == ("__debug__" : Str)) = false := by decide) (he : starEach (e :: es) X.env = (false, eval e X.env) :: starEach es X.env := by rfl)
    (hpl : ((backTo pos (starEach (e :: es) X.env)).any (·.1) || (backToKw pos (keywordEach kws X.env)).any (·.1.isNone)) = false := by rfl) :
    DE X F0 (.Call (.Name x p) (e :: es) kws pos) ρ M q :=
  de_callK hg R.at_ R.mks.kp hks (da_imp h fun ds M' h' => dk_imp h' fun zs M'' ⟨h1, h2, h3⟩ => drun_mk R.mks R.ok hr hk tk b h1 h2 h3) hall hdb he hpl
theorem de_new0K (R : MkD X.prog X.w X.K X.mg X.base x C f fd k ps S) (b : Bnd X.K fd ps 1 ks dd perm) (hg : Gl X x) (hr : Room k' X.A) (hk : k + 1 ≤ k') (tk : XOk X F0 xq) (hks : (backToKw pos (keywordEach kws X.env)).filterMap (·.1) = ks)
    (h : DKw X F0 kws ρ M fun zs M2 => zs.length = ks.length ∧ NewQ C S dd perm [] zs M2 q xq)
    (hall : (backToKw pos (keywordEach kws X.env)).all (·.1.isSome) = true := by rfl) (hdb : (x == ("__debug__" : Str)) = false := by decide)
    (hpl : ((backTo pos (starEach [] X.env)).any (·.1) || (backToKw pos (keywordEach kws X.env)).any (·.1.isNone)) = false := by rfl) :
    DE X F0 (.Call (.Name x p) [] kws pos) ρ M q :=
  de_callK0 hg R.at_ R.mks.kp hks (dk_imp h fun zs M'' ⟨h2, h3⟩ => drun_mk (n := 0) R.mks R.ok hr hk tk b rfl h2 h3) hall hdb hpl
/-- f(e, .., x = ..), the rest by default -/
theorem de_fnB1 (c : CalB X.prog X.w X.K X.mg X.base x k f fd ps S) (b : Bnd X.K fd ps n ks dd perm) (hg : Gl X x) (hr : Room k' X.A) (hk : k ≤ k') (tk : XOk X F0 xq) (hks : (backToKw pos (keywordEach kws X.env)).filterMap (·.1) = ks)
    (h : DA X F0 (e :: es) ρ M fun ds M1 => DKw X F0 kws ρ M1 fun zs M2 => ds.length = n ∧ zs.length = ks.length ∧ S (pick Dat.non (ds ++ zs ++ dd) perm) M2 q xq)
    (hall : (backToKw pos (keywordEach kws X.env)).all (·.1.isSome) = true := by rfl) (hdb : (x == ("__debug__" : Str)) = false := by decide) (he : starEach (e :: es) X.env = (false, eval e X.env) :: starEach es X.env := by rfl)
    (hpl : ((backTo pos (starEach (e :: es) X.env)).any (·.1) || (backToKw pos (keywordEach kws X.env)).any (·.1.isNone)) = false := by rfl) :
    DE X F0 (.Call (.Name x p) (e :: es) kws pos) ρ M q :=
  de_callK hg c.at_ c.kp hks (da_imp h fun ds M' h' => dk_imp h' fun zs M'' h'' => drun_f c.ok (hr.mono hk) tk b h''.1 h''.2.1 h''.2.2) hall hdb he hpl
theorem de_fnB0 (c : CalB X.prog X.w X.K X.mg X.base x k f fd ps S) (b : Bnd X.K fd ps 0 ks dd perm) (hg : Gl X x) (hr : Room k' X.A) (hk : k ≤ k') (tk : XOk X F0 xq) (hks : (backToKw pos (keywordEach kws X.env)).filterMap (·.1) = ks)
    (h : DKw X F0 kws ρ M fun zs M2 => zs.length = ks.length ∧ S (pick Dat.non (zs ++ dd) perm) M2 q xq)
    (hall : (backToKw pos (keywordEach kws X.env)).all (·.1.isSome) = true := by rfl) (hdb : (x == ("__debug__" : Str)) = false := by decide)
    (hpl : ((backTo pos (starEach [] X.env)).any (·.1) || (backToKw pos (keywordEach kws X.env)).any (·.1.isNone)) = false := by rfl) :
    DE X F0 (.Call (.Name x p) [] kws pos) ρ M q :=
  de_callK0 hg c.at_ c.kp hks (dk_imp h fun zs M'' h'' => drun_f c.ok (hr.mono hk) tk b rfl h''.1 h''.2) hall hdb hpl
/-- a method, found by the class of what stands ahead of it -/
def DMC (X : Cx) (F0 : Hp) (m : Str) (es : List Expr) (kws : List Keyword) (ρ : DEnv) (d : Dat) (M : Mem) (q : DK) : Prop :=
  ∃ (C : Addr) (k : Nat) (f : Addr) (fd : FuncData) (ps : List Str) (S : DSpec) (n : Nat) (ks : List Str) (dd : List Dat) (perm : List Nat) (ns : List Str) (fs : List Dat) (xq : XQ) (k' : Nat),
    MetB X.prog X.w X.K X.mg X.base C m k f fd ps S ∧ Bnd X.K fd ps (n + 1) ks dd perm ∧ Cls X.K C ∧ Room k' X.A ∧ k ≤ k' ∧ XOk X F0 xq ∧ Ins M C ns fs d ∧ m ∉ ns ∧ (kws.filterMap (·.arg)) = ks ∧
    DA X F0 es ρ M fun ds M1 => DKw X F0 kws ρ M1 fun zs M2 => ds.length = n ∧ zs.length = ks.length ∧ S (pick Dat.non (d :: ds ++ zs ++ dd) perm) M2 q xq
theorem DMC.mk {d : Dat} {ns : List Str} {fs : List Dat} (c : MetB X.prog X.w X.K X.mg X.base C m k f fd ps S) (b : Bnd X.K fd ps (n + 1) ks dd perm) (cl : Cls X.K C) (hr : Room k' X.A) (hk : k ≤ k') (tk : XOk X F0 xq) (hi : Ins M C ns fs d) (hn : m ∉ ns) (hks : (kws.filterMap (·.arg)) = ks)
    (h : DA X F0 es ρ M fun ds M1 => DKw X F0 kws ρ M1 fun zs M2 => ds.length = n ∧ zs.length = ks.length ∧ S (pick Dat.non (d :: ds ++ zs ++ dd) perm) M2 q xq) : DMC X F0 m es kws ρ d M q :=
  ⟨C, k, f, fd, ps, S, n, ks, dd, perm, ns, fs, xq, k', c, b, cl, hr, hk, tk, hi, hn, hks, h⟩
theorem Met.bnd {P : Program} {w : World} {K : PySem.W.Frag} {mg : Str → Option Value} {base : Heap} {ps : List Str} {p0 : Str} (c : Met P w K mg base C m k f fd (p0 :: ps) S) : Bnd K fd (p0 :: ps) (ps.length + 1) [] [] (List.range (ps.length + 1)) := bnd_pos c.pos
/-- positional alone -/
theorem DMC.posn {d : Dat} {ns : List Str} {fs : List Dat} {p0 : Str} (c : Met X.prog X.w X.K X.mg X.base C m k f fd (p0 :: ps) S) (cl : Cls X.K C) (hr : Room k' X.A) (hk : k ≤ k') (tk : XOk X F0 xq) (hi : Ins M C ns fs d) (hn : m ∉ ns)
    (h : DA X F0 es ρ M fun ds M1 => S (d :: ds) M1 q xq) : DMC X F0 m es [] ρ d M q :=
  DMC.mk c.toB c.bnd cl hr hk tk hi hn rfl (da_imp h fun ds M1 h1 => dk_nil (by
    have hl := c.len _ _ _ _ h1
    refine ⟨Nat.succ.inj hl, rfl, ?_⟩
    rw [List.append_nil, List.append_nil, show ps.length + 1 = (d :: ds).length from hl.symm, range_pick]
    exact h1))
/-- o.m(e, .., x = ..) -/
theorem de_methX {pl : Sem Bool} (h : DE X F0 o ρ M fun d M1 => DMC X F0 m (e :: es) kws ρ d M1 q)
    (hst : starEach (e :: es) X.env = (false, eval e X.env) :: starEach es X.env := by rfl)
    (hks : (backToKw pos (keywordEach kws X.env)).filterMap (·.1) = kws.filterMap (·.arg) := by rfl) (hall : (backToKw pos (keywordEach kws X.env)).all (·.1.isSome) = true := by rfl)
    (hpl : ((backTo pos (starEach (e :: es) X.env)).any (·.1) || (backToKw pos (keywordEach kws X.env)).any (·.1.isNone)) = false := by rfl)
    (ht : eval (.Call (.Attribute o m apos) (e :: es) kws pos) X.env = (do
      let ov ← eval o X.env
      standAt apos.atName
      let (f, first) ← holding [ov] (getMethod ov m pl)
      callWith pos f first (backTo pos (starEach (e :: es) X.env)) (backToKw pos (keywordEach kws X.env))) := by rfl) : DE X F0 (.Call (.Attribute o m apos) (e :: es) kws pos) ρ M q := by
  refine ⟨fun pins s σ H Q I ⟨F, om, ol, kq⟩ => ?_⟩
  refine PySem.W.methodCall_KW (pl := pl) (thn ((uE (X := X) (F0 := F0) (e := o)).run pins s σ H (fun v H1 => ∃ F1 d M1, Ex F F1 ∧ OkM X.K F0 F1 M1 H1 ∧ Rep X.K F1 d v ∧ DMC X F0 m (e :: es) kws ρ d M1 q) I
    (tU.go h om ol fun F1 H1 v d M1 e1 om1 r1 h1 => ⟨F1, d, M1, e1, om1, r1, h1⟩)) fun u s1 ⟨v, H1, I1, rv, F1, d, M1, e1, om1, r1, C, k, f, fd, ps, S, n, ks, dd, perm, ns, fs, xq, k', c, b, cl, hr, hk, tk, hi, hn, hks', h1⟩ => ?_) ht
  obtain ⟨a, dx, xs, rfl, ha, hlen, hx⟩ := hi.at om1 r1
  obtain rfl : u = Value.ref a := rv
  refine getmeth_ok I1 ha cl c.meth (look_none hn) ?_
  refine PySem.W.callWith_KW (first := [.ref a]) (h₀ := X.base) I1.ok.mod.kin c.kp hall (thn ((uA (X := X) (F0 := F0) (es := e :: es)).run pos pins s1 σ H1 (fun vs H2 => ∃ F2 ds M2, Ex F1 F2 ∧ OkM X.K F0 F2 M2 H2 ∧ Reps X.K F2 ds vs ∧ DKw X F0 kws ρ M2 fun zs M3 => ds.length = n ∧ zs.length = ks.length ∧ S (pick Dat.non (d :: ds ++ zs ++ dd) perm) M3 q xq) I1
    (tUA.go h1 om1 (ol.mono e1) fun F2 H2 vs ds M2 e2 om2 r2 h2 => ⟨F2, ds, M2, e2, om2, r2, h2⟩)) fun us s2 ⟨vs, H2, I2, rvs, F2, ds, M2, e2, om2, r2, h2⟩ => ?_) hpl hst
  have hb := (uK (X := X) (F0 := F0) (kws := kws)).run pos pins s2 σ H2 (fun zv H3 => ∃ F3 zs M3, Ex F2 F3 ∧ OkM X.K F0 F3 M3 H3 ∧ Reps X.K F3 zs zv ∧ ds.length = n ∧ zs.length = ks.length ∧ S (pick Dat.non (d :: ds ++ zs ++ dd) perm) M3 q xq) I2
    (tUK.go h2 om2 (ol.mono (e1.trans e2)) fun F3 H3 zv zs M3 e3 om3 r3 h3 => ⟨F3, zs, M3, e3, om3, r3, h3⟩)
  refine thn hb fun ws s3 ⟨zv, H3, I3, rz, F3, zs, M3, e3, om3, r3, l1, l2, h3⟩ => ⟨I3.kIn, ?_⟩
  rw [hks, hks']
  exact drun_f (ds := d :: ds) (zs := zs) (dd := dd) c.ok (hr.mono hk) tk b (congrArg Nat.succ l1) l2 h3 pins σ H3 s3 (.ref a :: us) ws F3 (.ref a :: vs) zv Q I3 om3 (Reps.cons (r1.mono (e2.trans e3)) (r2.mono e3)) r3 (.cons rfl rvs) rz (kq.mono (e1.trans (e2.trans e3)))
/-- the same without positional arguments -/
def DMC0 (X : Cx) (F0 : Hp) (m : Str) (kws : List Keyword) (ρ : DEnv) (d : Dat) (M : Mem) (q : DK) : Prop :=
  ∃ (C : Addr) (k : Nat) (f : Addr) (fd : FuncData) (ps : List Str) (S : DSpec) (ks : List Str) (dd : List Dat) (perm : List Nat) (ns : List Str) (fs : List Dat) (xq : XQ) (k' : Nat),
    MetB X.prog X.w X.K X.mg X.base C m k f fd ps S ∧ Bnd X.K fd ps 1 ks dd perm ∧ Cls X.K C ∧ Room k' X.A ∧ k ≤ k' ∧ XOk X F0 xq ∧ Ins M C ns fs d ∧ m ∉ ns ∧ (kws.filterMap (·.arg)) = ks ∧
    DKw X F0 kws ρ M fun zs M2 => zs.length = ks.length ∧ S (pick Dat.non (d :: zs ++ dd) perm) M2 q xq
theorem DMC0.mk {d : Dat} {ns : List Str} {fs : List Dat} (c : MetB X.prog X.w X.K X.mg X.base C m k f fd ps S) (b : Bnd X.K fd ps 1 ks dd perm) (cl : Cls X.K C) (hr : Room k' X.A) (hk : k ≤ k') (tk : XOk X F0 xq) (hi : Ins M C ns fs d) (hn : m ∉ ns) (hks : (kws.filterMap (·.arg)) = ks)
    (h : DKw X F0 kws ρ M fun zs M2 => zs.length = ks.length ∧ S (pick Dat.non (d :: zs ++ dd) perm) M2 q xq) : DMC0 X F0 m kws ρ d M q :=
  ⟨C, k, f, fd, ps, S, ks, dd, perm, ns, fs, xq, k', c, b, cl, hr, hk, tk, hi, hn, hks, h⟩
theorem DMC0.nil {d : Dat} {ns : List Str} {fs : List Dat} {p0 : Str} (c : Met X.prog X.w X.K X.mg X.base C m k f fd [p0] S) (cl : Cls X.K C) (hr : Room k' X.A) (hk : k ≤ k') (tk : XOk X F0 xq) (hi : Ins M C ns fs d) (hn : m ∉ ns)
    (h : S [d] M q xq) : DMC0 X F0 m [] ρ d M q :=
  DMC0.mk c.toB c.bnd cl hr hk tk hi hn rfl (dk_nil ⟨rfl, h⟩)
/-- o.m(x = ..) and o.m() -/
theorem de_methX0 {pl : Sem Bool} (h : DE X F0 o ρ M fun d M1 => DMC0 X F0 m kws ρ d M1 q)
    (hks : (backToKw pos (keywordEach kws X.env)).filterMap (·.1) = kws.filterMap (·.arg) := by rfl) (hall : (backToKw pos (keywordEach kws X.env)).all (·.1.isSome) = true := by rfl)
    (hpl : ((backTo pos (starEach [] X.env)).any (·.1) || (backToKw pos (keywordEach kws X.env)).any (·.1.isNone)) = false := by rfl)
    (ht : eval (.Call (.Attribute o m apos) [] kws pos) X.env = (do
      let ov ← eval o X.env
      standAt apos.atName
      let (f, first) ← holding [ov] (getMethod ov m pl)
      callWith pos f first (backTo pos (starEach [] X.env)) (backToKw pos (keywordEach kws X.env))) := by rfl) : DE X F0 (.Call (.Attribute o m apos) [] kws pos) ρ M q := by
  refine ⟨fun pins s σ H Q I ⟨F, om, ol, kq⟩ => ?_⟩
  refine PySem.W.methodCall_KW (pl := pl) (thn ((uE (X := X) (F0 := F0) (e := o)).run pins s σ H (fun v H1 => ∃ F1 d M1, Ex F F1 ∧ OkM X.K F0 F1 M1 H1 ∧ Rep X.K F1 d v ∧ DMC0 X F0 m kws ρ d M1 q) I
    (tU.go h om ol fun F1 H1 v d M1 e1 om1 r1 h1 => ⟨F1, d, M1, e1, om1, r1, h1⟩)) fun u s1 ⟨v, H1, I1, rv, F1, d, M1, e1, om1, r1, C, k, f, fd, ps, S, ks, dd, perm, ns, fs, xq, k', c, b, cl, hr, hk, tk, hi, hn, hks', h1⟩ => ?_) ht
  obtain ⟨a, dx, xs, rfl, ha, hlen, hx⟩ := hi.at om1 r1
  obtain rfl : u = Value.ref a := rv
  refine getmeth_ok I1 ha cl c.meth (look_none hn) ?_
  refine PySem.W.callWith_KW0 (first := [.ref a]) (h₀ := X.base) I1.ok.mod.kin c.kp hall (thn ((uK (X := X) (F0 := F0) (kws := kws)).run pos pins s1 σ H1 (fun zv H3 => ∃ F3 zs M3, Ex F1 F3 ∧ OkM X.K F0 F3 M3 H3 ∧ Reps X.K F3 zs zv ∧ zs.length = ks.length ∧ S (pick Dat.non (d :: zs ++ dd) perm) M3 q xq) I1
    (tUK.go h1 om1 (ol.mono e1) fun F3 H3 zv zs M3 e3 om3 r3 h3 => ⟨F3, zs, M3, e3, om3, r3, h3⟩)) fun ws s3 ⟨zv, H3, I3, rz, F3, zs, M3, e3, om3, r3, l2, h3⟩ => ⟨I3.kIn, ?_⟩) hpl
  rw [hks, hks']
  exact drun_f (ds := [d]) (zs := zs) (dd := dd) c.ok (hr.mono hk) tk b rfl l2 h3 pins σ H3 s3 [.ref a] ws F3 [.ref a] zv Q I3 om3 (Reps.cons (r1.mono e3) Reps.nil) r3 (.cons rfl .nil) rz (kq.mono (e1.trans e3))
end
theorem FunDf.mk' {K : PySem.W.Frag} {x qual : Str} {st : Stmt} {f T : Addr} {oc : Value} {od : Option Addr} {kV doc pm : Value} {an : Option Addr} {cdv ct : Value} {osl : Array (Option Value)} {o1 : Value} {o2 : Option Addr} {n : Nat} {sT : Array (Option Value)} {its : List Value} {dvs : List V}
    (l : K.lookup f = some ⟨oc, od, .func (PySem.W.fnOf x qual (defArgs st) (defBody st) (defScope st) (.ref T) kV doc pm an cdv ct), osl⟩) (c : PySem.W.codeIn K cdv qual = true) (k : PySem.W.keepIn K (.ref f) = true) (lT : K.lookup T = some ⟨o1, o2, .seq its.toArray n, sT⟩) (r : Vals dvs its) :
    FunDf K x qual st f (PySem.W.fnOf x qual (defArgs st) (defBody st) (defScope st) (.ref T) kV doc pm an cdv ct) dvs := ⟨⟨_, _, T, _, its, n, _, _, _, _, _, _, _, rfl, l, c, lT, rfl, r⟩, k⟩
end DL
/-! DL20: defs with a star parameter and keyword-only parameters -/
namespace DL
open PySem PySem.Spec PyProof.Rows L2
/-- t asks the dict at D for the names, one behind another, and goes on as r -/
def KwCh {α : Type} (D : Addr) : List (Str × Value) → Sem α → Sem α → Prop
  | [], t, r => t = r
  | q :: l, t, r => ∃ (β γ : Type) (k1 : Option Value → Sem β) (k2 : β → Sem γ) (k3 : γ → Sem α) (a : β), t = ((nsGet D q.1 >>= k1) >>= k2) >>= k3 ∧ k1 (some q.2) = pure a ∧ KwCh D l (k2 a >>= k3) r
theorem KwCh.wp {α : Type} {K : PySem.W.Frag} {M : Model} {A : Around} {s : Shared} {E : Value → Shared → Prop} {Q : α → Shared → Prop} {D : Addr} (X : K.In s.heap) : ∀ {l : List (Str × Value)} {t r : Sem α}, (∀ q ∈ l, PySem.W.nsIn K D q.1 = some (some q.2)) → KwCh D l t r → wpAny M A r Q E s → wpAny M A t Q E s
  | [], t, r, _, e, h => by
    rw [show t = r from e]
    exact h
  | q :: l, t, r, hl, e, h => by
    obtain ⟨β, γ, k1, k2, k3, a, e1, e2, e3⟩ := e
    have l1 : PySem.W.Looks M s.heap (nsGet D q.1 >>= k1) a := (PySem.W.looks_nsIn X (hl q (List.mem_cons_self ..))).andThen (PySem.W.Looks.of_pure e2)
    rw [e1, bind_assoc]
    exact wpAny_bind (l1.here (KwCh.wp X (fun p hp => hl p (List.mem_cons_of_mem _ hp)) e3 h))
/-- how a def with a star parameter pv binds: n positional values, the rest, the keywords ks, the defaults dd -/
structure BndV (K : PySem.W.Frag) (fd : FuncData) (ps : List Str) (pv : Str) (n : Nat) (ks : List Str) (dd : List Dat) (perm : List Nat) : Prop where
  to : ∃ (dv : List V) (du : List Value), Vals dv du ∧ (∀ F, Reps K F dd dv) ∧ ∀ (s : Shared) (us rest ws : List Value), K.In s.heap → us.length = n → ws.length = ks.length →
    ∀ (M : Model) (A : Around) (Q : List (Str × Value) → Shared → Prop) (E : Value → Shared → Prop), wpAny M A (newTuple rest) (fun t s' => Q (ps.zip (pick Value.none (us ++ ws ++ du) perm) ++ [(pv, t)]) s') E s → wpAny M A (bindArgs fd ⟨us ++ rest, ks.zip ws⟩) Q E s
structure FnV (P : Program) (w : World) (K : PySem.W.Frag) (mg : Str → Option Value) (base : Heap) (k : Nat) (f : Addr) (fd : FuncData) (ps : List Str) (pv : Str) (S : DSpec) : Prop where
  len : ∀ ds M q x, S ds M q x → ds.length = ps.length + 1
  run : ∀ (A : Around) (outer : List PySem.Env) (s : Shared) (H : Hp) (args : Args) (us rest : List Value) (vs rvs : List V) (Q : VK) (E : XK), Room k A → Env0 P w K mg base A outer s H →
    (∀ (M : Model) (A' : Around) (Q' : List (Str × Value) → Shared → Prop) (E' : Value → Shared → Prop), wpAny M A' (newTuple rest) (fun t s' => Q' (ps.zip us ++ [(pv, t)]) s') E' s → wpAny M A' (bindArgs fd args) Q' E' s) →
    Vals vs us → Vals rvs rest → vs.length = ps.length → rest.length ≤ sizeLine → (∀ p, H p = none → LSp K S (vs ++ [.ref p]) (upd H p (.tup rvs)) Q E) →
    codeAny (model P w) A (.call (.ref f) args) (CR (L2.CX P w) outer P w H s Q E) s
section
variable {P : Program} {w : World} {K : PySem.W.Frag} {mg : Str → Option Value} {base : Heap}
theorem FunD.okV {x qual : Str} {st : Stmt} {f : Addr} {fd : FuncData} {N ps : List Str} {pv : Str} {k : Nat} {S : DSpec} (F : FunD K x qual st f fd) (sc : FnScope N (ps ++ [pv]) (defScope st)) (len : ∀ ds M q x, S ds M q x → ds.length = ps.length + 1)
    (body : ∀ (cdv : Value) (A : Around) (outer : List PySem.Env) (s : Shared) (H : Hp) (E : XK), Room k (A.deeper (envOfC qual (defScope st) s.heap.objs.size f cdv)) → ∀ F0 ds M q x, S ds M q x → XOk (bodyX P w K mg base N qual st f cdv A outer s H E) F0 x →
      DSs (bodyX P w K mg base N qual st f cdv A outer s H E) F0 (defBody st) (startD N ds) M { nx := fun _ M' => q .non M', rt := q }) : FnV P w K mg base (k + 1) f fd ps pv S := by
  obtain ⟨oc, od, dV, kV, doc, pm, an, cdv, ct, osl, rfl, lk, hcd⟩ := F.ex
  refine ⟨len, ?_⟩
  intro A outer s H args us rest vs rvs Q E hr e0 hb rv rr hl hz hs
  have hn : H s.heap.objs.size = Option.none := e0.hok.fresh (Nat.le_refl _)
  have hl1 : us.length = ps.length := by rw [← rv.length]; exact hl
  have hz2 : rvs.length ≤ sizeLine := by rw [rr.length]; exact hz
  refine StX.run_bnd (CX := L2.CX P w) lk hcd sc hr e0 (G := fun xs H2 => ∃ p, H p = Option.none ∧ xs = vs ++ [V.ref p] ∧ H2 = upd H p (.tup rvs)) (fun A' Ex Q' h => ?_) fun s2 H2 xs ⟨p, hp, ex, eH⟩ hr' => ?_
  · refine hb _ _ _ _ ?_
    refine wpAny_newTuple ?_ hz
    have new : ObjOk P w (upd H s.heap.objs.size (.tup rvs)) (s.heap.push ({ cls := .type "tuple", data := .seq rest.toArray } : Obj)) s.heap.objs.size (.tup rvs) := ⟨hz2, rest, rr, ⟨_, Heap.get?_push_size _ rfl, rfl, _, rfl⟩⟩
    have un := StX.un_laid (fs := frs outer) (s := s) (o := ({ cls := .type "tuple", data := .seq rest.toArray } : Obj)) (u := .tup rvs) hn
    have z := h _ _ (vs ++ [V.ref s.heap.objs.size]) (us ++ [Value.ref s.heap.objs.size]) (StX.env0_laid e0 new) un rfl (fun e s' => StX.cxUp outer s H _ _ E e s' un (fun b o q => Heap.get?_push_of_some _ q) rfl) (rv.append (.cons rfl .nil))
      (by rw [List.length_append, List.length_append, hl] <;> rfl) ⟨_, hn, rfl, rfl⟩
    rw [List.zip_append hl1.symm] at z
    exact z
  · subst ex eH
    exact body_ok (ps := ps ++ [pv]) (hs p hp) (body cdv A outer s2 _ E hr')
theorem lsp_tup {S : DSpec} {F0 F : Hp} {ds rds : List Dat} {vs rvs : List V} {M : Mem} {H : Hp} {q : DK} {x : XQ} {Q : VK} {E : XK} {p : Addr} (om : OkM K F0 F M H) (rd : Reps K F ds vs) (rr : Reps K F rds rvs) (hp : H p = none) (h : S (ds ++ [.tup rds]) M q x) (kq : kV K F0 F q Q) (kx : kX K F F x E) :
    LSp K S (vs ++ [.ref p]) (upd H p (.tup rvs)) Q E := by
  have hF : F p = none := om.freeF hp
  have e : Ex F (upd F p (.tup rvs)) := Ex.new hF
  refine ⟨upd F p (.tup rvs), _, M, q, x, (om.new (u := .tup rvs) hp).entry, (rd.mono e).app (Reps.cons (rep_tup (Or.inl (Or.inl upd_same)) (rr.mono e)) Reps.nil), h, ?_, ?_⟩
  · intro F' H' v d M' e' o' r hq
    exact kq F' H' v d M' (e.trans e') ⟨om.base.trans (e.trans e'), o'.sub, o'.mem⟩ r hq
  · intro F' H' M' ex cls da h1 h2 h3 h4
    exact kx F' H' M' ex cls da (e.trans h1) ⟨e.trans h1, h2.sub, h2.mem⟩ h3 h4
end
section
variable {X : Cx} {F0 : Hp} {k k' n : Nat} {f C : Addr} {fd : FuncData} {ps ks : List Str} {pv x : Str} {S : DSpec} {dd ds rds zs : List Dat} {perm : List Nat} {M : Mem} {q : DK} {xq : XQ}
theorem drun_v (F : FnV X.prog X.w X.K X.mg X.base k f fd ps pv S) (hr : Room k X.A) (tk : XOk X F0 xq) (b : BndV X.K fd ps pv n ks dd perm) (h1 : ds.length = n) (h2 : zs.length = ks.length) (hz : rds.length ≤ 100000)
    (h : S (pick Dat.non (ds ++ zs ++ dd) perm ++ [.tup rds]) M q xq) : DRun X F0 (.ref f) ks (ds ++ rds) zs M q := by
  intro pins σ H s us ws Fz vs zvs Q I om rd rz vd vz kq
  obtain ⟨dv, du, hv, hD, hb⟩ := b.to
  obtain ⟨v1, v2, rfl, rd1, rd2⟩ : ∃ v1 v2, vs = v1 ++ v2 ∧ Reps X.K Fz ds v1 ∧ Reps X.K Fz rds v2 := by
    refine ⟨vs.take ds.length, vs.drop ds.length, (List.take_append_drop _ _).symm, ?_, ?_⟩
    · have := rd.take ds.length
      rwa [List.take_left] at this
    · have := rd.drop ds.length
      rwa [List.drop_left] at this
  obtain ⟨u1, u2, rfl, vd1, vd2⟩ := StX.vals_split vd
  have rel : Vals (pick V.non (v1 ++ zvs ++ dv) perm) (pick Value.none (u1 ++ ws ++ du) perm) := pick_vals ((vd1.append vz).append hv) perm
  have rep := pick_reps (reps_pos rd1 rz (hD Fz)) perm
  have hlen : (pick V.non (v1 ++ zvs ++ dv) perm).length = ps.length := by
    have := F.len _ _ _ _ h
    rw [List.length_append] at this
    have e := rep.length
    have : (pick Dat.non (ds ++ zs ++ dd) perm).length = ps.length := by
      have t : [Dat.tup rds].length = 1 := rfl
      omega
    omega
  have hb' := hb s u1 u2 ws I.kIn (by rw [← vd1.length, ← rd1.length, h1]) (by rw [← vz.length, ← rz.length, h2])
  have sp : ∀ p, H p = none → LSp X.K S (pick V.non (v1 ++ zvs ++ dv) perm ++ [.ref p]) (upd H p (.tup v2)) Q (wX X.K F0 xq) := fun p hp => lsp_tup om rep rd2 hp h kq (kX.entry om)
  refine wpAny_call (codeAny_mono (F.run X.A X.stack s H _ _ u2 _ v2 Q _ hr I.env0 (fun M A' Q' E' z => hb' M A' Q' E' z) rel vd2 hlen (by rw [← vd2.length, ← rd2.length]; exact Nat.le_trans hz (by decide)) sp) ?_)
  intro r s2 out
  cases r with
  | error e => exact passes_call tk (fun _ _ _ _ z => z) pins σ H s e s2 I out
  | ok fl =>
    cases fl with
    | ret u => exact I.after out
    | next => exact out.elim
    | brk => exact out.elim
    | cont => exact out.elim
/-- a class is called whose __init__ has a star parameter -/
theorem drun_mkV (mk : Mk X.K C f) (F : FnV X.prog X.w X.K X.mg X.base k f fd ps pv S) (hr : Room k' X.A) (hk : k + 1 ≤ k') (tk : XOk X F0 xq) (b : BndV X.K fd ps pv (n + 1) ks dd perm) (h1 : ds.length = n) (h2 : zs.length = ks.length) (hz : rds.length ≤ 100000)
    (h : ∀ a, M a = none → S (pick Dat.non ((.ptr a :: ds) ++ zs ++ dd) perm ++ [.tup rds]) (updM M a (.obj C [] [])) (fun v M2 => v = .non ∧ ∃ ns fs, M2 a = some (.obj C ns fs) ∧ q (.obj C ns fs) (delM M2 a)) xq) : DRun X F0 (.ref C) ks (ds ++ rds) zs M q := by
  intro pins σ H s us ws Fz vs zvs Q I om rd rz vd vz kq
  obtain ⟨dv, du, hv, hD, hb⟩ := b.to
  obtain ⟨v1, v2, rfl, rd1, rd2⟩ : ∃ v1 v2, vs = v1 ++ v2 ∧ Reps X.K Fz ds v1 ∧ Reps X.K Fz rds v2 := by
    refine ⟨vs.take ds.length, vs.drop ds.length, (List.take_append_drop _ _).symm, ?_, ?_⟩
    · have := rd.take ds.length
      rwa [List.take_left] at this
    · have := rd.drop ds.length
      rwa [List.drop_left] at this
  obtain ⟨u1, u2, rfl, vd1, vd2⟩ := StX.vals_split vd
  have hr1 : Room (k + 1) X.A := hr.mono hk
  -- the instance
  have a0 : H (s.heap.objs.size + 1) = none := I.hok.fresh (Nat.le_succ _)
  have d0 : H s.heap.objs.size = none := I.hok.fresh (Nat.le_refl _)
  have hne : s.heap.objs.size ≠ s.heap.objs.size + 1 := Nat.ne_of_lt (Nat.lt_succ_self _)
  have I2 := Inv.made (C := C) I
  generalize hx : s.heap.objs.size + 1 = xa at *
  generalize hd : s.heap.objs.size = da at *
  have om1 : OkM X.K F0 Fz M (upd H da (.own xa)) := om.extra d0
  have ha1 : (upd H da (.own xa)) xa = none := by rw [upd_ne (Ne.symm hne)]; exact a0
  have om2 : OkM X.K F0 Fz (updM M xa (.obj C [] [])) (upd (upd H da (.own xa)) xa (.ins C da [])) := om1.cell ha1 ⟨da, [], rfl, rfl, Reps.nil⟩
  have hMa : M xa = none := om.freeM a0
  have rep := pick_reps (reps_pos (Reps.cons (rep_ptr (K := X.K) (F := Fz) (a := xa)) rd1) rz (hD Fz)) perm
  have rel : Vals (pick V.non ((V.ref xa :: v1) ++ zvs ++ dv) perm) (pick Value.none ((Value.ref xa :: u1) ++ ws ++ du) perm) := pick_vals ((((show Vals (V.ref xa :: v1) (Value.ref xa :: u1) from .cons rfl vd1)).append vz).append hv) perm
  have hS := h xa hMa
  have hlen : (pick V.non ((V.ref xa :: v1) ++ zvs ++ dv) perm).length = ps.length := by
    have := F.len _ _ _ _ hS
    rw [List.length_append] at this
    have e := rep.length
    have : (pick Dat.non ((Dat.ptr xa :: ds) ++ zs ++ dd) perm).length = ps.length := by
      have t : [Dat.tup rds].length = 1 := rfl
      omega
    omega
  have kq2 : kV X.K F0 Fz (fun v M2 => v = Dat.non ∧ ∃ ns fs, M2 xa = some (.obj C ns fs) ∧ q (.obj C ns fs) (delM M2 xa)) (fun v H2 => v = V.non ∧ Q (.ref xa) H2) := by
    intro F' H' v d M' e' o' r ⟨hd', ns, fs, hM', hq⟩
    subst hd'
    refine ⟨r, ?_⟩
    obtain ⟨hF, u, hu, ru⟩ := o'.mem xa _ hM'
    obtain ⟨dx', xs, rfl, g2, g3⟩ := ru
    have o'' : OkM X.K F0 F' M' H' := ⟨o'.base, o'.sub, o'.mem⟩
    refine kq (upd F' xa (.ins C dx' (ns.zip xs))) H' (.ref xa) (.obj C ns fs) (delM M' xa) (e'.trans (Ex.new hF)) (o''.freeze hM' hu) ⟨xa, dx', xs, rfl, upd_same, g2, g3.mono (Ex.new hF)⟩ hq
  have sp : ∀ p, (upd (upd H da (.own xa)) xa (.ins C da [])) p = none → LSp X.K S (pick V.non ((V.ref xa :: v1) ++ zvs ++ dv) perm ++ [.ref p]) (upd (upd (upd H da (.own xa)) xa (.ins C da [])) p (.tup v2)) (fun v H2 => v = V.non ∧ Q (.ref xa) H2) (wX X.K F0 xq) :=
    fun p hp => lsp_tup om2 rep rd2 hp hS kq2 (kX.entry om2)
  have n1 : (Value.ref xa :: u1).length = n + 1 := by
    rw [List.length_cons, ← vd1.length, ← rd1.length, h1]
  subst hx
  subst hd
  refine wpAny_call (make_map (f := f) I.kIn mk.makes mk.init (beq_iff_eq.mp mk.fn) (codeAny_mono (F.run _ X.stack _ _ ⟨Value.ref (s.heap.objs.size + 1) :: (u1 ++ u2), ks.zip ws⟩ _ u2 _ v2 _ _ (hr1.make C (u1 ++ u2) (ks.zip ws))
    (I2.env0.make C (u1 ++ u2) (ks.zip ws)) (fun M A' Q' E' z => hb _ (Value.ref (s.heap.objs.size + 1) :: u1) u2 ws I2.kIn n1 (by rw [← vz.length, ← rz.length, h2]) M A' Q' E' z) rel vd2 hlen (by rw [← vd2.length, ← rd2.length]; exact Nat.le_trans hz (by decide)) sp) fun r s' hq' => ?_))
  cases r with
  | error e => exact passes_call tk (fun _ _ _ _ z => z) pins σ _ _ e s' I2 hq'
  | ok fl =>
    cases fl with
    | ret u =>
      obtain ⟨v, H', I3, rv, ev, q3⟩ := I2.after hq'
      subst ev
      exact ⟨rv, ⟨V.ref (s.heap.objs.size + 1), H', I3, rfl, q3⟩⟩
    | next => exact False.elim hq'
    | brk => exact False.elim hq'
    | cont => exact False.elim hq'
end
end DL
/-! DL21: calls of such defs and classes, static methods, keyword-only defaults -/
namespace DL
open PySem PySem.Spec PyProof.Rows L2
/-- where a def stands whose keyword-only parameters have defaults (the dict at D); no positional defaults -/
structure FunK (K : PySem.W.Frag) (x qual : Str) (st : Stmt) (f : Addr) (fd : FuncData) (D : Addr) : Prop where
  ex : ∃ (oc : Value) (od : Option Addr) (doc pm : Value) (an : Option Addr) (cdv ct : Value) (osl : Array (Option Value)),
    fd = PySem.W.fnOf x qual (defArgs st) (defBody st) (defScope st) .none (.ref D) doc pm an cdv ct ∧ K.lookup f = some ⟨oc, od, .func fd, osl⟩ ∧ PySem.W.codeIn K cdv qual = true
  kp : PySem.W.keepIn K (.ref f) = true
theorem FunK.mk' {K : PySem.W.Frag} {x qual : Str} {st : Stmt} {f D : Addr} {oc : Value} {od : Option Addr} {doc pm : Value} {an : Option Addr} {cdv ct : Value} {osl : Array (Option Value)}
    (l : K.lookup f = some ⟨oc, od, .func (PySem.W.fnOf x qual (defArgs st) (defBody st) (defScope st) .none (.ref D) doc pm an cdv ct), osl⟩) (c : PySem.W.codeIn K cdv qual = true) (k : PySem.W.keepIn K (.ref f) = true) :
    FunK K x qual st f (PySem.W.fnOf x qual (defArgs st) (defBody st) (defScope st) .none (.ref D) doc pm an cdv ct) D := ⟨⟨_, _, _, _, _, _, _, _, rfl, l, c⟩, k⟩
theorem FunK.toD {K : PySem.W.Frag} {x qual : Str} {st : Stmt} {f D : Addr} {fd : FuncData} (F : FunK K x qual st f fd D) : FunD K x qual st f fd := by
  obtain ⟨⟨oc, od, doc, pm, an, cdv, ct, osl, h1, h2, h3⟩, h4⟩ := F
  exact ⟨⟨oc, od, .none, .ref D, doc, pm, an, cdv, ct, osl, h1, h2, h3⟩, h4⟩
theorem FunN.bndV {K : PySem.W.Frag} {x qual : Str} {st : Stmt} {f : Addr} {fd : FuncData} {ps ks : List Str} {pv : Str} {n : Nat} {perm : List Nat} (F : FunN K x qual st f fd)
    (h : ∀ (kV doc pm : Value) (an : Option Addr) (cdv ct : Value) (us rest ws : List Value), us.length = n → ws.length = ks.length →
      bindArgs (PySem.W.fnOf x qual (defArgs st) (defBody st) (defScope st) .none kV doc pm an cdv ct) ⟨us ++ rest, ks.zip ws⟩ = (newTuple rest >>= fun t => pure (ps.zip (pick Value.none (us ++ ws) perm) ++ [(pv, t)]))) : BndV K fd ps pv n ks [] perm := by
  obtain ⟨⟨oc, od, kV, doc, pm, an, cdv, ct, osl, rfl, h2, h3⟩, h4⟩ := F
  refine ⟨[], [], .nil, fun _ => Reps.nil, fun s us rest ws X l1 l2 M A Q E hq => ?_⟩
  rw [h _ _ _ _ _ _ us rest ws l1 l2]
  refine wpAny_bind (wpAny_mono hq (fun t s' z => wpAny_pure ?_) fun _ _ z => z)
  rw [List.append_nil] at z
  exact z
/-- the names that the dict is asked for, and where their values stand among the defaults -/
def missing (ms : List (Str × Nat)) (its : List Value) : List (Str × Value) := ms.map fun q => (q.1, its.getD q.2 .none)
theorem missing_in {K : PySem.W.Frag} {D : Addr} {ms : List (Str × Nat)} {its : List Value} {nm : List Str} (hm : ∀ q ∈ ms, nm[q.2]? = some q.1) (hl : its.length = nm.length) (h : ∀ (i : Nat) (x : Str) (u : Value), nm[i]? = some x → its[i]? = some u → PySem.W.nsIn K D x = some (some u)) :
    ∀ q ∈ missing ms its, PySem.W.nsIn K D q.1 = some (some q.2) := fun q hq => by
  obtain ⟨⟨a, b⟩, hab, rfl⟩ := List.mem_map.mp hq
  have h1 := hm _ hab
  have hb : b < its.length := by
    rw [hl]
    exact (List.getElem?_eq_some_iff.mp h1).1
  refine h b a _ h1 ?_
  show its[b]? = some (its.getD b .none)
  rw [List.getD_eq_getElem?_getD, List.getElem?_eq_getElem hb]
  rfl
theorem FunK.bndV {K : PySem.W.Frag} {x qual : Str} {st : Stmt} {f D : Addr} {fd : FuncData} {ps ks nm : List Str} {pv : Str} {n : Nat} {perm : List Nat} {dd : List Dat} {dvs : List V} {its : List Value} (F : FunK K x qual st f fd D) (ms : List (Str × Nat))
    (hd : ∀ F, Reps K F dd dvs) (hv : Vals dvs its) (hm : ∀ q ∈ ms, nm[q.2]? = some q.1) (hl : its.length = nm.length) (hk : ∀ (i : Nat) (x : Str) (u : Value), nm[i]? = some x → its[i]? = some u → PySem.W.nsIn K D x = some (some u))
    (h : ∀ (doc pm : Value) (an : Option Addr) (cdv ct : Value) (us rest ws is : List Value), us.length = n → ws.length = ks.length → is.length = nm.length →
      KwCh D (missing ms is) (bindArgs (PySem.W.fnOf x qual (defArgs st) (defBody st) (defScope st) .none (.ref D) doc pm an cdv ct) ⟨us ++ rest, ks.zip ws⟩) (newTuple rest >>= fun t => pure (ps.zip (pick Value.none (us ++ ws ++ is) perm) ++ [(pv, t)]))) : BndV K fd ps pv n ks dd perm := by
  obtain ⟨⟨oc, od, doc, pm, an, cdv, ct, osl, rfl, h2, h3⟩, h4⟩ := F
  refine ⟨dvs, its, hv, hd, fun s us rest ws X l1 l2 M A Q E hq => ?_⟩
  refine KwCh.wp X (missing_in hm hl hk) (h _ _ _ _ _ us rest ws its l1 l2 hl) ?_
  exact wpAny_bind (wpAny_mono hq (fun t s' z => wpAny_pure z) fun _ _ z => z)
theorem KwCh.lk {α : Type} {K : PySem.W.Frag} {M : Model} {h : Heap} {D : Addr} (X : K.In h) : ∀ {l : List (Str × Value)} {t : Sem α} {r : α}, (∀ q ∈ l, PySem.W.nsIn K D q.1 = some (some q.2)) → KwCh D l t (pure r) → PySem.W.Looks M h t r
  | [], t, r, _, e => PySem.W.Looks.of_pure e
  | q :: l, t, r, hl, e => by
    obtain ⟨β, γ, k1, k2, k3, a, e1, e2, e3⟩ := e
    have l1 : PySem.W.Looks M h (nsGet D q.1 >>= k1) a := (PySem.W.looks_nsIn X (hl q (List.mem_cons_self ..))).andThen (PySem.W.Looks.of_pure e2)
    rw [e1, bind_assoc]
    exact l1.andThen (KwCh.lk X (fun p hp => hl p (List.mem_cons_of_mem _ hp)) e3)
theorem FunK.bnd {K : PySem.W.Frag} {x qual : Str} {st : Stmt} {f D : Addr} {fd : FuncData} {ps ks nm : List Str} {n : Nat} {perm : List Nat} {dd : List Dat} {dvs : List V} {its : List Value} (F : FunK K x qual st f fd D) (ms : List (Str × Nat))
    (hd : ∀ F, Reps K F dd dvs) (hv : Vals dvs its) (hm : ∀ q ∈ ms, nm[q.2]? = some q.1) (hl : its.length = nm.length) (hk : ∀ (i : Nat) (x : Str) (u : Value), nm[i]? = some x → its[i]? = some u → PySem.W.nsIn K D x = some (some u))
    (h : ∀ (doc pm : Value) (an : Option Addr) (cdv ct : Value) (us ws is : List Value), us.length = n → ws.length = ks.length → is.length = nm.length →
      KwCh D (missing ms is) (bindArgs (PySem.W.fnOf x qual (defArgs st) (defBody st) (defScope st) .none (.ref D) doc pm an cdv ct) ⟨us, ks.zip ws⟩) (pure (ps.zip (pick Value.none (us ++ ws ++ is) perm)))) : Bnd K fd ps n ks dd perm := by
  obtain ⟨⟨oc, od, doc, pm, an, cdv, ct, osl, rfl, h2, h3⟩, h4⟩ := F
  refine ⟨dvs, its, hv, hd, fun s us ws X l1 l2 => ?_⟩
  exact BindsTo.of_looks fun M => KwCh.lk X (missing_in hm hl hk) (h _ _ _ _ _ us ws its l1 l2 hl)
/-- a def with a star parameter, by its name -/
structure CalV (P : Program) (w : World) (K : PySem.W.Frag) (mg : Str → Option Value) (base : Heap) (x : Str) (k : Nat) (f : Addr) (fd : FuncData) (ps : List Str) (pv : Str) (S : DSpec) : Prop where
  at_ : mg x = some (.ref f)
  kp : PySem.W.keepIn K (.ref f) = true
  ok : FnV P w K mg base k f fd ps pv S
structure MkV (P : Program) (w : World) (K : PySem.W.Frag) (mg : Str → Option Value) (base : Heap) (x : Str) (C fi : Addr) (fd : FuncData) (k : Nat) (ps : List Str) (pv : Str) (S : DSpec) : Prop where
  mks : Mk K C fi
  ok : FnV P w K mg base k fi fd ps pv S
  at_ : mg x = some (.ref C)
/-- what the call of such a class asks of its __init__ -/
def NewV (C : Addr) (S : DSpec) (n : Nat) (dd : List Dat) (perm : List Nat) (ds zs : List Dat) (M : Mem) (q : DK) (xq : XQ) : Prop :=
  ∀ a, M a = none → S (pick Dat.non ((.ptr a :: ds.take n) ++ zs ++ dd) perm ++ [.tup (ds.drop n)]) (updM M a (.obj C [] [])) (fun v M2 => v = .non ∧ ∃ ns fs, M2 a = some (.obj C ns fs) ∧ q (.obj C ns fs) (delM M2 a)) xq
/-- a static method: its record at p, its def at g -/
structure Stm (K : PySem.W.Frag) (C : Addr) (m : Str) (g : Addr) : Prop where
  ex : ∃ (mc : Value) (p : Addr) (rest : List Value), ClX.CRead K C mc ∧ PySem.W.findCls K (.ref C) mc m = some (.get (.builtin "staticmethod.__get__") (.ref p) .none (.ref C)) ∧ PySem.W.recIn K p "staticmethod" = some (.ref g :: rest)
  kp : PySem.W.keepIn K (.ref g) = true
theorem Stm.mk' {K : PySem.W.Frag} {C : Addr} {m : Str} {g : Addr} {mc : Value} {p : Addr} {rest : List Value} (h1 : PySem.W.readsIn K C mc = true) (h2 : PySem.W.specialIn K (.ref C) "__getattribute__" = some (some (.builtin "type.__getattribute__")))
    (h3 : PySem.W.findCls K (.ref C) mc m = some (.get (.builtin "staticmethod.__get__") (.ref p) .none (.ref C))) (h4 : PySem.W.recIn K p "staticmethod" = some (.ref g :: rest)) (h5 : PySem.W.keepIn K (.ref g) = true) : Stm K C m g := ⟨⟨mc, p, rest, ⟨h1, h2⟩, h3, h4⟩, h5⟩
structure StV (P : Program) (w : World) (K : PySem.W.Frag) (mg : Str → Option Value) (base : Heap) (C : Addr) (m : Str) (k : Nat) (f : Addr) (fd : FuncData) (ps : List Str) (pv : Str) (S : DSpec) : Prop where
  st : Stm K C m f
  ok : FnV P w K mg base k f fd ps pv S
structure StF (P : Program) (w : World) (K : PySem.W.Frag) (mg : Str → Option Value) (base : Heap) (C : Addr) (m : Str) (k : Nat) (f : Addr) (fd : FuncData) (ps : List Str) (S : DSpec) : Prop where
  st : Stm K C m f
  ok : FnOk P w K mg base (L2.CX P w) k f fd ps (LSp K S)
section
variable {X : Cx} {F0 : Hp} {ρ : DEnv} {M : Mem} {q : DK} {k k' n : Nat} {f C : Addr} {fd : FuncData} {ps ks : List Str} {pv : Str} {S : DSpec} {e o : Expr} {es : List Expr} {kws : List Keyword} {pos p apos : Pos} {xq : XQ} {m x : Str} {dd ds zs : List Dat} {perm : List Nat}
theorem MkV.run (R : MkV X.prog X.w X.K X.mg X.base x C f fd k ps pv S) (b : BndV X.K fd ps pv (n + 1) ks dd perm) (hr : Room k' X.A) (hk : k + 1 ≤ k') (tk : XOk X F0 xq) (h1 : n ≤ ds.length) (h2 : zs.length = ks.length) (hz : ds.length ≤ 100000)
    (h : NewV C S n dd perm ds zs M q xq) : DRun X F0 (.ref C) ks ds zs M q := by
  have := drun_mkV (ds := ds.take n) (rds := ds.drop n) R.mks R.ok hr hk tk b (by rw [List.length_take]; omega) h2 (by rw [List.length_drop]; omega) h
  rwa [List.take_append_drop] at this
theorem CalV.run (R : CalV X.prog X.w X.K X.mg X.base x k f fd ps pv S) (b : BndV X.K fd ps pv n ks dd perm) (hr : Room k' X.A) (hk : k ≤ k') (tk : XOk X F0 xq) (h1 : n ≤ ds.length) (h2 : zs.length = ks.length) (hz : ds.length ≤ 100000)
    (h : S (pick Dat.non (ds.take n ++ zs ++ dd) perm ++ [.tup (ds.drop n)]) M q xq) : DRun X F0 (.ref f) ks ds zs M q := by
  have := drun_v (ds := ds.take n) (rds := ds.drop n) R.ok (hr.mono hk) tk b (by rw [List.length_take]; omega) h2 (by rw [List.length_drop]; omega) h
  rwa [List.take_append_drop] at this
theorem de_newV (R : MkV X.prog X.w X.K X.mg X.base x C f fd k ps pv S) (b : BndV X.K fd ps pv (n + 1) [] dd perm) (hg : Gl X x) (hr : Room k' X.A) (hk : k + 1 ≤ k') (tk : XOk X F0 xq)
    (h : DA X F0 (e :: es) ρ M fun ds M1 => n ≤ ds.length ∧ ds.length ≤ 100000 ∧ NewV C S n dd perm ds [] M1 q xq)
    (hdb : (x == ("__debug__" : Str)) = false := by decide) (he : starEach (e :: es) X.env = (false, eval e X.env) :: starEach es X.env := by rfl) (hpl : (backTo pos (starEach es X.env)).any (·.1) = false := by rfl) :
    DE X F0 (.Call (.Name x p) (e :: es) [] pos) ρ M q :=
  de_call hg R.at_ R.mks.kp (da_imp h fun ds M' ⟨h1, h2, h3⟩ => R.run b hr hk tk h1 rfl h2 h3) hdb he hpl
theorem de_newVK (R : MkV X.prog X.w X.K X.mg X.base x C f fd k ps pv S) (b : BndV X.K fd ps pv (n + 1) ks dd perm) (hg : Gl X x) (hr : Room k' X.A) (hk : k + 1 ≤ k') (tk : XOk X F0 xq) (hks : (backToKw pos (keywordEach kws X.env)).filterMap (·.1) = ks)
    (h : DA X F0 (e :: es) ρ M fun ds M1 => DKw X F0 kws ρ M1 fun zs M2 => n ≤ ds.length ∧ ds.length ≤ 100000 ∧ zs.length = ks.length ∧ NewV C S n dd perm ds zs M2 q xq)
    (hall : (backToKw pos (keywordEach kws X.env)).all (·.1.isSome) = true := by rfl) (hdb : (x == ("__debug__" : Str)) = false := by decide) (he : starEach (e :: es) X.env = (false, eval e X.env) :: starEach es X.env := by rfl)
    (hpl : ((backTo pos (starEach (e :: es) X.env)).any (·.1) || (backToKw pos (keywordEach kws X.env)).any (·.1.isNone)) = false := by rfl) :
    DE X F0 (.Call (.Name x p) (e :: es) kws pos) ρ M q :=
  de_callK hg R.at_ R.mks.kp hks (da_imp h fun ds M' h' => dk_imp h' fun zs M'' ⟨h1, h2, h3, h4⟩ => R.run b hr hk tk h1 h3 h2 h4) hall hdb he hpl
theorem de_newV0K (R : MkV X.prog X.w X.K X.mg X.base x C f fd k ps pv S) (b : BndV X.K fd ps pv 1 ks dd perm) (hg : Gl X x) (hr : Room k' X.A) (hk : k + 1 ≤ k') (tk : XOk X F0 xq) (hks : (backToKw pos (keywordEach kws X.env)).filterMap (·.1) = ks)
    (h : DKw X F0 kws ρ M fun zs M2 => zs.length = ks.length ∧ NewV C S 0 dd perm [] zs M2 q xq)
    (hall : (backToKw pos (keywordEach kws X.env)).all (·.1.isSome) = true := by rfl) (hdb : (x == ("__debug__" : Str)) = false := by decide)
    (hpl : ((backTo pos (starEach [] X.env)).any (·.1) || (backToKw pos (keywordEach kws X.env)).any (·.1.isNone)) = false := by rfl) :
    DE X F0 (.Call (.Name x p) [] kws pos) ρ M q :=
  de_callK0 hg R.at_ R.mks.kp hks (dk_imp h fun zs M'' ⟨h3, h4⟩ => R.run (n := 0) b hr hk tk (Nat.le_refl 0) h3 (by decide) h4) hall hdb hpl
theorem de_newV0 (R : MkV X.prog X.w X.K X.mg X.base x C f fd k ps pv S) (b : BndV X.K fd ps pv 1 [] dd perm) (hg : Gl X x) (hr : Room k' X.A) (hk : k + 1 ≤ k') (tk : XOk X F0 xq) (h : NewV C S 0 dd perm [] [] M q xq)
    (hdb : (x == ("__debug__" : Str)) = false := by decide) : DE X F0 (.Call (.Name x p) [] [] pos) ρ M q :=
  de_call0 hg R.at_ R.mks.kp (R.run (n := 0) b hr hk tk (Nat.le_refl 0) rfl (by decide) h) hdb
theorem getsm_ok {pins : List (Addr × Obj)} {σ : L2.St} {H : Hp} {s : Shared} {g : Addr} {A : Around} {E : Value → Shared → Prop} {pl : Sem Bool} {Q : Value × List Value → Shared → Prop} (I : Inv X pins σ H s) (t : Stm X.K C m g)
    (h : ∀ s', Inv X pins σ H s' → Q (.ref g, []) s') : wpAny (model X.prog X.w) A (getMethod (.ref C) m pl) Q E s := by
  obtain ⟨mc, p, rest, r, h1, h2⟩ := t.ex
  refine PySem.W.method_cls I.kIn r.ga ?_
  exact PySem.W.cls_bind I.kIn r.rd h1 (wpAny_call (PySem.W.sm_get (s := { s with toks := s.toks + 1 }) I.kIn h2 (PySem.W.handed_on rfl (h _ (I.tok _)))))
/-- C.m(e, .., x = ..), m a static method -/
theorem de_sm {g : Addr} {pl : Sem Bool} (t : Stm X.K C m g) (h : DE X F0 o ρ M fun d M1 => d = .ptr C ∧ DA X F0 (e :: es) ρ M1 fun ds M2 => DKw X F0 kws ρ M2 fun zs M3 => DRun X F0 (.ref g) (kws.filterMap (·.arg)) ds zs M3 q)
    (hst : starEach (e :: es) X.env = (false, eval e X.env) :: starEach es X.env := by rfl)
    (hks : (backToKw pos (keywordEach kws X.env)).filterMap (·.1) = kws.filterMap (·.arg) := by rfl) (hall : (backToKw pos (keywordEach kws X.env)).all (·.1.isSome) = true := by rfl)
    (hpl : ((backTo pos (starEach (e :: es) X.env)).any (·.1) || (backToKw pos (keywordEach kws X.env)).any (·.1.isNone)) = false := by rfl)
    (ht : eval (.Call (.Attribute o m apos) (e :: es) kws pos) X.env = (do
      let ov ← eval o X.env
      standAt apos.atName
      let (f, first) ← holding [ov] (getMethod ov m pl)
      callWith pos f first (backTo pos (starEach (e :: es) X.env)) (backToKw pos (keywordEach kws X.env))) := by rfl) : DE X F0 (.Call (.Attribute o m apos) (e :: es) kws pos) ρ M q := by
  refine ⟨fun pins s σ H Q I ⟨F, om, ol, kq⟩ => ?_⟩
  refine PySem.W.methodCall_KW (pl := pl) (thn ((uE (X := X) (F0 := F0) (e := o)).run pins s σ H (fun v H1 => ∃ F1 d M1, Ex F F1 ∧ OkM X.K F0 F1 M1 H1 ∧ Rep X.K F1 d v ∧ d = .ptr C ∧ DA X F0 (e :: es) ρ M1 fun ds M2 => DKw X F0 kws ρ M2 fun zs M3 => DRun X F0 (.ref g) (kws.filterMap (·.arg)) ds zs M3 q) I
    (tU.go h om ol fun F1 H1 v d M1 e1 om1 r1 h1 => ⟨F1, d, M1, e1, om1, r1, h1⟩)) fun u s1 ⟨v, H1, I1, rv, F1, d, M1, e1, om1, r1, hd, h1⟩ => ?_) ht
  subst hd
  obtain rfl : v = .ref C := r1
  obtain rfl : u = Value.ref C := rv
  refine getsm_ok I1 t fun s1' I1' => ?_
  refine PySem.W.callWith_KW (first := []) (h₀ := X.base) I1'.ok.mod.kin t.kp hall (thn ((uA (X := X) (F0 := F0) (es := e :: es)).run pos pins s1' σ H1 (fun vs H2 => ∃ F2 ds M2, Ex F1 F2 ∧ OkM X.K F0 F2 M2 H2 ∧ Reps X.K F2 ds vs ∧ DKw X F0 kws ρ M2 fun zs M3 => DRun X F0 (.ref g) (kws.filterMap (·.arg)) ds zs M3 q) I1'
    (tUA.go h1 om1 (ol.mono e1) fun F2 H2 vs ds M2 e2 om2 r2 h2 => ⟨F2, ds, M2, e2, om2, r2, h2⟩)) fun us s2 ⟨vs, H2, I2, rvs, F2, ds, M2, e2, om2, r2, h2⟩ => ?_) hpl hst
  have hb := (uK (X := X) (F0 := F0) (kws := kws)).run pos pins s2 σ H2 (fun zv H3 => ∃ F3 zs M3, Ex F2 F3 ∧ OkM X.K F0 F3 M3 H3 ∧ Reps X.K F3 zs zv ∧ DRun X F0 (.ref g) (kws.filterMap (·.arg)) ds zs M3 q) I2
    (tUK.go h2 om2 (ol.mono (e1.trans e2)) fun F3 H3 zv zs M3 e3 om3 r3 h3 => ⟨F3, zs, M3, e3, om3, r3, h3⟩)
  refine thn hb fun ws s3 ⟨zv, H3, I3, rz, F3, zs, M3, e3, om3, r3, h3⟩ => ⟨I3.kIn, ?_⟩
  rw [hks, List.nil_append]
  exact h3 pins σ H3 s3 us ws F3 vs zv Q I3 om3 (r2.mono e3) r3 rvs rz (kq.mono (e1.trans (e2.trans e3)))
theorem de_sm0 {g : Addr} {pl : Sem Bool} (t : Stm X.K C m g) (h : DE X F0 o ρ M fun d M1 => d = .ptr C ∧ DKw X F0 kws ρ M1 fun zs M3 => DRun X F0 (.ref g) (kws.filterMap (·.arg)) [] zs M3 q)
    (hks : (backToKw pos (keywordEach kws X.env)).filterMap (·.1) = kws.filterMap (·.arg) := by rfl) (hall : (backToKw pos (keywordEach kws X.env)).all (·.1.isSome) = true := by rfl)
    (hpl : ((backTo pos (starEach [] X.env)).any (·.1) || (backToKw pos (keywordEach kws X.env)).any (·.1.isNone)) = false := by rfl)
    (ht : eval (.Call (.Attribute o m apos) [] kws pos) X.env = (do
      let ov ← eval o X.env
      standAt apos.atName
      let (f, first) ← holding [ov] (getMethod ov m pl)
      callWith pos f first (backTo pos (starEach [] X.env)) (backToKw pos (keywordEach kws X.env))) := by rfl) : DE X F0 (.Call (.Attribute o m apos) [] kws pos) ρ M q := by
  refine ⟨fun pins s σ H Q I ⟨F, om, ol, kq⟩ => ?_⟩
  refine PySem.W.methodCall_KW (pl := pl) (thn ((uE (X := X) (F0 := F0) (e := o)).run pins s σ H (fun v H1 => ∃ F1 d M1, Ex F F1 ∧ OkM X.K F0 F1 M1 H1 ∧ Rep X.K F1 d v ∧ d = .ptr C ∧ DKw X F0 kws ρ M1 fun zs M3 => DRun X F0 (.ref g) (kws.filterMap (·.arg)) [] zs M3 q) I
    (tU.go h om ol fun F1 H1 v d M1 e1 om1 r1 h1 => ⟨F1, d, M1, e1, om1, r1, h1⟩)) fun u s1 ⟨v, H1, I1, rv, F1, d, M1, e1, om1, r1, hd, h1⟩ => ?_) ht
  subst hd
  obtain rfl : v = .ref C := r1
  obtain rfl : u = Value.ref C := rv
  refine getsm_ok I1 t fun s1' I1' => ?_
  refine PySem.W.callWith_KW0 (first := []) (h₀ := X.base) I1'.ok.mod.kin t.kp hall (thn ((uK (X := X) (F0 := F0) (kws := kws)).run pos pins s1' σ H1 (fun zv H3 => ∃ F3 zs M3, Ex F1 F3 ∧ OkM X.K F0 F3 M3 H3 ∧ Reps X.K F3 zs zv ∧ DRun X F0 (.ref g) (kws.filterMap (·.arg)) [] zs M3 q) I1'
    (tUK.go h1 om1 (ol.mono e1) fun F3 H3 zv zs M3 e3 om3 r3 h3 => ⟨F3, zs, M3, e3, om3, r3, h3⟩)) fun ws s3 ⟨zv, H3, I3, rz, F3, zs, M3, e3, om3, r3, h3⟩ => ⟨I3.kIn, ?_⟩) hpl
  rw [hks, List.nil_append]
  exact h3 pins σ H3 s3 [] ws F3 [] zv Q I3 om3 Reps.nil r3 .nil rz (kq.mono (e1.trans e3))
/-- C.m(e, ..), m a static method with a star parameter -/
theorem de_smV {g : Addr} {pl : Sem Bool} (t : StV X.prog X.w X.K X.mg X.base C m k g fd ps pv S) (b : BndV X.K fd ps pv n ks dd perm) (hr : Room k' X.A) (hk : k ≤ k') (tk : XOk X F0 xq)
    (h : DE X F0 o ρ M fun d M1 => d = .ptr C ∧ DA X F0 (e :: es) ρ M1 fun ds M2 => DKw X F0 kws ρ M2 fun zs M3 => n ≤ ds.length ∧ ds.length ≤ 100000 ∧ zs.length = ks.length ∧ S (pick Dat.non (ds.take n ++ zs ++ dd) perm ++ [.tup (ds.drop n)]) M3 q xq)
    (hst : starEach (e :: es) X.env = (false, eval e X.env) :: starEach es X.env := by rfl) (hkn : kws.filterMap (·.arg) = ks := by rfl)
    (hks : (backToKw pos (keywordEach kws X.env)).filterMap (·.1) = kws.filterMap (·.arg) := by rfl) (hall : (backToKw pos (keywordEach kws X.env)).all (·.1.isSome) = true := by rfl)
    (hpl : ((backTo pos (starEach (e :: es) X.env)).any (·.1) || (backToKw pos (keywordEach kws X.env)).any (·.1.isNone)) = false := by rfl)
    (ht : eval (.Call (.Attribute o m apos) (e :: es) kws pos) X.env = (do
      let ov ← eval o X.env
      standAt apos.atName
      let (f, first) ← holding [ov] (getMethod ov m pl)
      callWith pos f first (backTo pos (starEach (e :: es) X.env)) (backToKw pos (keywordEach kws X.env))) := by rfl) : DE X F0 (.Call (.Attribute o m apos) (e :: es) kws pos) ρ M q := by
  refine de_sm t.st (PE.wk h fun σ H Q ⟨F, om, ol, kq⟩ => ⟨F, om, ol, fun F' H' v d M' e' o' r ⟨hd, h'⟩ => kq F' H' v d M' e' o' r ⟨hd, da_imp h' fun ds M2 h2 => dk_imp h2 fun zs M3 ⟨l1, l2, l3, l4⟩ => ?_⟩⟩) hst hks hall hpl ht
  rw [hkn]
  have := drun_v (ds := ds.take n) (rds := ds.drop n) t.ok (hr.mono hk) tk b (by rw [List.length_take]; omega) l3 (by rw [List.length_drop]; omega) l4
  rwa [List.take_append_drop] at this
theorem de_smV0 {g : Addr} {pl : Sem Bool} (t : StV X.prog X.w X.K X.mg X.base C m k g fd ps pv S) (b : BndV X.K fd ps pv 0 ks dd perm) (hr : Room k' X.A) (hk : k ≤ k') (tk : XOk X F0 xq)
    (h : DE X F0 o ρ M fun d M1 => d = .ptr C ∧ DKw X F0 kws ρ M1 fun zs M3 => zs.length = ks.length ∧ S (pick Dat.non (zs ++ dd) perm ++ [.tup []]) M3 q xq) (hkn : kws.filterMap (·.arg) = ks := by rfl)
    (hks : (backToKw pos (keywordEach kws X.env)).filterMap (·.1) = kws.filterMap (·.arg) := by rfl) (hall : (backToKw pos (keywordEach kws X.env)).all (·.1.isSome) = true := by rfl)
    (hpl : ((backTo pos (starEach [] X.env)).any (·.1) || (backToKw pos (keywordEach kws X.env)).any (·.1.isNone)) = false := by rfl)
    (ht : eval (.Call (.Attribute o m apos) [] kws pos) X.env = (do
      let ov ← eval o X.env
      standAt apos.atName
      let (f, first) ← holding [ov] (getMethod ov m pl)
      callWith pos f first (backTo pos (starEach [] X.env)) (backToKw pos (keywordEach kws X.env))) := by rfl) : DE X F0 (.Call (.Attribute o m apos) [] kws pos) ρ M q := by
  refine de_sm0 t.st (PE.wk h fun σ H Q ⟨F, om, ol, kq⟩ => ⟨F, om, ol, fun F' H' v d M' e' o' r ⟨hd, h'⟩ => kq F' H' v d M' e' o' r ⟨hd, dk_imp h' fun zs M3 ⟨l3, l4⟩ => ?_⟩⟩) hks hall hpl ht
  rw [hkn]
  exact drun_v (ds := []) (rds := []) t.ok (hr.mono hk) tk b rfl l3 (by decide) l4
/-- C.m(e, ..), m a static method -/
theorem de_smF {g : Addr} {pl : Sem Bool} (t : StF X.prog X.w X.K X.mg X.base C m k g fd ps S) (b : Bnd X.K fd ps n ks dd perm) (hr : Room k' X.A) (hk : k ≤ k') (tk : XOk X F0 xq)
    (h : DE X F0 o ρ M fun d M1 => d = .ptr C ∧ DA X F0 (e :: es) ρ M1 fun ds M2 => DKw X F0 kws ρ M2 fun zs M3 => ds.length = n ∧ zs.length = ks.length ∧ S (pick Dat.non (ds ++ zs ++ dd) perm) M3 q xq)
    (hst : starEach (e :: es) X.env = (false, eval e X.env) :: starEach es X.env := by rfl) (hkn : kws.filterMap (·.arg) = ks := by rfl)
    (hks : (backToKw pos (keywordEach kws X.env)).filterMap (·.1) = kws.filterMap (·.arg) := by rfl) (hall : (backToKw pos (keywordEach kws X.env)).all (·.1.isSome) = true := by rfl)
    (hpl : ((backTo pos (starEach (e :: es) X.env)).any (·.1) || (backToKw pos (keywordEach kws X.env)).any (·.1.isNone)) = false := by rfl)
    (ht : eval (.Call (.Attribute o m apos) (e :: es) kws pos) X.env = (do
      let ov ← eval o X.env
      standAt apos.atName
      let (f, first) ← holding [ov] (getMethod ov m pl)
      callWith pos f first (backTo pos (starEach (e :: es) X.env)) (backToKw pos (keywordEach kws X.env))) := by rfl) : DE X F0 (.Call (.Attribute o m apos) (e :: es) kws pos) ρ M q := by
  refine de_sm t.st (PE.wk h fun σ H Q ⟨F, om, ol, kq⟩ => ⟨F, om, ol, fun F' H' v d M' e' o' r ⟨hd, h'⟩ => kq F' H' v d M' e' o' r ⟨hd, da_imp h' fun ds M2 h2 => dk_imp h2 fun zs M3 ⟨l1, l3, l4⟩ => ?_⟩⟩) hst hks hall hpl ht
  rw [hkn]
  exact drun_f t.ok (hr.mono hk) tk b l1 l3 l4
end
theorem nsNil {K : PySem.W.Frag} {D : Addr} : ∀ (i : Nat) (x : Str) (u : Value), ([] : List Str)[i]? = some x → ([] : List Value)[i]? = some u → PySem.W.nsIn K D x = some (some u) := fun i x u h => by simp at h
theorem nsCons {K : PySem.W.Frag} {D : Addr} {y : Str} {v : Value} {nm : List Str} {its : List Value} (h : PySem.W.nsIn K D y = some (some v)) (t : ∀ (i : Nat) (x : Str) (u : Value), nm[i]? = some x → its[i]? = some u → PySem.W.nsIn K D x = some (some u)) :
    ∀ (i : Nat) (x : Str) (u : Value), (y :: nm)[i]? = some x → (v :: its)[i]? = some u → PySem.W.nsIn K D x = some (some u)
  | 0, x, u, h1, h2 => by
    have e1 : y = x := by simpa using h1
    have e2 : v = u := by simpa using h2
    rw [← e1, ← e2]
    exact h
  | i + 1, x, u, h1, h2 => t i x u (by simpa using h1) (by simpa using h2)
theorem rep_unit {K : PySem.W.Frag} {F : Hp} {a : Addr} {d : Option Addr} {n : Nat} {sl : Array (Option Value)} (h : K.lookup a = some ⟨.type "tuple", d, .seq #[] n, sl⟩) : Rep K F (.tup []) (.ref a) := ⟨a, [], rfl, Or.inr ⟨_, #[], n, h, rfl, rfl, by decide, .nil⟩, Reps.nil⟩
end DL
/-! DL22: texts of data that are short enough; repr(a) == repr(b) -/
namespace DL
open PySem PySem.Spec PyProof.Rows L2
structure Shw (k n : Nat) (p : PyData) : Prop where
  s : p.showable = true
  d : p.depth ≤ k
  l : p.shown.length ≤ n
theorem Shw.mono {k n k' n' : Nat} {p : PyData} (h : Shw k n p) (hk : k ≤ k') (hn : n ≤ n') : Shw k' n' p := ⟨h.s, Nat.le_trans h.d hk, Nat.le_trans h.l hn⟩
theorem Shw.non : Shw 0 4 .none := ⟨rfl, Nat.le_refl _, Nat.le_refl _⟩
theorem Shw.bl {b : Bool} : Shw 0 5 (.bool b) := ⟨rfl, Nat.le_refl _, by cases b <;> decide⟩
theorem Shw.int {i : Int} (h : IB 1900 i) : Shw 0 1930 (.int i) := by
  have h1 := h.log (Nat.le_refl _)
  refine ⟨decide_eq_true h1, Nat.le_refl _, ?_⟩
  rw [PyData.shown_int]
  exact Nat.le_trans (int_text_len_1921 h1) (by decide)
theorem Shw.str {z : Str} {n : Nat} (h : z.length ≤ n) (hc : ∀ c ∈ z.cps.toList, c < 1114112) : Shw 0 (10 * n + 10) (.str z) := by
  refine ⟨rfl, Nat.le_refl _, ?_⟩
  have h1 : (PyData.str z).leavesShort 8 = true := by
    simp only [PyData.leavesShort, List.all_eq_true, decide_eq_true_eq]
    intro c hcm
    have := hc c hcm
    have e : (16 : Nat) ^ 8 = 4294967296 := by decide
    omega
  have h2 := PyData.shown_le 8 (Nat.le_refl _) _ h1
  have e2 : (PyData.str z).weight = z.cps.size := rfl
  have e3 : z.length = z.cps.size := rfl
  rw [e2] at h2
  omega
theorem shown_sum {n : Nat} : ∀ {ps : List PyData}, (∀ p ∈ ps, p.shown.length ≤ n) → ((PyData.shownAll ps).map (·.length)).sum ≤ n * ps.length
  | [], _ => Nat.le_refl _
  | p :: ps, h => by
    have h1 := h p List.mem_cons_self
    have h2 := shown_sum fun x hx => h x (List.mem_cons_of_mem _ hx)
    show p.shown.length + ((PyData.shownAll ps).map (·.length)).sum ≤ n * (ps.length + 1)
    rw [Nat.mul_add]
    omega
theorem showAll {k n : Nat} : ∀ {ps : List PyData}, (∀ p ∈ ps, Shw k n p) → PyData.showableAll ps = true ∧ PyData.depthAll ps ≤ k
  | [], _ => ⟨rfl, Nat.zero_le _⟩
  | p :: ps, h => by
    obtain ⟨h1, h2⟩ := showAll fun x hx => h x (List.mem_cons_of_mem _ hx)
    have h3 := h p List.mem_cons_self
    exact ⟨Bool.and_eq_true_iff.mpr ⟨h3.s, h1⟩, Nat.max_le.mpr ⟨h3.d, h2⟩⟩
theorem Shw.list {k n : Nat} {ps : List PyData} (h : ∀ p ∈ ps, Shw k n p) : Shw (k + 1) ((n + 2) * ps.length + 3) (.list ps) := by
  obtain ⟨h1, h2⟩ := showAll h
  refine ⟨h1, Nat.succ_le_succ h2, ?_⟩
  have h3 := shown_sum fun p hp => (h p hp).l
  have h4 := listText_len_le (PyData.shownAll ps)
  have h5 := PyData.shownAll_length ps
  show (listText (PyData.shownAll ps)).length ≤ _
  rw [h5] at h4
  rw [Nat.add_mul]
  omega
theorem Shw.tuple {k n : Nat} {ps : List PyData} (h : ∀ p ∈ ps, Shw k n p) : Shw (k + 1) ((n + 2) * ps.length + 3) (.tuple ps) := by
  obtain ⟨h1, h2⟩ := showAll h
  refine ⟨h1, Nat.succ_le_succ h2, ?_⟩
  have h3 := shown_sum fun p hp => (h p hp).l
  have h4 := tupleText_len_le (PyData.shownAll ps)
  have h5 := PyData.shownAll_length ps
  show (tupleText (PyData.shownAll ps)).length ≤ _
  rw [h5] at h4
  rw [Nat.add_mul]
  omega
/-- the same of data -/
def ShD (k n : Nat) (d : Dat) : Prop := ∃ p, toPy d = some p ∧ Shw k n p
theorem ShD.mono {k n k' n' : Nat} {d : Dat} (h : ShD k n d) (hk : k ≤ k') (hn : n ≤ n') : ShD k' n' d := by
  obtain ⟨p, h1, h2⟩ := h
  exact ⟨p, h1, h2.mono hk hn⟩
theorem ShD.non : ShD 0 4 .non := ⟨_, rfl, Shw.non⟩
theorem ShD.bl {b : Bool} : ShD 0 5 (.bl b) := ⟨_, rfl, Shw.bl⟩
theorem ShD.int {i : Int} (h : IB 1900 i) : ShD 0 1930 (.int i) := ⟨_, rfl, Shw.int h⟩
theorem ShD.str {z : Str} {n : Nat} (h : z.length ≤ n) (hc : ∀ c ∈ z.cps.toList, c < 1114112) : ShD 0 (10 * n + 10) (.str z) := ⟨_, rfl, Shw.str h hc⟩
theorem toPys_all {k n : Nat} : ∀ {ds : List Dat}, (∀ d ∈ ds, ShD k n d) → ∃ ps, toPys ds = some ps ∧ ps.length = ds.length ∧ ∀ p ∈ ps, Shw k n p
  | [], _ => ⟨[], rfl, rfl, fun p hp => by cases hp⟩
  | d :: ds, h => by
    obtain ⟨p, h1, h2⟩ := h d List.mem_cons_self
    obtain ⟨ps, h3, h4, h5⟩ := toPys_all fun x hx => h x (List.mem_cons_of_mem _ hx)
    refine ⟨p :: ps, by simp only [toPys, h1, h3], congrArg Nat.succ h4, fun x hx => ?_⟩
    rcases List.mem_cons.mp hx with rfl | hx
    · exact h2
    · exact h5 x hx
theorem ShD.lst {k n : Nat} {ds : List Dat} (h : ∀ d ∈ ds, ShD k n d) : ShD (k + 1) ((n + 2) * ds.length + 3) (.lst ds) := by
  obtain ⟨ps, h1, h2, h3⟩ := toPys_all h
  refine ⟨.list ps, by simp only [toPy, h1]; rfl, ?_⟩
  rw [← h2]
  exact Shw.list h3
theorem ShD.tup {k n : Nat} {ds : List Dat} (h : ∀ d ∈ ds, ShD k n d) : ShD (k + 1) ((n + 2) * ds.length + 3) (.tup ds) := by
  obtain ⟨ps, h1, h2, h3⟩ := toPys_all h
  refine ⟨.tuple ps, by simp only [toPy, h1]; rfl, ?_⟩
  rw [← h2]
  exact Shw.tuple h3
def reprD : Dat → Bool
  | .int _ => true
  | d => isSeqD d
/-- both sides show the same text -/
def SameD (x y : Dat) : Prop := ∃ p n, reprD x = true ∧ reprD y = true ∧ toPy x = some p ∧ toPy y = some p ∧ Shw 60 n p ∧ n ≤ 16000000
theorem SameD.eq {x y : Dat} {k n : Nat} (hr : reprD x = true) (h : ShD k n x) (e : y = x) (hk : k ≤ 60 := by decide) (hn : n ≤ 16000000 := by decide) : SameD x y := by
  obtain ⟨p, h1, h2⟩ := h
  subst e
  exact ⟨p, n, hr, hr, h1, h1, h2.mono hk (Nat.le_refl _), hn⟩
theorem SameD.shown {x y : Dat} {p : PyData} (hx : reprD x = true) (hy : reprD y = true) (h1 : toPy x = some p) (h2 : toPy y = some p) (hs : showB p = true) : SameD x y := by
  unfold showB at hs
  simp only [Bool.and_eq_true, decide_eq_true_eq] at hs
  obtain ⟨⟨⟨s1, s2⟩, s3⟩, s4⟩ := hs
  exact ⟨p, p.shown.length, hx, hy, h1, h2, ⟨s1, s2, Nat.le_refl _⟩, Nat.le_trans (shown_le13 s3 s4) (by decide)⟩
def S_same2 : DSpec := fun ds M q _ => ∃ x y, ds = [x, y] ∧ SameD x y ∧ q (.bl true) M
theorem dcl_reprW {X : Cx} {F0 : Hp} {M : Mem} {q : DK} {d : Dat} {p : PyData} {k n : Nat} (hr : Room k X.A) (hg : X.A.guards = some []) (hd : reprD d = true) (hp : toPy d = some p) (hs : Shw 60 n p) (hn : n ≤ 16000000) (h : q (.str p.shown) M) : DCl X F0 (.builtin "repr") [d] M q := by
  by_cases hq : isSeqD d = true
  · exact dcl_repr hr hg hq hp hs.s hs.d (Nat.le_trans hs.l (Nat.le_trans hn (by decide))) h
  · cases d with
    | int i =>
      cases hp
      refine ⟨_, SkE.call_repr_int, fun F H vs Q om r k => ?_⟩
      obtain ⟨v, rfl, r1⟩ := reps1 r
      cases r1
      refine ⟨i, rfl, of_decide_eq_true hs.s, k.fin om rep_str ?_⟩
      rw [← PyData.shown_int]
      exact h
    | _ => first | exact absurd hd hq | exact absurd rfl hq
end DL
/-! DL23: comprehensions with any target -/
namespace DL
open PySem PySem.Spec PyProof.Rows L2
theorem PG.imp {X : Cx} {F0 : Hp} {o : Option (List Nat)} {tg : Expr} {d : Dat} {ρ : DEnv} {M : Mem} {q q' : DEnv → Mem → Prop} (h : DG X F0 o tg d ρ M q) (w : ∀ ρ' M', q ρ' M' → q' ρ' M') : DG X F0 o tg d ρ M q' :=
  PG.wk h fun v σ H Q ⟨F, om, ol, r, k⟩ => ⟨F, om, ol, r, fun F' H' σ' ρ' M' e om' ol' rs h' => k F' H' σ' ρ' M' e om' ol' rs (w _ _ h')⟩
section
variable {X : Cx} {F0 : Hp} {ρ : DEnv} {M M1 : Mem} {elt iter tg c : Expr} {scope : Scope} {own : List (Str × Nat)} {pos px : Pos} {x : Str} {i : Nat} {q : Addr → List Dat → Mem → Prop} {ds : List Dat}
/-- what an element (or a test) of a comprehension shows, behind the target -/
def CpE (X : Cx) (F0 : Hp) (scope : Scope) (own : List (Str × Nat)) (tg elt : Expr) (ρ : DEnv) (d : Dat) (M : Mem) (P : DK → Prop) : Prop :=
  Blk X scope fun X' => DG X' F0 (some (own.map (·.2))) tg d (wipeD ρ (own.map (·.2))) M fun ρ2 M2 => M2 = M ∧ Blk X scope fun X'' => ∀ q2 : DK, P q2 → DE X'' F0 elt ρ2 M q2
/-- each item gives f of it -/
theorem lck_map (f : Dat → Dat) (h1 : ds.length ≤ 100000) (h2 : ∀ d ∈ ds, ∀ M', ExM M1 M' → CpE X F0 scope own tg elt ρ d M' fun q2 => q2 (f d) M') (h3 : ∀ D, M1 D = none → q D (ds.map f) (updM M1 D (.lst (ds.map f)))) : LcK X F0 scope own tg [] elt ρ q ds M1 := by
  refine ⟨h1, fun D hD => ?_⟩
  refine dcp_map f ds [] M1 hD (fun d hd acc s H C cl fp q' k => PG.imp (h2 d hd _ (ExM.upd hD) s H C cl fp) fun ρ2 M2 ⟨hm, hb⟩ => ?_) ?_
  · subst hm
    exact k ρ2 (fun s H C cl fp q2 z => dts_nil z) fun s H C cl fp q2 z => hb s H C cl fp q2 z
  · rw [List.nil_append]
    exact h3 D hD
/-- the items under a test -/
theorem lck_filt (g : Dat → Bool) (f : Dat → Dat) (h1 : ds.length ≤ 100000)
    (h2 : ∀ d ∈ ds, ∀ M', ExM M1 M' → Blk X scope fun X' => DG X' F0 (some (own.map (·.2))) tg d (wipeD ρ (own.map (·.2))) M' fun ρ2 M2 => M2 = M' ∧ (Blk X scope fun X'' => ∀ q2 : Bool → Mem → Prop, q2 (g d) M' → DT X'' F0 c ρ2 M' q2) ∧ (g d = true → Blk X scope fun X'' => ∀ q2 : DK, q2 (f d) M' → DE X'' F0 elt ρ2 M' q2))
    (h3 : ∀ D, M1 D = none → q D ((ds.filter g).map f) (updM M1 D (.lst ((ds.filter g).map f)))) : LcK X F0 scope own tg [c] elt ρ q ds M1 := by
  refine ⟨h1, fun D hD => ?_⟩
  refine dcp_filt g f ds [] M1 hD (fun d hd acc s H C cl fp q' k => PG.imp (h2 d hd _ (ExM.upd hD) s H C cl fp) fun ρ2 M2 ⟨hm, hb, hc⟩ => ?_) ?_
  · subst hm
    exact k ρ2 hb hc
  · rw [List.nil_append]
    exact h3 D hD
/-- the items change the cell p alone -/
theorem lck_bag (p : Addr) (P : Nat → List Dat → Option MO → Prop) (h1 : ds.length ≤ 100000) (h2 : M1 p ≠ none) (h3 : P 0 [] (M1 p))
    (h4 : ∀ (k : Nat) (d : Dat) (acc : List Dat) (M' : Mem), ds[k]? = some d → P k acc (M' p) → (∀ a o, a ≠ p → M1 a = some o → M' a = some o) → CpE X F0 scope own tg elt ρ d M' fun q2 => ∀ y M2, Same p M' M2 → P (k + 1) (acc ++ [y]) (M2 p) → q2 y M2)
    (h5 : ∀ D acc M', M1 D = none → M' D = some (.lst acc) → P ds.length acc (M' p) → (∀ a, a ≠ p → a ≠ D → M' a = M1 a) → q D acc M') : LcK X F0 scope own tg [] elt ρ q ds M1 := by
  refine ⟨h1, fun D hD => ?_⟩
  have hp : p ≠ D := fun e => h2 (by rw [e]; exact hD)
  refine dcp_bag P hD hp ds 0 [] _ updM_same (by rw [updM_ne hp]; exact h3) (fun a _ hb => updM_ne hb) (fun k d acc M' hk hP hx s H C cl fp q' kk => ?_) (fun acc M' hm hP hx => ?_)
  · rw [Nat.zero_add] at hP
    refine PG.imp (h4 k d acc M' hk hP hx s H C cl fp) fun ρ2 M2 ⟨hm, hb⟩ => ?_
    subst hm
    refine kk ρ2 fun s H C cl fp q2 z => ?_
    rw [Nat.zero_add] at z
    exact hb s H C cl fp q2 z
  · rw [Nat.zero_add] at hP
    exact h5 D acc M' hD hm hP hx
end
section
variable {X : Cx} {F0 : Hp} {ρ : DEnv} {M M1 : Mem} {elt iter tg c : Expr} {scope : Scope} {own : List (Str × Nat)} {pos px spos : Pos} {y : Str} {i : Nat} {q : DK} {D : DEnds} {ifs : List Expr}
/-- the frozen list -/
def frzQ (q : DK) : Addr → List Dat → Mem → Prop := fun A acc M' => q (.lst acc) (delM M' A)
def cellQ (q : DK) : Addr → List Dat → Mem → Prop := fun A _ M' => q (.ptr A) M'
theorem frz_upd {A : Addr} {acc : List Dat} (h : q (.lst acc) M1) (hA : M1 A = none) : frzQ q A acc (updM M1 A (.lst acc)) := by
  unfold frzQ
  rw [del_upd hA]
  exact h
theorem de_lcF (hc : X.calm = true) (hN : X.N.Nodup) (ok : BlkOk X.N X.env.scope scope own) (h : DI X F0 tg iter ρ M (LcK X F0 scope own tg ifs elt ρ (frzQ q))) (hs : ∀ x, foldedSetIterable iter X.env x = pure x := by intro _; rfl) :
    DE X F0 (.ListComp elt [⟨tg, iter, ifs, 0⟩] scope pos) ρ M q := de_lc hc hN ok h hs
theorem de_lcP (hc : X.calm = true) (hN : X.N.Nodup) (ok : BlkOk X.N X.env.scope scope own) (h : DI X F0 tg iter ρ M (LcK X F0 scope own tg ifs elt ρ (cellQ q))) (hs : ∀ x, foldedSetIterable iter X.env x = pure x := by intro _; rfl) :
    DE X F0 (.ListComp elt [⟨tg, iter, ifs, 0⟩] scope pos) ρ M q := de_lcC hc hN ok h hs
theorem ds_lcF {py : Pos} (hc : X.calm = true) (hN : X.N.Nodup) (hy : X.N[i]? = some y) (hyl : X.env.scope.names.lookup y = some .local)
    (ok : BlkOk X.N X.env.scope scope own) (h : DI X F0 tg iter ρ M (LcK X F0 scope own tg ifs elt ρ (frzQ fun d M' => D.nx (ρ.set i (some d)) M')))
    (hk : X.env.scope.kind = .function := by rfl) (hl : (py.line == pos.line) = true := by rfl) (ha : (scope.names.any fun (n, k) => n == y && (k == .local || k == .cell)) = false := by rfl) (hs : ∀ x, foldedSetIterable iter X.env x = pure x := by intro _; rfl) :
    DS X F0 (.Assign [.Name y py] (.ListComp elt [⟨tg, iter, ifs, 0⟩] scope pos) spos) ρ M D := ds_setLc hc hN hy hyl (sw_true hk hyl hl ha) ok h hs
theorem ds_lcP {py : Pos} (hc : X.calm = true) (hN : X.N.Nodup) (hy : X.N[i]? = some y) (hyl : X.env.scope.names.lookup y = some .local)
    (ok : BlkOk X.N X.env.scope scope own) (h : DI X F0 tg iter ρ M (LcK X F0 scope own tg ifs elt ρ (cellQ fun d M' => D.nx (ρ.set i (some d)) M')))
    (hk : X.env.scope.kind = .function := by rfl) (hl : (py.line == pos.line) = true := by rfl) (ha : (scope.names.any fun (n, k) => n == y && (k == .local || k == .cell)) = false := by rfl) (hs : ∀ x, foldedSetIterable iter X.env x = pure x := by intro _; rfl) :
    DS X F0 (.Assign [.Name y py] (.ListComp elt [⟨tg, iter, ifs, 0⟩] scope pos) spos) ρ M D := ds_setLcC hc hN hy hyl (sw_true hk hyl hl ha) ok h hs
theorem frz_bag {p A : Addr} {acc : List Dat} {M' : Mem} (h : Same p M1 (delM M' A) → q (.lst acc) (delM M' A)) (hA : M1 A = none) (hx : ∀ a, a ≠ p → a ≠ A → M' a = M1 a) : frzQ q A acc M' := by
  refine h fun a ha => ?_
  show (if a = A then none else M' a) = M1 a
  by_cases hb : a = A
  · rw [if_pos hb, hb, hA]
  · rw [if_neg hb]
    exact hx a ha hb
end
end DL
/-! DL24: enumerate of a tuple and of a list, in data -/
namespace PySem
open Sem (wp)
open AutoSeq1 (wpAny_loadPart')
theorem dl_enumerate_newT (l : Addr) (items : Array Value) (n : Nat) (dct : Option Addr) (sl : Array (Option Value)) :
    Meets (Builtin.«enumerate.__new__» ⟨[.type "enumerate", .ref l], []⟩) (fun _ R s => s.heap.get? l = some { cls := .type "tuple", dict := dct, data := .seq items n, slots := sl } ∧
      R (.ok (.ret (.ref (s.heap.push { cls := .type "tuple_iterator", data := .fields #[.ref l, .int 0 0] }).objs.size)))
        { s with heap := (s.heap.push { cls := .type "tuple_iterator", data := .fields #[.ref l, .int 0 0] }).push { cls := .type "enumerate", data := .fields #[.none, .bool false, .ref s.heap.objs.size, rawInt 0, .none, .none] } }) :=
  .of_wp fun prog w A R s h => by
    obtain ⟨hp, g, d, tk, os⟩ := s; obtain ⟨hl, h⟩ := h
    have hsub := sub_enumerate
    have hL : Heap.IsTuple (Shared.heap ⟨hp, g, d, tk, os⟩) l items := ⟨_, hl, rfl, n, rfl⟩
    wp_walk using wpAny_loadPart' hl
    refine wpAny_stack_any fun st => wpAny_pure ?_
    split
    · rename_i c _ _ _ _ _
      cases (c == Value.type "enumerate")
      · wp_walk using wpAny_loadPart' hl, wpAny_pyIter_tuple hL
        exact ⟨_, rfl, h⟩
      · wp_walk using wpAny_loadPart' hl, wpAny_pyIter_tuple hL
        exact ⟨_, rfl, h⟩
    · wp_walk using wpAny_loadPart' hl, wpAny_pyIter_tuple hL
      exact ⟨_, rfl, h⟩
section
variable {prog : Program} {w : World} {A : Around} {E : Value → Shared → Prop} {s : Shared}
theorem dl_call_enumerate_tuple {l : Addr} {items : Array Value} {Q : Value → Shared → Prop} (hL : s.heap.IsTuple l items)
    (h : ∀ h', IsEnum h' (s.heap.objs.size + 1) s.heap.objs.size 0 .none → h'.IsTupleIter s.heap.objs.size l 0 → h'.objs.size = s.heap.objs.size + 2 →
      (∀ b o, s.heap.get? b = some o → h'.get? b = some o) → Q (.ref (s.heap.objs.size + 1)) { s with heap := h' }) :
    wpAny (model prog w) A (call (.type "enumerate") [.ref l]) Q E s := by
  obtain ⟨⟨c, dct, dt, sl⟩, hl, hc, n, hd⟩ := hL
  replace hc : c = .type "tuple" := hc
  replace hd : dt = .seq items n := hd
  subst hc hd
  refine callType_new F.called_enumerate (by decide) (F.typeCall_enumerate_1 _) (F.newCall_enumerate_1 _) (fun obj => F.args_object_init_2 obj _) F.entry_enumerate_new
    (dl_enumerate_newT l items n dct sl) ⟨hl, ?_⟩
  have hz : (s.heap.push { cls := .type "tuple_iterator", data := .fields #[.ref l, .int 0 0] }).objs.size = s.heap.objs.size + 1 := Heap.size_push ..
  show _ ∧ _
  rw [hz]
  have he : IsEnum ((s.heap.push { cls := .type "tuple_iterator", data := .fields #[.ref l, .int 0 0] }).push
      { cls := .type "enumerate", data := .fields #[.none, .bool false, .ref s.heap.objs.size, rawInt 0, .none, .none] }) (s.heap.objs.size + 1) s.heap.objs.size 0 .none := by
    have := Heap.get?_push_size (s.heap.push { cls := .type "tuple_iterator", data := .fields #[.ref l, .int 0 0] })
      (o := { cls := .type "enumerate", data := .fields #[.none, .bool false, .ref s.heap.objs.size, rawInt 0, .none, .none] }) rfl
    rw [hz] at this; exact this
  refine ⟨⟨_, he, rfl⟩, h _ he ⟨_, Heap.get?_push_of_some _ (Heap.get?_push_size _ rfl), rfl, rfl⟩ (by rw [Heap.size_push, hz]) fun b o x => Heap.get?_push_of_some _ (Heap.get?_push_of_some _ x)⟩
theorem dl_next_enumT_end {e it l : Addr} {i : Nat} {k : Int} {items : Array Value} {old : Value} {Q : Option Value → Shared → Prop} (hh : A.handled = none)
    (he : IsEnum s.heap e it k old) (hit : s.heap.IsTupleIter it l i) (hl : s.heap.IsTuple l items) (hx : items[i]? = none)
    (hQ : ∀ h', Heap.ExtBut it s.heap h' → Q none { s with heap := h' }) : wpAny (model prog w) A (pyNext (.ref e)) Q E s := by
  have hT : s.TypeIs (.ref e) "enumerate" := ⟨_, he, rfl⟩
  unfold pyNext
  refine wpAny_bind (wpAny_attempt (wpAny_callSpecial?_slot (name := Str.ofString "__next__") hT F.slot_enumerate_next
    (wpAny_call_entry F.slot_enumerate_next hT F.entry_enumerate_next ?_ (F.args_enumerate_next_1 _))))
  show wpAny _ _ (field (.ref e) 2 >>= _) _ _ _
  refine wpAny_bind (wpAny_field he rfl (x := .ref it) rfl ?_)
  refine wpAny_bind (wpAny_nextOf_tuple_end (A := A.in1) hh hit hl hx fun h' x he' hx' => ?_)
  obtain ⟨o, ho, hc⟩ := hx'
  refine wpAny_bind (wpAny_isInstance (T := "StopIteration") (b := true) ⟨o, ho, hc⟩ isSubtype_stop ?_)
  exact wpAny_pure (hQ _ he')
end
end PySem
namespace DL
open PySem PySem.Spec PyProof.Rows L2
/-- the tuple at a, each item in a new pair -/
def Iet (K : PySem.W.Frag) (a : Addr) : It :=
  ⟨fun i H => ∃ (xs : List V) (x : V), SqT K H a xs ∧ xs[i]? = some x, fun i H v H' => ∃ T x, v = .ref T ∧ H T = none ∧ H' = upd H T (.tup [.int (i : Nat), x]) ∧ ∀ xs, SqT K H a xs → xs[i]? = some x, fun i H => ∃ xs : List V, SqT K H a xs ∧ xs.length ≤ i⟩
theorem turn_enumT {P : Program} {w : World} {K : PySem.W.Frag} {elts : List Expr} {kk : Nat} {tpos : Pos} (a e it : Addr) :
    Turn P w K (.Tuple elts kk tpos) (Iet K a) [e, it] e (fun i h => (∃ old, IsEnum h e it ((i : Nat) : Int) old) ∧ h.IsTupleIter it a i ∧ e ≠ it) where
  mem := by simp
  obj := fun i h st b hb => by
    obtain ⟨⟨old, he⟩, ⟨o, ho, hc, hd⟩, _⟩ := st
    have e' : b = e ∨ b = it := by simpa using hb
    rcases e' with z | z
    · rw [z]; exact ⟨_, he, fun v q => nomatch q⟩
    · rw [z]; exact ⟨o, ho, fun v q => by rw [hd] at q; cases q⟩
  keep := fun i h h' st k => let ⟨⟨old, he⟩, hi, hne⟩ := st; ⟨⟨old, k e (by simp) _ he⟩, hi.at fun o q => k it (by simp) o q, hne⟩
  item := by
    intro X hP hw hK hc i pins s σ H E I hf st hg
    subst hP hw hK
    obtain ⟨⟨old, he⟩, hit, hne⟩ := st
    obtain ⟨xs, x, hq, hx⟩ := hg
    obtain ⟨its, rv, p, hz⟩ := I.tuple hq
    obtain ⟨u, hu, ru⟩ := rv.get hx
    have hp : s.heap.IsTuple a its.toArray := p
    have hel : e < s.heap.objs.size := Heap.lt_size he
    have hil : it < s.heap.objs.size := by obtain ⟨_, q, _⟩ := hit; exact Heap.lt_size q
    have hti : a ≠ it := by
      rintro rfl
      obtain ⟨o1, h1, _, d1⟩ := hit
      obtain ⟨o2, h2, _, n2, d2⟩ := hp
      rw [h1] at h2
      cases h2
      rw [d1] at d2
      cases d2
    have hea : e ≠ a := by
      rintro rfl
      obtain ⟨o2, h2, _, n2, d2⟩ := hp
      rw [show s.heap.get? e = some _ from he] at h2
      cases h2
      cases d2
    refine wpAny_pyNext_enum_itemD (fp := [it, a]) (Draws.tuple (A := X.A.in1) (I.ok.hd hc) it a hti its.toArray) he ⟨hit, hp⟩ (by simpa using (List.getElem?_eq_some_iff.mp hu).1) hne (by simp [hne, hea]) fun y h' tk hP ho hst hT hsz hk => ?_
    obtain ⟨hit', hp'⟩ := hst
    have hy : y = u := by
      have h1 : its.toArray[i]? = some y := hP
      have h2 : its[i]? = some y := by simpa using h1
      rw [hu] at h2
      exact (Option.some.inj h2).symm
    subst hy
    refine ⟨_, rfl, wpAny_letOwnedTupleGo_enum (s := { s with heap := h', toks := tk + 1 }) ho fun h'' he' sb => ?_⟩
    have hT2 : h''.get? s.heap.objs.size = some { cls := .type "tuple", data := .seq #[.int i tk, y] } := (sb.2 _ (Nat.ne_of_gt hel)).trans hT
    have new : ObjOk X.prog X.w (upd H s.heap.objs.size (.tup [.int (i : Nat), x])) h'' s.heap.objs.size (.tup [.int (i : Nat), x]) :=
      ⟨by show 2 ≤ sizeLine; decide, [.int i tk, y], .cons ⟨_, rfl⟩ (.cons ru .nil), ⟨_, hT2, rfl, _, rfl⟩⟩
    have I1 : Inv X pins σ (upd H s.heap.objs.size (.tup [.int (i : Nat), x])) { s with heap := h'', toks := tk + 1 } :=
      I.turnedNew (ch := [e, it]) (fun b ob hb q => (sb.2 b (fun z => hb (by simp [z]))).trans (hk b ob (fun z => hb (by simp [z])) (fun z => hb (by simp [z])) q)) hf (Nat.le_refl _) new
    refine ⟨.ref s.heap.objs.size, _, I1, rfl, ⟨_, x, rfl, I.hok.fresh (Nat.le_refl _), rfl, fun ys hy => by rw [I.tuple_inj hy hq]; exact hx⟩, ⟨⟨y, ?_⟩, hit'.at fun o q => (sb.2 it (Ne.symm hne)).trans q, hne⟩, fun b hb => ?_⟩
    · have e1 : ((i + 1 : Nat) : Int) = (i : Int) + 1 := by omega
      rw [e1]; exact he'
    · have hb' : b < s.heap.objs.size := by
        have e' : b = e ∨ b = it := by simpa using hb
        rcases e' with z | z
        · rw [z]; exact hel
        · rw [z]; exact hil
      rw [upd_ne (Nat.ne_of_lt hb')]
      exact (hf b hb).1
  done := by
    intro X hP hw hK hc i pins s σ H E I hf st hg
    subst hP hw hK
    obtain ⟨⟨old, he⟩, hit, hne⟩ := st
    obtain ⟨xs, hq, hx⟩ := hg
    obtain ⟨its, rv, p, hz⟩ := I.tuple hq
    obtain ⟨f0, f1, f2, f3, f4, f5⟩ := hf it (by simp)
    have hl := rv.length
    have hp : s.heap.IsTuple a its.toArray := p
    exact dl_next_enumT_end (I.ok.hd hc) he hit hp (by simp; omega) fun h' eb => ⟨rfl, I.turned (t' := s.toks) (fun b o hb q => eb b o hb q) f0 f1 f3 f4 f5⟩
  self := fun A i s Q E st h => let ⟨⟨_, he⟩, _⟩ := st; wpAny_pyIter_enum he h
def iEnumT (K : PySem.W.Frag) (ta : TA) : TI := fun σ H R => ta σ H fun vs H1 => ∃ a xs, vs = [.ref a] ∧ SqT K H1 a xs ∧ R (Iet K a) H1
theorem pi_enumT {X : Cx} {e : Expr} {ta : TA} {p pos tpos : Pos} {elts : List Expr} {kk : Nat} (hg : Gl X "enumerate") (hm : X.mg "enumerate" = none) (ha : PA X [e] ta) (hs : starEach [e] X.env = [(false, eval e X.env)] := by rfl) :
    PI X (.Tuple elts kk tpos) (.Call (.Name "enumerate" p) [e] [] pos) (iEnumT X.K ta) := by
  refine ⟨fun pins s σ H R I h => ?_⟩
  refine Call_ (ld_blt I hg hm boot_enumerate (PyProof.Rows.callWith_type1 (thn (ha.run pos pins s σ H _ I h) fun us s1 ⟨vs, H1, I1, r1, q1⟩ => ?_) hs rfl))
  obtain ⟨a, xs, ex, hq, q⟩ := q1
  subst ex
  cases r1 with
  | cons r rr =>
    cases rr
    cases r
    obtain ⟨its, rv, p', hz⟩ := I1.tuple hq
    refine dl_call_enumerate_tuple (show s1.heap.IsTuple a its.toArray from p') fun h' he hit hsz hk => wpAny_pyIter_enum he ?_
    have I2 : Inv X pins σ H1 { s1 with heap := h' } := I1.kept (t' := s1.toks) hk
    refine ⟨s1.heap.objs.size + 1, [s1.heap.objs.size + 1, s1.heap.objs.size], _, _, H1, rfl, I2, turn_enumT a (s1.heap.objs.size + 1) s1.heap.objs.size, ⟨⟨.none, he⟩, hit, Nat.succ_ne_self _⟩, fun b hb => ?_, q⟩
    have e' : b = s1.heap.objs.size + 1 ∨ b = s1.heap.objs.size := by simpa using hb
    have hle : s1.heap.objs.size ≤ b := by
      rcases e' with z | z
      · rw [z]; exact Nat.le_add_right _ _
      · rw [z]; exact Nat.le_refl _
    exact I1.fpOk hle (I1.hok.fresh hle)
/-! ### in data -/
def enumD (k : Nat) : List Dat → List Dat
  | [] => []
  | d :: ds => .tup [.int (k : Int), d] :: enumD (k + 1) ds
theorem enumD_len {k : Nat} : ∀ {ds : List Dat}, (enumD k ds).length = ds.length
  | [] => rfl
  | _ :: _ => congrArg Nat.succ enumD_len
theorem enumD_get : ∀ {ds : List Dat} {k i : Nat} {d : Dat}, (enumD k ds)[i]? = some d → ∃ y, ds[i]? = some y ∧ d = .tup [.int ((k + i : Nat) : Int), y]
  | [], _, _, _, h => by simp [enumD] at h
  | x :: ds, k, 0, d, h => by
    have e : Dat.tup [.int (k : Int), x] = d := by simpa [enumD] using h
    exact ⟨x, rfl, e.symm⟩
  | x :: ds, k, i + 1, d, h => by
    obtain ⟨y, h1, h2⟩ := enumD_get (ds := ds) (k := k + 1) (i := i) (show (enumD (k + 1) ds)[i]? = some d by simpa [enumD] using h)
    exact ⟨y, by simpa using h1, by rw [h2, show k + 1 + i = k + (i + 1) by omega]⟩
theorem enum_at {k i : Nat} {ds : List Dat} {y : Dat} (h : ds[i]? = some y) : (enumD k ds)[i]? = some (.tup [.int ((k + i : Nat) : Int), y]) := by
  cases e : (enumD k ds)[i]? with
  | none =>
    have := List.getElem?_eq_none_iff.mp e
    rw [enumD_len] at this
    rw [List.getElem?_eq_none this] at h
    cases h
  | some d =>
    obtain ⟨y', h1, h2⟩ := enumD_get e
    rw [h] at h1
    cases h1
    rw [h2]
theorem walk_enumT {K : PySem.W.Frag} {F0 F1 : Hp} {p : Addr} {xs : List V} {ds : List Dat} (h : SqT K F1 p xs) (r : Reps K F1 ds xs) : WalkD K F0 F1 (Iet K p) (enumD 0 ds) := fun F H M i e om => by
  have hs : SqT K H p xs := ex_t om.sub (ex_t e h)
  refine ⟨fun d hd => ?_, fun hl => ⟨xs, hs, by rw [← r.length, ← enumD_len (k := 0)]; exact hl⟩⟩
  obtain ⟨y, hy, rfl⟩ := enumD_get hd
  obtain ⟨x, hx, rx⟩ := r.get hy
  refine ⟨⟨xs, x, hs, hx⟩, fun v H' ⟨T, x', hv, hT, hH, hx'⟩ => ?_⟩
  subst hv hH
  obtain rfl : x = x' := Option.some.inj (hx.symm.trans (hx' xs hs))
  refine ⟨upd F T (.tup [.int (i : Nat), x]), Ex.new (om.freeF hT), om.new hT, ?_⟩
  rw [Nat.zero_add]
  exact rep_tup (Or.inl (Or.inl upd_same)) (Reps.cons rep_int (Reps.cons ((rx.mono e).mono (Ex.new (om.freeF hT))) Reps.nil))
theorem walk_enumL {K : PySem.W.Frag} {F0 F1 : Hp} {p : Addr} {xs : List V} {ds : List Dat} (h : SqL K F1 p xs) (r : Reps K F1 ds xs) : WalkD K F0 F1 (Ite K p) (enumD 0 ds) := fun F H M i e om => by
  have hs : SqL K H p xs := ex_l om.sub (ex_l e h)
  refine ⟨fun d hd => ?_, fun hl => ⟨xs, hs, by rw [← r.length, ← enumD_len (k := 0)]; exact hl⟩⟩
  obtain ⟨y, hy, rfl⟩ := enumD_get hd
  obtain ⟨x, hx, rx⟩ := r.get hy
  refine ⟨⟨xs, x, hs, hx⟩, fun v H' ⟨T, x', hv, hT, hH, hx'⟩ => ?_⟩
  subst hv hH
  obtain rfl : x = x' := Option.some.inj (hx.symm.trans (hx' xs hs))
  refine ⟨upd F T (.tup [.int (i : Nat), x]), Ex.new (om.freeF hT), om.new hT, ?_⟩
  rw [Nat.zero_add]
  exact rep_tup (Or.inl (Or.inl upd_same)) (Reps.cons rep_int (Reps.cons ((rx.mono e).mono (Ex.new (om.freeF hT))) Reps.nil))
section
variable {X : Cx} {F0 : Hp} {ρ : DEnv} {M : Mem} {pos p tpos : Pos} {e : Expr} {elts : List Expr} {kk : Nat} {q : List Dat → Mem → Prop}
theorem di_enumT (hg : Gl X "enumerate") (hm : X.mg "enumerate" = none) (h : DA X F0 [e] ρ M fun ds M1 => ∃ es, ds = [.tup es] ∧ q (enumD 0 es) M1) (hs : starEach [e] X.env = [(false, eval e X.env)] := by rfl) :
    DI X F0 (.Tuple elts kk tpos) (.Call (.Name "enumerate" p) [e] [] pos) ρ M q :=
  ⟨_, pi_enumT hg hm (uA (F0 := F0)) hs, fun F σ H R om ol k => tUA.go h om ol fun F1 H1 vs ds M1 e1 om1 r ⟨es, hd, hq⟩ => by
    subst hd
    obtain ⟨v, rfl, r1⟩ := reps1 r
    obtain ⟨a, xs, rfl, hx, rx⟩ := r1
    exact ⟨a, xs, rfl, ex_t om1.sub hx, k F1 H1 _ _ M1 e1 om1 (walk_enumT hx rx) hq⟩⟩
theorem di_enumL (hg : Gl X "enumerate") (hm : X.mg "enumerate" = none) (h : DA X F0 [e] ρ M fun ds M1 => ∃ es, ds = [.lst es] ∧ q (enumD 0 es) M1) (hs : starEach [e] X.env = [(false, eval e X.env)] := by rfl) :
    DI X F0 (.Tuple elts kk tpos) (.Call (.Name "enumerate" p) [e] [] pos) ρ M q :=
  ⟨_, pi_enum hg hm (uA (F0 := F0)) hs, fun F σ H R om ol k => tUA.go h om ol fun F1 H1 vs ds M1 e1 om1 r ⟨es, hd, hq⟩ => by
    subst hd
    obtain ⟨v, rfl, r1⟩ := reps1 r
    obtain ⟨a, xs, rfl, hx, rx⟩ := r1
    have hl : SqL X.K F1 a xs := Or.inl (Or.inl hx)
    exact ⟨a, xs, rfl, ex_l om1.sub hl, k F1 H1 _ _ M1 e1 om1 (walk_enumL hl rx) hq⟩⟩
end
end DL
/-! DL25: dicts -/
namespace DL
open PySem PySem.Spec PyProof.Rows L2
theorem keyD_s {z : Str} : Dat.str z = keyD (.inr z) := rfl
theorem keyD_i {i : Int} : Dat.int i = keyD (.inl i) := rfl
def valD (ks : List Key) (ds : List Dat) (k : Key) : Option Dat := ((ks.zip ds).find? fun kv => decide (kv.1 = k)).map (·.2)
theorem valD_rep {K : PySem.W.Frag} {F : Hp} {k : Key} : ∀ {ks : List Key} {ds : List Dat} {xs : List V}, Reps K F ds xs → (valD ks ds k = none → valV (ks.zip xs) k = none) ∧ ∀ d, valD ks ds k = some d → ∃ x, valV (ks.zip xs) k = some x ∧ Rep K F d x
  | [], _, _, _ => ⟨fun _ => rfl, fun _ h => by cases h⟩
  | _ :: _, [], _, h => by
    cases h
    exact ⟨fun _ => rfl, fun _ h => by cases h⟩
  | j :: ks, d :: ds, xs, h => by
    obtain ⟨x, r, rfl, h1, h2⟩ := h
    have ih := valD_rep (k := k) (ks := ks) h2
    rw [List.zip_cons_cons]
    unfold valD
    rw [List.zip_cons_cons, List.find?_cons]
    by_cases e : j = k
    · rw [decide_eq_true e, valV_pos e]
      exact ⟨fun z => (by cases z), fun d' hd => ⟨x, rfl, by cases hd; exact h1⟩⟩
    · rw [decide_eq_false e, valV_neg e]
      exact ih
def DctAt (M : Mem) (d : Dat) (ks : List Key) (ds : List Dat) : Prop := d = .dct ks ds ∨ ∃ p, d = .ptr p ∧ M p = some (.dct ks ds)
theorem DctAt.at {K : PySem.W.Frag} {F0 F H : Hp} {M : Mem} {ks : List Key} {ds : List Dat} {d : Dat} {v : V} (h : DctAt M d ks ds) (om : OkM K F0 F M H) (r : Rep K F d v) : ∃ a xs, v = .ref a ∧ H a = some (.dK (ks.zip xs)) ∧ ks.length = xs.length ∧ Reps K F ds xs := by
  rcases h with rfl | ⟨p, rfl, hM⟩
  · obtain ⟨p, xs, rfl, h1, h2, h3⟩ := r
    exact ⟨p, xs, rfl, om.sub _ _ h1, h2, h3⟩
  · obtain rfl : v = .ref p := r
    obtain ⟨_, u, hu, ru⟩ := om.mem p _ hM
    obtain ⟨xs, rfl, h2, h3⟩ := ru
    exact ⟨p, xs, rfl, hu, h2, h3⟩
theorem valD_get {K : PySem.W.Frag} {F H : Hp} {ks : List Key} {ds : List Dat} {xs : List V} {a : Addr} {k : Key} {v : V} (ha : H a = some (.dK (ks.zip xs))) (hr : Reps K F ds xs) (rk : Rep K F (keyD k) v) : ∃ r, DGet H a v r ∧ r.isSome = (valD ks ds k).isSome ∧ ∀ d, valD ks ds k = some d → ∃ x, r = some x ∧ Rep K F d x := by
  obtain ⟨h1, h2⟩ := valD_rep (k := k) (ks := ks) hr
  obtain rfl := rep_key rk
  refine ⟨_, DGet.k ha, ?_, h2⟩
  cases e : valD ks ds k with
  | none =>
    rw [h1 e]
    rfl
  | some d =>
    obtain ⟨x, hx, _⟩ := h2 d e
    rw [hx]
    rfl
section
variable {X : Cx} {F0 : Hp} {ρ : DEnv} {M : Mem} {q : DK} {k' : Nat} {x y : Dat} {ks : List Key} {ds : List Dat} {k : Key} {a b : Expr} {pos : Pos}
theorem dop_inDc (hr : Room k' X.A) (hx : x = keyD k) (hd : DctAt M y ks ds) (h : q (.bl (valD ks ds k).isSome) M) : DOp X F0 (compareOp .In) x y M q :=
  dop_raw fun F H vx vy Q om rx ry kq pins σ s v u I rv ru => by
    subst hx
    obtain ⟨p, xs, rfl, hp, _, hxs⟩ := hd.at om ry
    obtain rfl : u = .ref p := ru
    obtain ⟨r, h1, h2, _⟩ := valD_get hp hxs rx
    refine d_in (Room.u1 hr) I h1 rv fun s3 I3 => ?_
    rw [h2]
    exact ⟨.bl _, H, I3, rfl, kq.fin om rep_bl h⟩
theorem dop_niDc (hr : Room k' X.A) (hx : x = keyD k) (hd : DctAt M y ks ds) (h : q (.bl (!(valD ks ds k).isSome)) M) : DOp X F0 (compareOp .NotIn) x y M q :=
  dop_raw fun F H vx vy Q om rx ry kq pins σ s v u I rv ru => by
    subst hx
    obtain ⟨p, xs, rfl, hp, _, hxs⟩ := hd.at om ry
    obtain rfl : u = .ref p := ru
    obtain ⟨r, h1, h2, _⟩ := valD_get hp hxs rx
    refine d_notIn (Room.u1 hr) I h1 rv fun s3 I3 => ?_
    rw [h2]
    exact ⟨.bl _, H, I3, rfl, kq.fin om rep_bl h⟩
/-- d[k], there -/
theorem de_dix (hr : Room k' X.A) (h : DE X F0 a ρ M fun x M1 => DE X F0 b ρ M1 fun y M2 => ∃ ks ds k, DctAt M2 x ks ds ∧ y = keyD k ∧ ∃ d, valD ks ds k = some d ∧ q d M2) (hs : NoSl b := by first | exact fun _ _ => rfl | trivial) : DE X F0 (.Subscript a b pos) ρ M q :=
  PE.wk (pe_dget (Room.u1 hr) (uE (F0 := F0)) (uE (F0 := F0)) hs) fun σ H Q ⟨F, om, ol, kq⟩ => tU.go h om ol fun F1 H1 vx x M1 e1 om1 r1 h1 => tU.go h1 om1 (ol.mono e1) fun F2 H2 vy y M2 e2 om2 r2 ⟨ks, ds, k, hd, hy, d, hv, hq⟩ => by
    subst hy
    obtain ⟨p, xs, rfl, hp, _, hxs⟩ := hd.at om2 (r1.mono e2)
    obtain ⟨r, h3, _, h5⟩ := valD_get hp hxs r2
    obtain ⟨v, rfl, rv⟩ := h5 d hv
    exact ⟨p, v, rfl, h3, (kq.mono (e1.trans e2)).fin om2 rv hq⟩
/-- len of a dict -/
theorem dcl_lenDc (hd : DctAt M x ks ds) (hl : ks.length = ds.length) (h : q (.int ks.length) M) : DCl X F0 (.builtin "len") [x] M q :=
  ⟨_, call_lenD, fun F H vs Q om r kq => by
    obtain ⟨v, rfl, rx⟩ := reps1 r
    obtain ⟨p, xs, rfl, hp, hl2, hxs⟩ := hd.at om rx
    refine ⟨p, _, rfl, hp, ?_⟩
    rw [List.length_zip, ← hl2, Nat.min_self]
    exact kq.fin om rep_int h⟩
/-! ### {} and d[k] = v -/
def hasK (ks : List Key) (k : Key) : Bool := ks.any fun j => decide (j = k)
theorem hasK_iff {ks : List Key} {k : Key} : hasK ks k = true ↔ k ∈ ks := by
  unfold hasK
  rw [List.any_eq_true]
  constructor
  · rintro ⟨j, h1, h2⟩
    rw [← of_decide_eq_true h2]
    exact h1
  · exact fun h => ⟨k, h, decide_eq_true rfl⟩
def putD (ks : List Key) (ds : List Dat) (k : Key) (d : Dat) : List Key × List Dat :=
  if hasK ks k = true then (ks, (ks.zip ds).map fun kv => if kv.1 = k then d else kv.2) else (ks ++ [k], ds ++ [d])
theorem put_in {K : PySem.W.Frag} {F : Hp} (k : Key) {d : Dat} {v : V} (rv : Rep K F d v) : ∀ {ks : List Key} {ds : List Dat} {xs : List V}, ks.length = xs.length → Reps K F ds xs →
    ∃ ys, (ks.zip xs).map (fun kv => if kv.1 = k then (kv.1, v) else kv) = ks.zip ys ∧ ks.length = ys.length ∧ Reps K F ((ks.zip ds).map fun kv => if kv.1 = k then d else kv.2) ys
  | [], ds, [], _, _ => ⟨[], rfl, rfl, Reps.nil⟩
  | j :: ks, ds, x :: xs, hl, hr => by
    cases ds with
    | nil => cases hr
    | cons e ds =>
      obtain ⟨x', r, h1, h2, h3⟩ := hr
      cases h1
      obtain ⟨ys, g1, g2, g3⟩ := put_in k rv (Nat.succ.inj hl) h3
      by_cases z : j = k
      · refine ⟨v :: ys, ?_, congrArg Nat.succ g2, ?_⟩
        · simp only [List.zip_cons_cons, List.map_cons, if_pos z, g1]
        · simp only [List.zip_cons_cons, List.map_cons, if_pos z]
          exact Reps.cons rv g3
      · refine ⟨x :: ys, ?_, congrArg Nat.succ g2, ?_⟩
        · simp only [List.zip_cons_cons, List.map_cons, if_neg z, g1]
        · simp only [List.zip_cons_cons, List.map_cons, if_neg z]
          exact Reps.cons h2 g3
theorem any_zip {k : Key} : ∀ {ks : List Key} {xs : List V}, ks.length = xs.length → ((ks.zip xs).any fun kv => decide (kv.1 = k)) = hasK ks k
  | [], [], _ => rfl
  | j :: ks, x :: xs, hl => by
    rw [List.zip_cons_cons, List.any_cons, any_zip (Nat.succ.inj hl)]
    rfl
theorem put_repK {K : PySem.W.Frag} {F : Hp} {k : Key} {d : Dat} {v : V} (rv : Rep K F d v) {ks : List Key} {ds : List Dat} {xs : List V} (hl : ks.length = xs.length) (hr : Reps K F ds xs) :
    ∃ ys, putK (ks.zip xs) k v = (putD ks ds k d).1.zip ys ∧ (putD ks ds k d).1.length = ys.length ∧ Reps K F (putD ks ds k d).2 ys := by
  unfold putK putD
  rw [any_zip hl]
  by_cases h : hasK ks k = true
  · rw [if_pos h, if_pos h]
    exact put_in k rv hl hr
  · rw [if_neg h, if_neg h]
    exact ⟨xs ++ [v], by rw [List.zip_append hl]; rfl, by rw [List.length_append, List.length_append, hl]; rfl, hr.app (Reps.cons rv Reps.nil)⟩
theorem de_dnew (h : ∀ p, M p = none → q (.ptr p) (updM M p (.dct [] []))) : DE X F0 (.Dict [] [] pos) ρ M q :=
  PE.wk pe_dnewK fun σ H Q ⟨F, om, ol, kq⟩ p hp => kq F _ _ _ _ (Ex.refl F) (om.cell hp (w := .dct [] []) ⟨[], rfl, rfl, Reps.nil⟩) rep_ptr (h p (om.freeM hp))
theorem ds_dput {D : DEnds} {p' : Pos} {e : Expr} (hr : Room k' X.A) (h : DE X F0 e ρ M fun d M1 => DE X F0 a ρ M1 fun x M2 => DE X F0 b ρ M2 fun y M3 => ∃ p ks ds k, x = .ptr p ∧ M3 p = some (.dct ks ds) ∧ y = keyD k ∧ ks.length < 1000000 ∧ D.nx ρ (updM M3 p (.dct (putD ks ds k d).1 (putD ks ds k d).2)))
    (hs : swapsWith e (some (.Subscript a b p')) pos.line X.env = pure false := by rfl) : DS X F0 (.Assign [.Subscript a b p'] e pos) ρ M D :=
  PS.wk (ps_dput (Room.u1 hr) (uE (F0 := F0)) (uE (F0 := F0)) (uE (F0 := F0)) hs) fun E σ H ⟨F, om, ol, kk⟩ => tU.go h om ol fun F1 H1 vd d M1 e1 om1 r1 h1 => tU.go h1 om1 (ol.mono e1) fun F2 H2 vx x M2 e2 om2 r2 h2 => tU.go h2 om2 (ol.mono (e1.trans e2)) fun F3 H3 vy y M3 e3 om3 r3 ⟨p, ks, ds, k, hx, hM, hy, hl, hq⟩ => by
    subst hx
    subst hy
    obtain rfl : vx = .ref p := r2
    obtain rfl := rep_key r3
    obtain ⟨hF, u, hu, ru⟩ := om3.mem p _ hM
    obtain ⟨xs, rfl, l2, rs⟩ := ru
    obtain ⟨ys, g1, g2, g3⟩ := put_repK (k := k) (r1.mono (e2.trans e3)) l2 rs
    refine ⟨p, _, rfl, DPut.k hu ?_, ?_⟩
    · rw [List.length_zip, ← l2, Nat.min_self]
      exact Nat.lt_trans hl (by decide)
    · rw [g1]
      exact kk.nx F3 _ σ ρ _ ((e1.trans e2).trans e3) (om3.put (w' := .dct _ _) hM ⟨ys, rfl, g2, g3⟩) (ol.mono ((e1.trans e2).trans e3)) hq
end
/-! ### {k: v for target in iter} -/
/-- the items r are left, ks and acc are made: the new dict stands in the cell D -/
def DDp (X : Cx) (F0 : Hp) (scope : Scope) (vs : List Nat) (tg : Expr) (kx vx : Expr) (ρw : DEnv) (D : Addr) (q : List Key → List Dat → Mem → Prop) : List Dat → List Key → List Dat → Mem → Prop
  | [], ks, acc, M => q ks acc M
  | d :: r, ks, acc, M => Blk X scope fun X' => DG X' F0 (some vs) tg d ρw M fun ρ2 M2 => Blk X scope fun X' => DE X' F0 kx ρ2 M2 fun y M4 => Blk X scope fun X' => DE X' F0 vx ρ2 M4 fun z M5 => ∃ k, y = keyD k ∧ M5 D = some (.dct ks acc) ∧ ks.length < 1000000 ∧
      DDp X F0 scope vs tg kx vx ρw D q r (putD ks acc k z).1 (putD ks acc k z).2 (updM M5 D (.dct (putD ks acc k z).1 (putD ks acc k z).2))
section
variable {X : Cx} {F0 : Hp} {ρ : DEnv} {M M1 : Mem} {tg kx vx iter : Expr} {scope : Scope} {own : List (Str × Nat)} {pos : Pos} {q : DK}
theorem dc_walk {F : Hp} {σ : L2.St} {H : Hp} {J : It} {ds : List Dat} {qq : List Key → List Dat → Mem → Prop} {Q : Hp → Prop} (om : OkM X.K F0 F M H) (ol : OkL X.K F ρ σ) (wk : WalkD X.K F0 F J ds) (D : Addr) (hD : H D = none)
    (h : DDp X F0 scope (own.map (·.2)) tg kx vx (wipeD ρ (own.map (·.2))) D qq ds [] [] (updM M D (.dct [] [])))
    (fin : ∀ F' H' ks acc M', Ex F F' → OkM X.K F0 F' M' H' → M' D = some (.dct ks acc) → qq ks acc M' → Q H') :
    ∃ W : Nat → Nat → Hp → Prop, (∃ m, W 0 m (upd H D (.dK []))) ∧ ∀ i m H, W i m H →
      (J.stop i H ∧ Q H) ∨ (J.go i H ∧ ∃ Nx : Hp → Prop, (∀ H', Nx H' → ∃ m', m' < m ∧ W (i + 1) m' H') ∧ ∀ x H', J.yld i H x H' → uBG X F0 scope (own.map (·.2)) tg x (L2.wipe σ (own.map (·.2))) H' fun σ2 H2 => L2.wipe σ2 (own.map (·.2)) = L2.wipe σ (own.map (·.2)) ∧ uBT X F0 scope [] σ2 H2 fun b H3 =>
        if b = true then uBE X F0 scope kx σ2 H3 fun y H4 => uBE X F0 scope vx σ2 H4 fun z H5 => ∃ kvs k, y = L2.kV k ∧ H5 D = some (.dK kvs) ∧ kvs.length < sizeLine ∧ Nx (upd H5 D (.dK (putK kvs k z))) else Nx H3) := by
  refine ⟨fun i m H' => m = ds.length - i ∧ i ≤ ds.length ∧ ∃ F' M' ks acc, Ex F F' ∧ OkM X.K F0 F' M' H' ∧ M' D = some (.dct ks acc) ∧ DDp X F0 scope (own.map (·.2)) tg kx vx (wipeD ρ (own.map (·.2))) D qq (ds.drop i) ks acc M',
    ⟨ds.length, by simp, Nat.zero_le _, F, _, [], [], Ex.refl F, om.cell hD (w := .dct [] []) ⟨[], rfl, rfl, Reps.nil⟩, updM_same, h⟩, ?_⟩
  rintro i m H1 ⟨rfl, hi, F1, M1, ks, acc, e1, om1, hM1, hc⟩
  obtain ⟨w1, w2⟩ := wk F1 H1 _ i e1 om1
  by_cases hlt : i < ds.length
  · have hd : ds[i]? = some ds[i] := List.getElem?_eq_getElem hlt
    obtain ⟨go, yl⟩ := w1 _ hd
    rw [List.drop_eq_getElem_cons hlt] at hc
    refine .inr ⟨go, fun H' => ∃ F' M' ks acc, Ex F F' ∧ OkM X.K F0 F' M' H' ∧ M' D = some (.dct ks acc) ∧ DDp X F0 scope (own.map (·.2)) tg kx vx (wipeD ρ (own.map (·.2))) D qq (ds.drop (i + 1)) ks acc M',
      fun H' z => ⟨ds.length - (i + 1), by omega, rfl, hlt, z⟩, fun x H' y => ?_⟩
    obtain ⟨F2, e2, om2, r2⟩ := yl x H' y
    refine ⟨_, _, M1, _, hc, F2, om2, (ol.mono (e1.trans e2)).wipe _, r2, fun F3 H3 σ3 ρ3 M3 e3 om3 ol3 s3 h3 => ⟨Eq.trans s3 (wipe_wipe σ _), ρ3, M3, (fun b M' => b = true ∧ M' = M3), fun s H C cl fp => dts_nil ⟨rfl, rfl⟩, F3, om3, ol3, fun F4 H4 b M4 e4 om4 h4 => ?_⟩⟩
    obtain ⟨rfl, rfl⟩ := h4
    rw [if_pos rfl]
    refine ⟨ρ3, M4, _, h3, F4, om4, ol3.mono e4, fun F5 H5 vy y M5 e5 om5 r5 h5 => ⟨ρ3, M5, _, h5, F5, om5, ol3.mono (e4.trans e5), fun F6 H6 vz z M6 e6 om6 r6 ⟨k, hk, hM6, hlen, h6⟩ => ?_⟩⟩
    subst hk
    obtain rfl := rep_key r5
    obtain ⟨hF6, u, hu, ru⟩ := om6.mem D _ hM6
    obtain ⟨xs, rfl, l2, rs⟩ := ru
    obtain ⟨ys, g1, g2, g3⟩ := put_repK (k := k) r6 l2 rs
    refine ⟨_, k, rfl, hu, ?_, F6, _, _, _, ((((e1.trans e2).trans e3).trans e4).trans e5).trans e6, ?_, updM_same, h6⟩
    · rw [List.length_zip, ← l2, Nat.min_self]
      exact Nat.lt_trans hlen (by decide)
    · rw [g1]
      exact om6.put (w' := .dct _ _) hM6 ⟨ys, rfl, g2, g3⟩
  · have e : i = ds.length := by omega
    subst e
    rw [List.drop_length] at hc
    exact .inl ⟨w2 (Nat.le_refl _), fin F1 H1 ks acc M1 e1 om1 hM1 hc⟩
def DcK (X : Cx) (F0 : Hp) (scope : Scope) (own : List (Str × Nat)) (tg kx vx : Expr) (ρ : DEnv) (q : Addr → List Key → List Dat → Mem → Prop) (ds : List Dat) (M1 : Mem) : Prop :=
  ∀ D, M1 D = none → DDp X F0 scope (own.map (·.2)) tg kx vx (wipeD ρ (own.map (·.2))) D (q D) ds [] [] (updM M1 D (.dct [] []))
theorem de_dcG {qq : Addr → List Key → List Dat → Mem → Prop} (hc : X.calm = true) (hN : X.N.Nodup) (ok : BlkOk X.N X.env.scope scope own) (h : DI X F0 tg iter ρ M (DcK X F0 scope own tg kx vx ρ qq))
    (fin : ∀ (F : Hp) (Q : VK), kV X.K F0 F q Q → ∀ D F' H' ks acc M', Ex F F' → OkM X.K F0 F' M' H' → M' D = some (.dct ks acc) → qq D ks acc M' → Q (.ref D) H') (hs : ∀ x, foldedSetIterable iter X.env x = pure x := by intro _; rfl) :
    DE X F0 (.DictComp kx vx [⟨tg, iter, [], 0⟩] scope pos) ρ M q := by
  obtain ⟨wi, hi, hw⟩ := h
  exact PE.wk (pe_dc (tk := uBE X F0 scope kx) (tv := uBE X F0 scope vx) (tt := uBT X F0 scope []) (g := uBG X F0 scope (own.map (·.2)) tg) hc hN hi ok (fun s H C cl fp => bG s H C cl fp) (fun s H C cl fp => bT s H C cl fp) (fun s H C cl fp => bE s H C cl fp) (fun s H C cl fp => bE s H C cl fp) hs)
    fun σ H Q ⟨F, om, ol, k⟩ => hw F σ H _ om ol fun F1 H1 J ds M1 e1 om1 wk h1 D hD => dc_walk (Q := Q (.ref D)) om1 (ol.mono e1) wk D hD (h1 D (om1.freeM hD)) fun F2 H2 ks acc M2 e2 om2 hM2 h2 => fin F Q k D F2 H2 ks acc M2 (e1.trans e2) om2 hM2 h2
/-- the dict will not change -/
theorem de_dcF (hc : X.calm = true) (hN : X.N.Nodup) (ok : BlkOk X.N X.env.scope scope own) (h : DI X F0 tg iter ρ M (DcK X F0 scope own tg kx vx ρ fun D ks acc M' => q (.dct ks acc) (delM M' D))) (hs : ∀ x, foldedSetIterable iter X.env x = pure x := by intro _; rfl) :
    DE X F0 (.DictComp kx vx [⟨tg, iter, [], 0⟩] scope pos) ρ M q :=
  de_dcG hc hN ok h (fun F Q k D F' H' ks acc M' e' om' hM h' => by
    obtain ⟨hF, u, hu, ru⟩ := om'.mem D _ hM
    obtain ⟨xs, rfl, l2, rs⟩ := ru
    exact k (upd F' D (.dK (ks.zip xs))) H' _ (.dct ks acc) _ (e'.trans (Ex.new hF)) (om'.freeze hM hu) ⟨D, xs, rfl, upd_same, l2, rs.mono (Ex.new hF)⟩ h') hs
/-- .. stays a cell -/
theorem de_dcP (hc : X.calm = true) (hN : X.N.Nodup) (ok : BlkOk X.N X.env.scope scope own) (h : DI X F0 tg iter ρ M (DcK X F0 scope own tg kx vx ρ fun D _ _ M' => q (.ptr D) M')) (hs : ∀ x, foldedSetIterable iter X.env x = pure x := by intro _; rfl) :
    DE X F0 (.DictComp kx vx [⟨tg, iter, [], 0⟩] scope pos) ρ M q :=
  de_dcG hc hN ok h (fun F Q k D F' H' ks acc M' e' om' hM h' => k F' H' _ _ M' e' om' rep_ptr h') hs
theorem putD_new {ks : List Key} {ds : List Dat} {k : Key} {d : Dat} (h : k ∉ ks) : putD ks ds k d = (ks ++ [k], ds ++ [d]) := if_neg (fun z => h (hasK_iff.mp z))
/-- different keys, nothing changes: fk the key, fv the value of an item -/
theorem dcK_map {ds : List Dat} {qq : Addr → List Key → List Dat → Mem → Prop} (fk : Dat → Key) (fv : Dat → Dat) (h1 : ds.length ≤ 100000) (hn : (ds.map fk).Nodup)
    (h2 : ∀ d ∈ ds, ∀ M', ExM M1 M' → Blk X scope fun X' => DG X' F0 (some (own.map (·.2))) tg d (wipeD ρ (own.map (·.2))) M' fun ρ2 M2 => M2 = M' ∧ (Blk X scope fun X'' => ∀ q2 : DK, q2 (keyD (fk d)) M' → DE X'' F0 kx ρ2 M' q2) ∧ (Blk X scope fun X'' => ∀ q2 : DK, q2 (fv d) M' → DE X'' F0 vx ρ2 M' q2))
    (h3 : ∀ D, M1 D = none → qq D (ds.map fk) (ds.map fv) (updM M1 D (.dct (ds.map fk) (ds.map fv)))) : DcK X F0 scope own tg kx vx ρ qq ds M1 := by
  intro D hD
  have go : ∀ (r : List Dat) (ks : List Key) (acc : List Dat), (∀ d ∈ r, d ∈ ds) → (ks ++ r.map fk).Nodup → ks.length + r.length ≤ 100000 → qq D (ks ++ r.map fk) (acc ++ r.map fv) (updM M1 D (.dct (ks ++ r.map fk) (acc ++ r.map fv))) →
      DDp X F0 scope (own.map (·.2)) tg kx vx (wipeD ρ (own.map (·.2))) D (qq D) r ks acc (updM M1 D (.dct ks acc)) := by
    intro r
    induction r with
    | nil =>
      intro ks acc _ _ _ h
      rw [List.map_nil, List.map_nil, List.append_nil, List.append_nil] at h
      exact h
    | cons d r ih =>
      intro ks acc hd hnd hl h s H C cl fp
      refine PG.imp (h2 d (hd d List.mem_cons_self) _ (ExM.upd hD) s H C cl fp) fun ρ2 M2 ⟨hm, hk, hv⟩ => ?_
      subst hm
      intro s2 H2 C2 cl2 fp2
      refine hk s2 H2 C2 cl2 fp2 _ ?_
      intro s3 H3 C3 cl3 fp3
      refine hv s3 H3 C3 cl3 fp3 _ ?_
      have hnk : fk d ∉ ks := by
        intro z
        rw [List.map_cons] at hnd
        have := (List.nodup_append.mp hnd).2.2 _ z (fk d) List.mem_cons_self
        exact this rfl
      rw [List.length_cons] at hl
      refine ⟨fk d, rfl, updM_same, by omega, ?_⟩
      rw [putD_new hnk, updM_updM]
      refine ih (ks ++ [fk d]) (acc ++ [fv d]) (fun e he => hd e (List.mem_cons_of_mem _ he)) ?_ ?_ ?_
      · rw [List.append_assoc]
        exact hnd
      · rw [List.length_append, List.length_singleton]
        omega
      · rw [List.append_assoc, List.append_assoc]
        exact h
  exact go ds [] [] (fun d hd => hd) hn (by rw [List.length_nil]; omega) (h3 D hD)
end
end DL
/-! DL26: attributes of every kind, starred items, f-strings, [::-1] -/
namespace DL
open PySem PySem.Spec PyProof.Rows L2
/-- a property of the class C -/
structure Prp (P : Program) (w : World) (K : PySem.W.Frag) (mg : Str → Option Value) (base : Heap) (C : Addr) (m : Str) (k : Nat) (f : Addr) (S : DSpec) : Prop where
  prop : ∃ p, PropOf K C m p f
  ok : ∃ fd, (∀ (s : Shared) (us : List Value), us.length = (["self"] : List Str).length → BindsTo s fd ⟨us, []⟩ ((["self"] : List Str).zip us)) ∧ FnOk P w K mg base (L2.CX P w) k f fd ["self"] (LSp K S)
theorem Prp.mk' {P : Program} {w : World} {K : PySem.W.Frag} {mg : Str → Option Value} {base : Heap} {C : Addr} {m : Str} {k : Nat} {f p : Addr} {fd : FuncData} {S : DSpec} {rest : List Value} (h1 : PySem.W.findIn K (.ref C) m = some (some (.ref p))) (h2 : PySem.W.specialIn K (.ref p) "__get__" = some (some (.builtin "property.__get__")))
    (h3 : PySem.W.takesIn K (.ref p) = some true) (h4 : PySem.W.recIn K p "property" = some (.ref f :: rest)) (hp : ∀ (s : Shared) (us : List Value), us.length = (["self"] : List Str).length → BindsTo s fd ⟨us, []⟩ ((["self"] : List Str).zip us)) (F : FnOk P w K mg base (L2.CX P w) k f fd ["self"] (LSp K S)) : Prp P w K mg base C m k f S :=
  ⟨⟨p, h1, h2, h3, _, h4⟩, fd, hp, F⟩
/-- a constant of the class C -/
structure CCon (K : PySem.W.Frag) (C : Addr) (f : Str) (d : Dat) : Prop where
  ex : ∃ (mc : Value) (v : V) (u : Value), ClX.CRead K C mc ∧ ClX.CVal K C mc f v u ∧ ∀ F, Rep K F d v
theorem CCon.mk' {K : PySem.W.Frag} {C : Addr} {f : Str} {d : Dat} {mc : Value} {v : V} {u : Value} (h1 : PySem.W.readsIn K C mc = true) (h2 : PySem.W.specialIn K (.ref C) "__getattribute__" = some (some (.builtin "type.__getattribute__")))
    (h3 : PySem.W.findCls K (.ref C) mc f = some (.val u)) (r : RelV v u) (h : ∀ F, Rep K F d v) : CCon K C f d := ⟨mc, v, u, ⟨h1, h2⟩, ⟨h3, r⟩, h⟩
section
variable {X : Cx} {F0 : Hp} {ρ : DEnv} {M : Mem} {q : DK} {k k' : Nat} {f C : Addr} {S : DSpec} {e : Expr} {es : List Expr} {pos p : Pos} {m : Str} {d : Dat} {ns : List Str} {ds : List Dat}
/-- d.m -/
def DAt (X : Cx) (m : Str) (d : Dat) (M : Mem) (q : DK) : Prop :=
  (∃ C ns ds y, Ins M C ns ds d ∧ Cls X.K C ∧ NoAttr X.K C m ∧ (ns.zip ds).lookup m = some y ∧ q y M) ∨
  (∃ C ns ds k k' f S, Ins M C ns ds d ∧ Cls X.K C ∧ Prp X.prog X.w X.K X.mg X.base C m k f S ∧ Room k' X.A ∧ k + 1 ≤ k' ∧ S [d] M q (fun _ _ => False)) ∨
  ∃ C y, d = .ptr C ∧ CCon X.K C m y ∧ q y M
theorem DAt.fld {y : Dat} (hi : Ins M C ns ds d) (c : Cls X.K C) (n : NoAttr X.K C m) (hl : (ns.zip ds).lookup m = some y) (h : q y M) : DAt X m d M q := .inl ⟨C, ns, ds, y, hi, c, n, hl, h⟩
theorem DAt.prp (hp : Prp X.prog X.w X.K X.mg X.base C m k f S) (c : Cls X.K C) (hr : Room k' X.A) (hk : k + 1 ≤ k') (hi : Ins M C ns ds d) (h : S [d] M q (fun _ _ => False)) : DAt X m d M q := .inr (.inl ⟨C, ns, ds, k, k', f, S, hi, c, hp, hr, hk, h⟩)
theorem DAt.con {y : Dat} (c : CCon X.K C m y) (h : q y M) : DAt X m (.ptr C) M q := .inr (.inr ⟨C, y, rfl, c, h⟩)
theorem de_at (h : DE X F0 e ρ M fun d M1 => DAt X m d M1 q) (hb : attributeBase e m X.env (eval e X.env) = eval e X.env := by rfl) : DE X F0 (.Attribute e m pos) ρ M q := by
  refine ⟨fun pins s σ H Q I ⟨F, om, ol, kq⟩ => ?_⟩
  refine attr_of hb (thn ((uE (X := X) (F0 := F0) (e := e)).run pins s σ H (fun v H1 => ∃ F1 d M1, Ex F F1 ∧ OkM X.K F0 F1 M1 H1 ∧ Rep X.K F1 d v ∧ DAt X m d M1 q) I
    (tU.go h om ol fun F1 H1 v d M1 e1 om1 r1 h1 => ⟨F1, d, M1, e1, om1, r1, h1⟩)) fun u s1 ⟨v, H1, I1, rv, F1, d, M1, e1, om1, r1, h1⟩ => ?_)
  rcases h1 with ⟨C, ns, ds, y, hi, c, n, hl, hq⟩ | ⟨C, ns, ds, k, k', f, S, hi, c, hp, hr, hk, hs⟩ | ⟨C, y, rfl, hc, hq⟩
  · obtain ⟨a, dx, xs, rfl, ha, hlen, hx⟩ := hi.at om1 r1
    obtain rfl : u = Value.ref a := rv
    obtain ⟨vy, h3, h4⟩ := look_rep hlen hx hl
    exact getattr_ok I1 ha c n h3 fun u' s2 I2 ru => ⟨vy, H1, I2, ru, (kq.mono e1).fin om1 h4 hq⟩
  · obtain ⟨a, dx, xs, rfl, ha, hlen, hx⟩ := hi.at om1 r1
    obtain rfl : u = Value.ref a := rv
    obtain ⟨⟨p, hpo⟩, fd, hpos, F⟩ := hp
    refine getprop_ok (ds := []) (dvs := []) I1 ha c hpo F ((hr.mono hk)) (fun s us X hl => ?_) .nil (E := wX X.K F0 fun _ _ => False) (passes_call (XOk.none (X := X.nox)) (fun _ _ _ _ z => z)) ?_
    · rw [List.append_nil] at hl ⊢
      exact hpos s us hl
    · exact ⟨F1, [d], M1, q, _, om1.entry, Reps.cons r1 Reps.nil, hs, (kq.mono e1).entry om1, kX.entry om1⟩
  · obtain rfl : v = .ref C := r1
    obtain rfl : u = Value.ref C := rv
    obtain ⟨mc, w, u', h2, h3, h4⟩ := hc.ex
    exact ClX.getcval_ok I1 h2 h3 fun s2 I2 => ⟨w, H1, I2, h3.rel, (kq.mono e1).fin om1 (h4 F1) hq⟩
/-- *e in a display or among arguments -/
def starD (M : Mem) (d : Dat) (ds : List Dat) : Prop := d = .lst ds ∨ d = .tup ds ∨ ∃ p, d = .ptr p ∧ M p = some (.lst ds)
theorem da_star {q : List Dat → Mem → Prop} (h : DE X F0 e ρ M fun d M1 => ∃ ds, starD M1 d ds ∧ DA X F0 es ρ M1 fun es' M2 => q (ds ++ es') M2) (hs : starEach (.Starred e p :: es) X.env = (true, eval e X.env) :: starEach es X.env := by rfl) : DA X F0 (.Starred e p :: es) ρ M q :=
  PA.wk (StX.pa_star (uE (F0 := F0)) (uA (F0 := F0)) hs) fun σ H Q ⟨F, om, ol, kq⟩ => tU.go h om ol fun F1 H1 v d M1 e1 om1 r1 ⟨ds, hd, h1⟩ => by
    have : ∃ p xs, v = V.ref p ∧ (SqT X.K H1 p xs ∨ SqL X.K H1 p xs) ∧ Reps X.K F1 ds xs := by
      rcases hd with rfl | rfl | ⟨p, rfl, hM⟩
      · obtain ⟨p, xs, rfl, h2, h3⟩ := r1
        exact ⟨p, xs, rfl, .inr (Or.inl (Or.inl (om1.sub _ _ h2))), h3⟩
      · obtain ⟨p, xs, rfl, h2, h3⟩ := r1
        exact ⟨p, xs, rfl, .inl (ex_t om1.sub h2), h3⟩
      · obtain rfl : v = .ref p := r1
        obtain ⟨_, u, hu, ru⟩ := om1.mem p _ hM
        obtain ⟨xs, rfl, h3⟩ := ru
        exact ⟨p, xs, rfl, .inr (Or.inl (Or.inl hu)), h3⟩
    obtain ⟨p, xs, rfl, h2, h3⟩ := this
    exact ⟨p, xs, rfl, h2, tUA.go h1 om1 (ol.mono e1) fun F2 H2 vs es' M2 e2 om2 r2 hq => kq F2 H2 _ _ M2 (e1.trans e2) om2 ((h3.mono e2).app r2) hq⟩
/-! ### f'..' -/
def DJ (X : Cx) (F0 : Hp) (ρ : DEnv) : List Expr → Str → Mem → DK → Prop
  | [], acc, M, q => q (.str acc) M
  | e :: es, acc, M, q => DE X F0 e ρ M fun d M1 => ∃ y, d = .str y ∧ (acc ++ y).length ≤ 1000000 ∧ DJ X F0 ρ es (acc ++ y) M1 q
theorem dj_all : ∀ es : List Expr, PJ X es (es.map (tU X F0))
  | [] => .nil
  | e :: es => .cons uE (dj_all es)
theorem dj_run {Q : VK} {F : Hp} (kq : kV X.K F0 F q Q) : ∀ {es : List Expr} {acc : Str} {M : Mem} {σ : L2.St} {H F1 : Hp}, Ex F F1 → OkM X.K F0 F1 M H → OkL X.K F1 ρ σ → DJ X F0 ρ es acc M q → tJs (es.map (tU X F0)) acc σ H fun out H1 => Q (.str out) H1
  | [], acc, M, σ, H, F1, e1, om, ol, h => kq F1 H _ _ M e1 om rep_str h
  | e :: es, acc, M, σ, H, F1, e1, om, ol, h => tU.go h om ol fun F2 H2 v d M2 e2 om2 r2 ⟨y, hd, hl, h2⟩ => by
    subst hd
    obtain rfl : v = .str y := r2
    exact ⟨y, rfl, Nat.le_trans hl (by decide), dj_run kq (e1.trans e2) om2 (ol.mono e2) h2⟩
theorem de_js {v1 v2 : Expr} (h : DJ X F0 ρ (v1 :: v2 :: es) Str.empty M q) : DE X F0 (.JoinedStr (v1 :: v2 :: es) pos) ρ M q :=
  PE.wk (pe_joined (dj_all (X := X) (F0 := F0) (v1 :: v2 :: es))) fun σ H Q ⟨F, om, ol, kq⟩ => dj_run kq (Ex.refl F) om ol h
theorem dj_nil {acc : Str} (h : q (.str acc) M) : DJ X F0 ρ [] acc M q := h
theorem dj_cons {acc : Str} (h : DE X F0 e ρ M fun d M1 => ∃ y, d = .str y ∧ (acc ++ y).length ≤ 1000000 ∧ DJ X F0 ρ es (acc ++ y) M1 q) : DJ X F0 ρ (e :: es) acc M q := h
theorem de_js1 (h : DE X F0 e ρ M q) : DE X F0 (.JoinedStr [e] pos) ρ M q := pe_joined1 h
theorem de_fmt (h : DE X F0 e ρ M fun d M1 => (∃ y, d = .str y ∧ y.length ≤ 1000000 ∧ q (.str y) M1) ∨ ∃ i, d = .int i ∧ IB 1900 i ∧ q (.str (toString i)) M1) : DE X F0 (.FormattedValue e (-1) none pos) ρ M q :=
  PE.wk (pe_fmt (uE (F0 := F0))) fun σ H Q ⟨F, om, ol, kq⟩ => tU.go h om ol fun F1 H1 v d M1 e1 om1 r1 h1 => by
    rcases h1 with ⟨y, rfl, hl, hq⟩ | ⟨i, rfl, hi, hq⟩
    · obtain rfl : v = .str y := r1
      exact .inl ⟨y, rfl, Nat.le_trans hl (by decide), (kq.mono e1).fin om1 rep_str hq⟩
    · obtain rfl : v = .int i := r1
      exact .inr ⟨i, rfl, hi.log (Nat.le_refl _), (kq.mono e1).fin om1 rep_str hq⟩
/-! ### xs[::-1] -/
theorem reps_rev {K : PySem.W.Frag} {F : Hp} : ∀ {ds : List Dat} {xs : List V}, Reps K F ds xs → Reps K F ds.reverse xs.reverse
  | [], _, h => by
    cases h
    exact Reps.nil
  | d :: ds, _, h => by
    obtain ⟨x, r, rfl, h1, h2⟩ := h
    rw [List.reverse_cons, List.reverse_cons]
    exact (reps_rev h2).app (Reps.cons h1 Reps.nil)
theorem de_revL {kk : Nat} {p1 p2 p3 : Pos} (h : DE X F0 e ρ M fun d M1 => ∃ ds, d = .lst ds ∧ q (.lst ds.reverse) M1) : DE X F0 (.Subscript e (.Slice none none (some (.UnaryOp .USub (.Constant (.int 1) kk p1) p2)) p3) pos) ρ M q :=
  PE.wk (pe_revL (uE (F0 := F0))) fun σ H Q ⟨F, om, ol, kq⟩ => tU.go h om ol fun F1 H1 v d M1 e1 om1 r1 ⟨ds, hd, hq⟩ => by
    subst hd
    obtain ⟨a, xs, rfl, h2, h3⟩ := r1
    refine ⟨a, xs, rfl, Or.inl (Or.inl (om1.sub _ _ h2)), fun p hp => (kq.mono e1).lst om1 ?_ hq hp⟩
    exact reps_rev h3
end
end DL
/-! DL27: == of data that tell a Lean value -/
namespace DL
open PySem PySem.Spec PyProof.Rows L2
/-- f tells values of α by data, so that == decides their equality -/
def EqT {α : Type} [DecidableEq α] (k : Nat) (f : α → Dat) (ok : α → Prop) : Prop :=
  ∃ g : α → PyData, (∀ a, ok a → toPy (f a) = some (g a) ∧ (g a).canLay0 = true ∧ (g a).depth ≤ k) ∧ ∀ a b, ok a → ok b → PyData.eqv (g a) (g b) = decide (a = b)
theorem eqvAll_map {α : Type} [DecidableEq α] {g : α → PyData} {ok : α → Prop} (h : ∀ a b, ok a → ok b → PyData.eqv (g a) (g b) = decide (a = b)) : ∀ {l m : List α}, (∀ a ∈ l, ok a) → (∀ a ∈ m, ok a) → PyData.eqvAll (l.map g) (m.map g) = decide (l = m)
  | [], [], _, _ => rfl
  | [], _ :: _, _, _ => rfl
  | _ :: _, [], _, _ => rfl
  | a :: l, b :: m, ha, hb => by
    rw [List.map_cons, List.map_cons, PyData.eqvAll, h a b (ha a List.mem_cons_self) (hb b List.mem_cons_self), eqvAll_map h (fun x hx => ha x (List.mem_cons_of_mem _ hx)) fun x hx => hb x (List.mem_cons_of_mem _ hx), ← Bool.decide_and]
    exact decide_eq_decide.mpr (by rw [List.cons.injEq])
theorem toPys_map {α : Type} {f : α → Dat} {g : α → PyData} {k : Nat} : ∀ {l : List α}, (∀ a ∈ l, toPy (f a) = some (g a) ∧ (g a).canLay0 = true ∧ (g a).depth ≤ k) → toPys (l.map f) = some (l.map g) ∧ PyData.canLayAll0 (l.map g) = true ∧ PyData.depthAll (l.map g) ≤ k
  | [], _ => ⟨rfl, rfl, Nat.zero_le _⟩
  | a :: l, h => by
    obtain ⟨h1, h2, h3⟩ := h a List.mem_cons_self
    obtain ⟨h4, h5, h6⟩ := toPys_map fun x hx => h x (List.mem_cons_of_mem _ hx)
    refine ⟨?_, ?_, ?_⟩
    · rw [List.map_cons, List.map_cons]
      simp only [toPys, h1, h4]
    · rw [List.map_cons]
      exact Bool.and_eq_true_iff.mpr ⟨h2, h5⟩
    · rw [List.map_cons]
      exact Nat.max_le.mpr ⟨h3, h6⟩
theorem EqT.lst {α : Type} [DecidableEq α] {k : Nat} {f : α → Dat} {ok : α → Prop} (h : EqT k f ok) : EqT (k + 1) (fun l : List α => .lst (l.map f)) (fun l => ∀ a ∈ l, ok a) := by
  obtain ⟨g, h1, h2⟩ := h
  refine ⟨fun l => .list (l.map g), fun l hl => ?_, fun l m hl hm => eqvAll_map h2 hl hm⟩
  obtain ⟨h3, h4, h5⟩ := toPys_map (k := k) fun a ha => h1 a (hl a ha)
  exact ⟨by simp only [toPy, h3]; rfl, h4, Nat.succ_le_succ h5⟩
theorem EqT.tup {α : Type} [DecidableEq α] {k : Nat} {f : α → Dat} {ok : α → Prop} (h : EqT k f ok) : EqT (k + 1) (fun l : List α => .tup (l.map f)) (fun l => ∀ a ∈ l, ok a) := by
  obtain ⟨g, h1, h2⟩ := h
  refine ⟨fun l => .tuple (l.map g), fun l hl => ?_, fun l m hl hm => eqvAll_map h2 hl hm⟩
  obtain ⟨h3, h4, h5⟩ := toPys_map (k := k) fun a ha => h1 a (hl a ha)
  exact ⟨by simp only [toPy, h3]; rfl, h4, Nat.succ_le_succ h5⟩
def StrG (z : Str) : Prop := PyData.strOk z = true
theorem strG_of {z : Str} (h : ∀ c ∈ z.cps.toList, 97 ≤ c ∧ c ≤ 122) : StrG z := by
  unfold StrG PyData.strOk
  rw [Array.all_eq_true_iff_forall_mem]
  intro c hc
  have := h c (Array.mem_toList_iff.mpr hc)
  first
  | exact decide_eq_true (by omega)
  | (simp; omega)
theorem EqT.int : EqT 0 Dat.int (fun _ => True) := ⟨PyData.int, fun _ _ => ⟨rfl, rfl, Nat.le_refl _⟩, fun a b _ _ => by
  show (a == b) = _
  by_cases h : a = b
  · rw [decide_eq_true h]
    exact beq_iff_eq.mpr h
  · rw [decide_eq_false h]
    exact beq_eq_false_iff_ne.mpr h⟩
theorem EqT.str : EqT 0 Dat.str StrG := ⟨PyData.str, fun _ h => ⟨rfl, h, Nat.le_refl _⟩, fun a b _ _ => by
  show (a == b) = _
  by_cases h : a = b
  · rw [decide_eq_true h]
    exact beq_iff_eq.mpr h
  · rw [decide_eq_false h]
    exact beq_eq_false_iff_ne.mpr h⟩
theorem EqT.bl : EqT 0 Dat.bl (fun _ => True) := ⟨PyData.bool, fun _ _ => ⟨rfl, rfl, Nat.le_refl _⟩, fun a b _ _ => by
  show (a == b) = _
  cases a <;> cases b <;> rfl⟩
/-- a pair, a triple -/
theorem EqT.pair {α β : Type} [DecidableEq α] [DecidableEq β] {k : Nat} {f : α → Dat} {g : β → Dat} {ok : α → Prop} {ok' : β → Prop} (h : EqT k f ok) (h' : EqT k g ok') : EqT (k + 1) (fun p : α × β => .tup [f p.1, g p.2]) (fun p => ok p.1 ∧ ok' p.2) := by
  obtain ⟨u, h1, h2⟩ := h
  obtain ⟨v, h3, h4⟩ := h'
  refine ⟨fun p => .tuple [u p.1, v p.2], fun p hp => ?_, fun p r hp hr => ?_⟩
  · obtain ⟨a1, a2, a3⟩ := h1 p.1 hp.1
    obtain ⟨b1, b2, b3⟩ := h3 p.2 hp.2
    refine ⟨by simp only [toPy, toPys, a1, b1]; rfl, ?_, ?_⟩
    · show (_ && (_ && true)) = true
      rw [a2, b2]
      rfl
    · show max _ (max _ 0) + 1 ≤ k + 1
      omega
  · show (PyData.eqv _ _ && (PyData.eqv _ _ && true)) = _
    rw [h2 _ _ hp.1 hr.1, h4 _ _ hp.2 hr.2, Bool.and_true, ← Bool.decide_and]
    refine decide_eq_decide.mpr ?_
    rw [Prod.ext_iff]
theorem EqT.triple {α β γ : Type} [DecidableEq α] [DecidableEq β] [DecidableEq γ] {k : Nat} {f : α → Dat} {g : β → Dat} {e : γ → Dat} {ok : α → Prop} {ok' : β → Prop} {ok2 : γ → Prop} (h : EqT k f ok) (h' : EqT k g ok') (hh : EqT k e ok2) :
    EqT (k + 1) (fun p : α × β × γ => .tup [f p.1, g p.2.1, e p.2.2]) (fun p => ok p.1 ∧ ok' p.2.1 ∧ ok2 p.2.2) := by
  obtain ⟨u, h1, h2⟩ := h
  obtain ⟨v, h3, h4⟩ := h'
  obtain ⟨w, h5, h6⟩ := hh
  refine ⟨fun p => .tuple [u p.1, v p.2.1, w p.2.2], fun p hp => ?_, fun p r hp hr => ?_⟩
  · obtain ⟨a1, a2, a3⟩ := h1 p.1 hp.1
    obtain ⟨b1, b2, b3⟩ := h3 p.2.1 hp.2.1
    obtain ⟨c1, c2, c3⟩ := h5 p.2.2 hp.2.2
    refine ⟨by simp only [toPy, toPys, a1, b1, c1]; rfl, ?_, ?_⟩
    · show (_ && (_ && (_ && true))) = true
      rw [a2, b2, c2]
      rfl
    · show max _ (max _ (max _ 0)) + 1 ≤ k + 1
      omega
  · show (PyData.eqv _ _ && (PyData.eqv _ _ && (PyData.eqv _ _ && true))) = _
    rw [h2 _ _ hp.1 hr.1, h4 _ _ hp.2.1 hr.2.1, h6 _ _ hp.2.2 hr.2.2, Bool.and_true, ← Bool.decide_and, ← Bool.decide_and]
    refine decide_eq_decide.mpr ?_
    rw [Prod.ext_iff, Prod.ext_iff]
section
variable {X : Cx} {F0 : Hp} {M : Mem} {q : DK} {α : Type} [DecidableEq α] {k k' : Nat} {f : α → Dat} {ok : α → Prop} {a b : α}
theorem dop_eqK (h : EqT k f ok) (hr : Room k' X.A) (ha : ok a) (hb : ok b) (hq : q (.bl (decide (a = b))) M) (hk : k ≤ 60 := by decide) : DOp X F0 (compareOp .Eq) (f a) (f b) M q := by
  obtain ⟨g, h1, h2⟩ := h
  obtain ⟨a1, a2, a3⟩ := h1 a ha
  obtain ⟨b1, b2, b3⟩ := h1 b hb
  refine dop_eqP hr a1 b1 ?_ ?_ (by rw [h2 a b ha hb]; exact hq)
  · exact Bool.and_eq_true_iff.mpr ⟨a2, decide_eq_true (by omega)⟩
  · exact Bool.and_eq_true_iff.mpr ⟨b2, decide_eq_true (by omega)⟩
theorem dop_neK (h : EqT k f ok) (hr : Room k' X.A) (ha : ok a) (hb : ok b) (hq : q (.bl (!decide (a = b))) M) (hk : k ≤ 60 := by decide) : DOp X F0 (compareOp .NotEq) (f a) (f b) M q := by
  obtain ⟨g, h1, h2⟩ := h
  obtain ⟨a1, a2, a3⟩ := h1 a ha
  obtain ⟨b1, b2, b3⟩ := h1 b hb
  refine dop_neP hr a1 b1 ?_ ?_ (by rw [h2 a b ha hb]; exact hq)
  · exact Bool.and_eq_true_iff.mpr ⟨a2, decide_eq_true (by omega)⟩
  · exact Bool.and_eq_true_iff.mpr ⟨b2, decide_eq_true (by omega)⟩
end
end DL
/-! DL28: a cell that will not change any more -/
namespace DL
open PySem PySem.Spec PyProof.Rows L2
theorem set_self {α : Type} : ∀ {l : List α} {i : Nat} {a : α}, l[i]? = some a → l.set i a = l
  | [], _, _, h => by simp at h
  | x :: l, 0, a, h => by
    have e : x = a := by simpa using h
    rw [e]
    rfl
  | x :: l, i + 1, a, h => by
    show x :: l.set i a = _
    rw [set_self (by simpa using h)]
theorem dss_frz {X : Cx} {F0 : Hp} {sts : List Stmt} {ρ : DEnv} {M : Mem} {D : DEnds} {i : Nat} {p : Addr} {ds : List Dat} (hi : ρ[i]? = some (some (.ptr p))) (hM : M p = some (.lst ds)) (h : DSs X F0 sts (ρ.set i (some (.lst ds))) (delM M p) D) : DSs X F0 sts ρ M D :=
  PSs.wk h fun E σ H ⟨F, om, ol, k⟩ => by
    obtain ⟨hF, u, hu, ru⟩ := om.mem p _ hM
    obtain ⟨xs, rfl, rs⟩ := ru
    have e : Ex F (upd F p (.lst xs)) := Ex.new hF
    refine ⟨upd F p (.lst xs), om.freeze hM hu, ?_, k.mono e⟩
    obtain ⟨v, hv, rv⟩ := ol.loc i _ hi
    obtain rfl : v = .ref p := rv
    have := (ol.mono e).set i (rep_lst (p := p) upd_same (rs.mono e))
    rwa [set_self hv] at this
theorem ds_frz {X : Cx} {F0 : Hp} {st : Stmt} {ρ : DEnv} {M : Mem} {D : DEnds} {i : Nat} {p : Addr} {ds : List Dat} (hi : ρ[i]? = some (some (.ptr p))) (hM : M p = some (.lst ds)) (h : DS X F0 st (ρ.set i (some (.lst ds))) (delM M p) D) : DS X F0 st ρ M D :=
  PS.wk h fun E σ H ⟨F, om, ol, k⟩ => by
    obtain ⟨hF, u, hu, ru⟩ := om.mem p _ hM
    obtain ⟨xs, rfl, rs⟩ := ru
    have e : Ex F (upd F p (.lst xs)) := Ex.new hF
    refine ⟨upd F p (.lst xs), om.freeze hM hu, ?_, k.mono e⟩
    obtain ⟨v, hv, rv⟩ := ol.loc i _ hi
    obtain rfl : v = .ref p := rv
    have := (ol.mono e).set i (rep_lst (p := p) upd_same (rs.mono e))
    rwa [set_self hv] at this
theorem Same.at {p a : Addr} {M M' : Mem} {o : MO} (h : Same p M M') (n : a ≠ p) (e : M a = some o) : M' a = some o := (h a n).trans e
end DL
/-! DL29: == of data that tell a Lean value, as EqD -/
namespace DL
open PySem PySem.Spec PyProof.Rows L2
theorem EqT.eqD {α : Type} [DecidableEq α] {k : Nat} {f : α → Dat} {ok : α → Prop} {a b : α} {q : Bool → Prop} (h : EqT k f ok) (ha : ok a) (hb : ok b) (hq : q (decide (a = b))) (hk : k ≤ 60 := by decide) : EqD (f a) (f b) q := by
  obtain ⟨g, h1, h2⟩ := h
  obtain ⟨a1, a2, a3⟩ := h1 a ha
  obtain ⟨b1, b2, b3⟩ := h1 b hb
  refine ⟨_, ?_, hq⟩
  unfold eqDD
  rw [a1, b1]
  show (if SeqAt.shaped (g a) && SeqAt.shaped (g b) then _ else _) = _
  have e1 : SeqAt.shaped (g a) = true := Bool.and_eq_true_iff.mpr ⟨a2, decide_eq_true (by omega)⟩
  have e2 : SeqAt.shaped (g b) = true := Bool.and_eq_true_iff.mpr ⟨b2, decide_eq_true (by omega)⟩
  rw [e1, e2, h2 a b ha hb]
  rfl
end DL
/-! DL30: dict(list of pairs) -/
namespace DL
open PySem PySem.Spec PyProof.Rows L2
abbrev pairD (kd : Key × Dat) : Dat := .tup [keyD kd.1, kd.2]
def mrgD (ks : List Key) (ds : List Dat) : List (Key × Dat) → List Key × List Dat
  | [] => (ks, ds)
  | kd :: r => mrgD (putD ks ds kd.1 kd.2).1 (putD ks ds kd.1 kd.2).2 r
theorem pairs_rep {K : PySem.W.Frag} {F H : Hp} (hs : Ex F H) : ∀ {kds : List (Key × Dat)} {xs : List V}, Reps K F (kds.map pairD) xs → ∃ (ps : List Addr) (kvs : List (Key × V)), xs = ps.map V.ref ∧ Paired (fun p (kv : Key × V) => SqT K H p [L2.kV kv.1, kv.2]) ps kvs ∧ kvs.map (·.1) = kds.map (·.1) ∧ Reps K F (kds.map (·.2)) (kvs.map (·.2))
  | [], xs, r => by
    cases r
    exact ⟨[], [], rfl, .nil, rfl, Reps.nil⟩
  | kd :: kds, xs, r => by
    obtain ⟨x, t, rfl, ⟨p, ys, rfl, hp, hy⟩, h2⟩ := r
    obtain ⟨y1, t1, rfl, r1, hy⟩ := hy
    obtain ⟨y2, t2, rfl, r2, hy⟩ := hy
    cases hy
    obtain rfl := rep_key r1
    obtain ⟨ps, kvs, rfl, g1, g2, g3⟩ := pairs_rep hs h2
    exact ⟨p :: ps, (kd.1, y2) :: kvs, rfl, .cons (ex_t hs hp) g1, by rw [List.map_cons, List.map_cons, g2], Reps.cons r2 g3⟩
theorem mrg_rep {K : PySem.W.Frag} {F : Hp} : ∀ {kds : List (Key × Dat)} {kvs : List (Key × V)} {ks : List Key} {ds : List Dat} {xs : List V}, kvs.map (·.1) = kds.map (·.1) → Reps K F (kds.map (·.2)) (kvs.map (·.2)) → ks.length = xs.length → Reps K F ds xs →
    ∃ ys, mergeK (ks.zip xs) kvs = (mrgD ks ds kds).1.zip ys ∧ (mrgD ks ds kds).1.length = ys.length ∧ Reps K F (mrgD ks ds kds).2 ys
  | [], [], ks, ds, xs, _, _, hl, hr => ⟨xs, rfl, hl, hr⟩
  | [], _ :: _, _, _, _, e, _, _, _ => by cases e
  | _ :: _, [], _, _, _, e, _, _, _ => by cases e
  | kd :: kds, kv :: kvs, ks, ds, xs, e, r, hl, hr => by
    obtain ⟨e1, e2⟩ := List.cons.inj e
    obtain ⟨x, t, ex, r1, r2⟩ := r
    obtain ⟨rfl, rfl⟩ := List.cons.inj ex
    obtain ⟨ys, g1, g2, g3⟩ := put_repK (k := kd.1) r1 hl hr
    obtain ⟨zs, k1, k2, k3⟩ := mrg_rep (kds := kds) (kvs := kvs) e2 r2 g2 g3
    refine ⟨zs, ?_, k2, k3⟩
    have e3 : kv.1 = kd.1 := e1
    show mergeK (putK (ks.zip xs) kv.1 kv.2) kvs = _
    rw [e3, show putK (ks.zip xs) kd.1 kv.2 = _ from g1]
    exact k1
section
variable {X : Cx} {F0 : Hp} {M : Mem} {q : DK}
theorem dcl_dictP {kds : List (Key × Dat)} (hc : X.calm = true) (h : ∀ p, M p = none → q (.ptr p) (updM M p (.dct (mrgD [] [] kds).1 (mrgD [] [] kds).2))) : DCl X F0 (.type "dict") [.lst (kds.map pairD)] M q :=
  ⟨_, call_dictP hc, fun F H vs Q om r kq => by
    obtain ⟨v, rfl, p, xs, rfl, h2, h3⟩ := reps1 r
    obtain ⟨ps, kvs, rfl, g1, g2, g3⟩ := pairs_rep om.sub h3
    obtain ⟨ys, k1, k2, k3⟩ := mrg_rep (ks := []) (ds := []) (xs := []) g2 g3 rfl Reps.nil
    refine ⟨p, ps, kvs, rfl, SqL.of (om.sub _ _ h2), g1, fun a ha => ?_⟩
    rw [show mergeK [] kvs = _ from k1]
    exact kq F _ _ _ _ (Ex.refl F) (om.cell ha (w := .dct _ _) ⟨ys, rfl, k2, k3⟩) rep_ptr (h a (om.freeM ha))⟩
theorem dcl_dictF {kds : List (Key × Dat)} (hc : X.calm = true) (h : q (.dct (mrgD [] [] kds).1 (mrgD [] [] kds).2) M) : DCl X F0 (.type "dict") [.lst (kds.map pairD)] M q :=
  ⟨_, call_dictP hc, fun F H vs Q om r kq => by
    obtain ⟨v, rfl, p, xs, rfl, h2, h3⟩ := reps1 r
    obtain ⟨ps, kvs, rfl, g1, g2, g3⟩ := pairs_rep om.sub h3
    obtain ⟨ys, k1, k2, k3⟩ := mrg_rep (ks := []) (ds := []) (xs := []) g2 g3 rfl Reps.nil
    refine ⟨p, ps, kvs, rfl, SqL.of (om.sub _ _ h2), g1, fun a ha => ?_⟩
    rw [show mergeK [] kvs = _ from k1]
    have om2 := om.cell ha (w := .dct (mrgD [] [] kds).1 (mrgD [] [] kds).2) (u := .dK ((mrgD [] [] kds).1.zip ys)) ⟨ys, rfl, k2, k3⟩
    have hF := (om2.mem a _ updM_same).1
    exact kq (upd F a (.dK ((mrgD [] [] kds).1.zip ys))) _ _ (.dct _ _) _ (Ex.new hF) (om2.freeze updM_same upd_same) ⟨a, ys, rfl, upd_same, k2, k3.mono (Ex.new hF)⟩ (by rw [del_upd (om.freeM ha)]; exact h)⟩
end
end DL
namespace DL
open PySem PySem.Spec PyProof.Rows L2
section
variable {X : Cx} {F0 : Hp} {ρ : DEnv} {M : Mem}
/-- a statement's ends meet in one place -/
theorem ds_meet {s : Stmt} {D : DEnds} (P : DEnv → Mem → Prop) (h : DS X F0 s ρ M { nx := P, rt := D.rt, bk := D.bk, ct := D.ct }) (h2 : ∀ ρ' M', P ρ' M' → D.nx ρ' M') : DS X F0 s ρ M D :=
  PS.wk h fun E σ H ⟨F, om, ol, kk⟩ => ⟨F, om, ol, ⟨fun F' H' σ' ρ' M' e om' ol' hp => kk.nx F' H' σ' ρ' M' e om' ol' (h2 _ _ hp), kk.rt, kk.bk, kk.ct⟩⟩
end
end DL
/-! DL31: zip of tuples and lists in any mix, in data -/
namespace DL
open PySem PySem.Spec PyProof.Rows L2
def SqB (t : Bool) (K : PySem.W.Frag) (H : Hp) (a : Addr) (xs : List V) : Prop := match t with
  | true => SqT K H a xs
  | false => SqL K H a xs
def HoldB (t : Bool) (h : Heap) (a : Addr) (its : Array Value) : Prop := match t with
  | true => h.IsTuple a its
  | false => h.IsList a its
def ItB (t : Bool) (h : Heap) (it a : Addr) (i : Nat) : Prop := match t with
  | true => h.IsTupleIter it a i
  | false => h.IsListIter it a i
def objB (t : Bool) (a : Addr) : Obj := match t with
  | true => { cls := .type "tuple_iterator", data := .fields #[.ref a, .int 0 0] }
  | false => { cls := .type "list_iterator", data := .fields #[.ref a, .int 0 0] }
theorem ItB.obj {t : Bool} {h : Heap} {it a : Addr} {i : Nat} (st : ItB t h it a i) : ∃ o, h.get? it = some o ∧ o.data = .fields #[.ref a, .int i 0] := by
  cases t with
  | true => obtain ⟨o, h1, _, h2⟩ := (show h.IsTupleIter it a i from st); exact ⟨o, h1, h2⟩
  | false => obtain ⟨o, h1, _, h2⟩ := (show h.IsListIter it a i from st); exact ⟨o, h1, h2⟩
theorem ItB.at {t : Bool} {h h' : Heap} {it a : Addr} {i : Nat} (st : ItB t h it a i) (k : ∀ o, h.get? it = some o → h'.get? it = some o) : ItB t h' it a i := by
  cases t with
  | true => exact (show h.IsTupleIter it a i from st).at k
  | false => exact (show h.IsListIter it a i from st).at k
theorem HoldB.lt {t : Bool} {h : Heap} {a : Addr} {its : Array Value} (st : HoldB t h a its) : a < h.objs.size := by
  cases t with
  | true => obtain ⟨o, h1, _⟩ := (show h.IsTuple a its from st); exact Heap.lt_size h1
  | false => obtain ⟨o, h1, _⟩ := (show h.IsList a its from st); exact Heap.lt_size h1
theorem drawsB {prog : Program} {w : World} {A : Around} (hh : A.handled = none) (t : Bool) (it a : Addr) (hne : a ≠ it) (its : Array Value) :
    Draws prog w A it [it, a] its.size (fun i v => its[i]? = some v) (fun i h => ItB t h it a i ∧ HoldB t h a its) := by
  cases t with
  | true => exact Draws.tuple hh it a hne its
  | false => exact Draws.list hh it a hne its
theorem beginsB (t : Bool) (a : Addr) (its : Array Value) : Begins (.ref a) (objB t a) (fun h => HoldB t h a its) := by
  cases t with
  | true => exact begins_tuple a its
  | false => exact begins_list a its
theorem itB_new {t : Bool} {h : Heap} {it a : Addr} (e : h.get? it = some (objB t a)) : ItB t h it a 0 := by
  cases t with
  | true => exact ⟨_, e, rfl, rfl⟩
  | false => exact ⟨_, e, rfl, rfl⟩
section
variable {X : Cx} {pins : List (Addr × Obj)} {σ : L2.St} {H : Hp} {s : Shared} {a : Addr} {xs ys : List V}
theorem inv_sqB (I : Inv X pins σ H s) {t : Bool} (h : SqB t X.K H a xs) : ∃ its : List Value, Vals xs its ∧ HoldB t s.heap a its.toArray := by
  cases t with
  | true => obtain ⟨its, r, p, _⟩ := I.tuple h; exact ⟨its, r, p⟩
  | false => obtain ⟨its, r, p, _⟩ := I.list h; exact ⟨its, r, p.isList⟩
theorem inv_sqB_inj (I : Inv X pins σ H s) {t : Bool} (h : SqB t X.K H a xs) (h' : SqB t X.K H a ys) : xs = ys := by
  cases t with
  | true => exact I.tuple_inj h h'
  | false => exact I.list_inj h h'
end
theorem ex_b {t : Bool} {K : PySem.W.Frag} {H H' : Hp} {a : Addr} {xs : List V} (e : Ex H H') (h : SqB t K H a xs) : SqB t K H' a xs := by
  cases t with
  | true => exact ex_t e h
  | false => exact ex_l e h
/-- the sequences at a and b, of n1 and n2 items, the items in new pairs -/
def Izb (t1 t2 : Bool) (K : PySem.W.Frag) (a b : Addr) (n1 n2 : Nat) : It :=
  ⟨fun i H => ∃ (xs ys : List V) (x y : V), SqB t1 K H a xs ∧ SqB t2 K H b ys ∧ xs.length = n1 ∧ ys.length = n2 ∧ xs[i]? = some x ∧ ys[i]? = some y,
    fun i H v H' => ∃ T x y, v = .ref T ∧ H T = none ∧ H' = upd H T (.tup [x, y]) ∧ (∀ xs, SqB t1 K H a xs → xs[i]? = some x) ∧ ∀ ys, SqB t2 K H b ys → ys[i]? = some y,
    fun i H => ∃ xs ys : List V, SqB t1 K H a xs ∧ SqB t2 K H b ys ∧ xs.length = n1 ∧ ys.length = n2 ∧ (n1 ≤ i ∨ n2 ≤ i)⟩
theorem turn_zipB {P : Program} {w : World} {K : PySem.W.Frag} {elts : List Expr} {kk : Nat} {tpos : Pos} {t1 t2 : Bool} {a b z TI TO i1 i2 : Addr} {n1 n2 : Nat} (S : ZipSep2 z TI TO i1 i2 [i1, a] [i2, b]) (ha : a ≠ i1) (hb : b ≠ i2) :
    Turn P w K (.Tuple elts kk tpos) (Izb t1 t2 K a b n1 n2) [z, TI, TO, i1, i2] z (fun i h => IsZip h z TI TO .none ∧ IsTupOf2 h TI (.ref i1) (.ref i2) ∧ (∃ x y, IsTupOf2 h TO x y) ∧ ItB t1 h i1 a i ∧ ItB t2 h i2 b i ∧ i ≤ n1 ∧ i ≤ n2) where
  mem := by simp
  obj := fun i h st c hc => by
    obtain ⟨hz, hTI, ⟨x, y, hTO⟩, h1, h2, _⟩ := st
    obtain ⟨o1, e1, d1⟩ := h1.obj
    obtain ⟨o2, e2, d2⟩ := h2.obj
    have e' : c = z ∨ c = TI ∨ c = TO ∨ c = i1 ∨ c = i2 := by simpa using hc
    rcases e' with q | q | q | q | q
    · rw [q]; exact ⟨_, hz, fun v q => nomatch q⟩
    · rw [q]; exact ⟨_, hTI, fun v q => nomatch q⟩
    · rw [q]; exact ⟨_, hTO, fun v q => nomatch q⟩
    · rw [q]; exact ⟨o1, e1, fun v q => by rw [d1] at q; cases q⟩
    · rw [q]; exact ⟨o2, e2, fun v q => by rw [d2] at q; cases q⟩
  keep := fun i h h' st k => by
    obtain ⟨hz, hTI, ⟨x, y, hTO⟩, h1, h2, l1, l2⟩ := st
    exact ⟨k z (by simp) _ hz, k TI (by simp) _ hTI, ⟨x, y, k TO (by simp) _ hTO⟩, h1.at fun o q => k i1 (by simp) o q, h2.at fun o q => k i2 (by simp) o q, l1, l2⟩
  item := by
    intro X hP hw hK hc i pins s σ H E I hf st hg
    subst hP hw hK
    obtain ⟨hz, hTI, ⟨x0, y0, hTO⟩, h1, h2, _, _⟩ := st
    obtain ⟨xs, ys, x, y, hqx, hqy, ln1, ln2, hx, hy⟩ := hg
    obtain ⟨its, rv, p⟩ := inv_sqB I hqx
    obtain ⟨its2, rv2, p2⟩ := inv_sqB I hqy
    obtain ⟨u, hu, ru⟩ := rv.get hx
    obtain ⟨u2, hu2, ru2⟩ := rv2.get hy
    have hzl : z < s.heap.objs.size := Heap.lt_size hz
    have b1 : i < its.length := (List.getElem?_eq_some_iff.mp hu).1
    have b2 : i < its2.length := (List.getElem?_eq_some_iff.mp hu2).1
    have b3 : i < xs.length := (List.getElem?_eq_some_iff.mp hx).1
    have b4 : i < ys.length := (List.getElem?_eq_some_iff.mp hy).1
    refine wpAny_pyNext_zipD2_item S (drawsB (A := X.A.in1) (I.ok.hd hc) t1 i1 a ha its.toArray) (drawsB (A := X.A.in1) (I.ok.hd hc) t2 i2 b hb its2.toArray) hz hTI hTO ⟨h1, p⟩ ⟨h2, p2⟩ (by simpa using b1) (by simpa using b2) fun v1 v2 h' tk hv1 hv2 z' TO' h1' h2' hT hsz hk => ?_
    have ev1 : v1 = u := by
      have q1 : its.toArray[i]? = some v1 := hv1
      have q2 : its[i]? = some v1 := by simpa using q1
      rw [hu] at q2
      exact (Option.some.inj q2).symm
    have ev2 : v2 = u2 := by
      have q1 : its2.toArray[i]? = some v2 := hv2
      have q2 : its2[i]? = some v2 := by simpa using q1
      rw [hu2] at q2
      exact (Option.some.inj q2).symm
    subst ev1 ev2
    refine ⟨_, rfl, wpAny_letOwnedTupleGo_zip (s := { s with heap := h', toks := tk }) z' fun h'' z'' sb => ?_⟩
    have hT2 : h''.get? s.heap.objs.size = some { cls := .type "tuple", data := .seq #[v1, v2] } := (sb.2 _ (Nat.ne_of_gt hzl)).trans hT
    have new : ObjOk X.prog X.w (upd H s.heap.objs.size (.tup [x, y])) h'' s.heap.objs.size (.tup [x, y]) :=
      ⟨by show 2 ≤ sizeLine; decide, [v1, v2], .cons ru (.cons ru2 .nil), ⟨_, hT2, rfl, _, rfl⟩⟩
    have I1 : Inv X pins σ (upd H s.heap.objs.size (.tup [x, y])) { s with heap := h'', toks := tk } :=
      I.turnedNew (t' := tk) (ch := [z, TI, TO, i1, i2]) (fun c o hb q => (sb.2 c (fun q' => hb (by simp [q']))).trans (hk c o (fun q' => hb (by simp [q'])) (fun q' => hb (by simp [q'])) (fun q' => hb (by simp [q'])) (fun q' => hb (by simp [q'])) q)) hf (Nat.le_refl _) new
    refine ⟨.ref s.heap.objs.size, _, I1, rfl, ⟨_, x, y, rfl, I.hok.fresh (Nat.le_refl _), rfl, fun l hl => by rw [inv_sqB_inj I hl hqx]; exact hx, fun l hl => by rw [inv_sqB_inj I hl hqy]; exact hy⟩, ⟨z'', ?_, ⟨v1, v2, ?_⟩, ?_, ?_, by omega, by omega⟩, fun c hcm => ?_⟩
    · exact (sb.2 _ S.TIz).trans (hk _ _ S.TIz S.TITO S.TIi1 S.TIi2 hTI)
    · exact (sb.2 _ S.TOz).trans TO'
    · exact h1'.1.at fun o q => (sb.2 _ S.zi1.symm).trans q
    · exact h2'.1.at fun o q => (sb.2 _ S.zi2.symm).trans q
    · have hlt : c < s.heap.objs.size := by
        have e' : c = z ∨ c = TI ∨ c = TO ∨ c = i1 ∨ c = i2 := by simpa using hcm
        rcases e' with q | q | q | q | q
        · rw [q]; exact hzl
        · rw [q]; exact Heap.lt_size hTI
        · rw [q]; exact Heap.lt_size hTO
        · rw [q]; obtain ⟨_, e1, _⟩ := h1.obj; exact Heap.lt_size e1
        · rw [q]; obtain ⟨_, e2, _⟩ := h2.obj; exact Heap.lt_size e2
      rw [upd_ne (Nat.ne_of_lt hlt)]
      exact (hf c hcm).1
  done := by
    intro X hP hw hK hc i pins s σ H E I hf st hg
    subst hP hw hK
    obtain ⟨hz, hTI, ⟨x0, y0, hTO⟩, h1, h2, l1, l2⟩ := st
    obtain ⟨xs, ys, hqx, hqy, ln1, ln2, hend⟩ := hg
    obtain ⟨its, rv, p⟩ := inv_sqB I hqx
    obtain ⟨its2, rv2, p2⟩ := inv_sqB I hqy
    have e1 : its.toArray.size = n1 := by rw [List.size_toArray, ← rv.length, ln1]
    have e2 : its2.toArray.size = n2 := by rw [List.size_toArray, ← rv2.length, ln2]
    exact wpAny_pyNext_zipD2_end S (drawsB (A := X.A.in1) (I.ok.hd hc) t1 i1 a ha its.toArray) (drawsB (A := X.A.in1) (I.ok.hd hc) t2 i2 b hb its2.toArray) hz hTI hTO ⟨h1, p⟩ ⟨h2, p2⟩ (by omega) (by omega) (by omega) fun h' tk hk => ⟨rfl, I.turnedL (t' := tk) (ch := [z, TI, TO, i1, i2]) (fun c o hb q =>
      hk c o (fun q' => hb (by simp [q'])) (fun q' => hb (by simp [q'])) (fun q' => hb (by simp [q'])) (fun q' => hb (by simp [q'])) q) hf⟩
  self := fun A i s Q E st h => wpAny_pyIter_zip st.1 h
def iZipB (K : PySem.W.Frag) (ta : TA) : TI := fun σ H R => ta σ H fun vs H1 => ∃ t1 t2 a b xs ys, vs = [.ref a, .ref b] ∧ SqB t1 K H1 a xs ∧ SqB t2 K H1 b ys ∧ R (Izb t1 t2 K a b xs.length ys.length) H1
theorem pi_zipB {X : Cx} {e e2 : Expr} {ta : TA} {p pos tpos : Pos} {elts : List Expr} {kk : Nat} (hg : Gl X "zip") (hm : X.mg "zip" = none) (ha : PA X [e, e2] ta)
    (hs : starEach [e, e2] X.env = (false, eval e X.env) :: starEach [e2] X.env := by rfl) (hpl : (backTo pos (starEach [e2] X.env)).any (·.1) = false := by rfl) :
    PI X (.Tuple elts kk tpos) (.Call (.Name "zip" p) [e, e2] [] pos) (iZipB X.K ta) := by
  refine ⟨fun pins s σ H R I h => ?_⟩
  refine Call_ (ld_blt I hg hm PyProof.Rows.boot_zip (PyProof.Rows.callWith_type1 (thn (ha.run pos pins s σ H _ I h) fun us s1 ⟨vs, H1, I1, r1, q1⟩ => ?_) hs hpl))
  obtain ⟨t1, t2, a, b, xs, ys, ex, hqx, hqy, q⟩ := q1
  subst ex
  cases r1 with
  | cons r rr =>
    cases rr with
    | cons r' rr =>
      cases rr
      cases r
      cases r'
      obtain ⟨its, rv, p1⟩ := inv_sqB I1 hqx
      obtain ⟨its2, rv2, p2⟩ := inv_sqB I1 hqy
      have la := p1.lt
      have lb := p2.lt
      refine zip_begins2 (beginsB t1 a its.toArray) (beginsB t2 b its2.toArray) p1 p2 fun h' hz hTI hTO h1 h2 hsz hk => wpAny_pyIter_zip hz ?_
      have I2 : Inv X pins σ H1 { s1 with heap := h' } := I1.kept (t' := s1.toks) hk
      refine ⟨s1.heap.objs.size + 4, [s1.heap.objs.size + 4, s1.heap.objs.size + 2, s1.heap.objs.size + 3, s1.heap.objs.size, s1.heap.objs.size + 1], _, _, H1, rfl, I2, turn_zipB (zip_sep2 (fp1 := [a]) (fp2 := [b]) (by simpa using la) (by simpa using lb)) (Nat.ne_of_lt la) (Nat.ne_of_lt (Nat.lt_succ_of_lt lb)), ⟨hz, hTI, ⟨_, _, hTO⟩, itB_new h1, itB_new h2, Nat.zero_le _, Nat.zero_le _⟩, fun c hcm => ?_, q⟩
      have e' : c = s1.heap.objs.size + 4 ∨ c = s1.heap.objs.size + 2 ∨ c = s1.heap.objs.size + 3 ∨ c = s1.heap.objs.size ∨ c = s1.heap.objs.size + 1 := by simpa using hcm
      have hle : s1.heap.objs.size ≤ c := by
        rcases e' with z | z | z | z | z
        · rw [z]; exact Nat.le_add_right _ _
        · rw [z]; exact Nat.le_add_right _ _
        · rw [z]; exact Nat.le_add_right _ _
        · rw [z]; exact Nat.le_refl _
        · rw [z]; exact Nat.le_add_right _ _
      exact I1.fpOk hle (I1.hok.fresh hle)
/-! ### in data -/
@[reducible] def sqD (t : Bool) (ds : List Dat) : Dat := match t with
  | true => .tup ds
  | false => .lst ds
def zipD : List Dat → List Dat → List Dat
  | d :: ds, e :: es => .tup [d, e] :: zipD ds es
  | _, _ => []
theorem zipD_len : ∀ {ds es : List Dat}, (zipD ds es).length = min ds.length es.length
  | [], _ => by simp [zipD]
  | _ :: _, [] => by simp [zipD]
  | d :: ds, e :: es => by simp [zipD, zipD_len (ds := ds) (es := es), Nat.add_min_add_right]
theorem zipD_get : ∀ {ds es : List Dat} {i : Nat} {d : Dat}, (zipD ds es)[i]? = some d → ∃ x y, ds[i]? = some x ∧ es[i]? = some y ∧ d = .tup [x, y]
  | [], _, _, _, h => by simp [zipD] at h
  | _ :: _, [], _, _, h => by simp [zipD] at h
  | x :: ds, y :: es, 0, d, h => by
    have e : Dat.tup [x, y] = d := by simpa [zipD] using h
    exact ⟨x, y, rfl, rfl, e.symm⟩
  | x :: ds, y :: es, i + 1, d, h => by
    obtain ⟨u, v, h1, h2, h3⟩ := zipD_get (ds := ds) (es := es) (i := i) (show (zipD ds es)[i]? = some d by simpa [zipD] using h)
    exact ⟨u, v, by simpa using h1, by simpa using h2, h3⟩
theorem zip_at : ∀ {ds es : List Dat} {i : Nat} {x y : Dat}, ds[i]? = some x → es[i]? = some y → (zipD ds es)[i]? = some (.tup [x, y])
  | [], _, _, _, _, h, _ => by simp at h
  | _ :: _, [], _, _, _, _, h => by simp at h
  | x :: ds, y :: es, 0, d, e, h, h' => by
    have e1 : x = d := by simpa using h
    have e2 : y = e := by simpa using h'
    simp [zipD, e1, e2]
  | x :: ds, y :: es, i + 1, d, e, h, h' => by
    have := zip_at (ds := ds) (es := es) (i := i) (by simpa using h) (by simpa using h')
    simpa [zipD] using this
theorem rep_sq {t : Bool} {K : PySem.W.Frag} {F : Hp} {ds : List Dat} {v : V} (h : Rep K F (sqD t ds) v) : ∃ a xs, v = .ref a ∧ SqB t K F a xs ∧ Reps K F ds xs := by
  cases t with
  | true => obtain ⟨a, xs, h1, h2, h3⟩ := h; exact ⟨a, xs, h1, h2, h3⟩
  | false => obtain ⟨a, xs, h1, h2, h3⟩ := h; exact ⟨a, xs, h1, Or.inl (Or.inl h2), h3⟩
theorem walk_zipB {t1 t2 : Bool} {K : PySem.W.Frag} {F0 F1 : Hp} {p p2 : Addr} {xs ys : List V} {ds es : List Dat} (h : SqB t1 K F1 p xs) (h2 : SqB t2 K F1 p2 ys) (r : Reps K F1 ds xs) (r2 : Reps K F1 es ys) :
    WalkD K F0 F1 (Izb t1 t2 K p p2 xs.length ys.length) (zipD ds es) := fun F H M i e om => by
  have hs : SqB t1 K H p xs := ex_b om.sub (ex_b e h)
  have hs2 : SqB t2 K H p2 ys := ex_b om.sub (ex_b e h2)
  refine ⟨fun d hd => ?_, fun hl => ⟨xs, ys, hs, hs2, rfl, rfl, ?_⟩⟩
  · obtain ⟨x, y, hx, hy, rfl⟩ := zipD_get hd
    obtain ⟨u, hu, ru⟩ := r.get hx
    obtain ⟨u2, hu2, ru2⟩ := r2.get hy
    refine ⟨⟨xs, ys, u, u2, hs, hs2, rfl, rfl, hu, hu2⟩, fun v H' ⟨T, x', y', hv, hT, hH, hx', hy'⟩ => ?_⟩
    subst hv hH
    obtain rfl : u = x' := Option.some.inj (hu.symm.trans (hx' xs hs))
    obtain rfl : u2 = y' := Option.some.inj (hu2.symm.trans (hy' ys hs2))
    refine ⟨upd F T (.tup [u, u2]), Ex.new (om.freeF hT), om.new hT, ?_⟩
    exact rep_tup (Or.inl (Or.inl upd_same)) (Reps.cons ((ru.mono e).mono (Ex.new (om.freeF hT))) (Reps.cons ((ru2.mono e).mono (Ex.new (om.freeF hT))) Reps.nil))
  · have e1 := r.length
    have e2 := r2.length
    rw [zipD_len] at hl
    omega
section
variable {X : Cx} {F0 : Hp} {ρ : DEnv} {M : Mem} {pos p tpos : Pos} {e e2 : Expr} {elts : List Expr} {kk : Nat} {q : List Dat → Mem → Prop}
theorem di_zip (hg : Gl X "zip") (hm : X.mg "zip" = none) (h : DA X F0 [e, e2] ρ M fun ds M1 => ∃ t1 t2 as bs, ds = [sqD t1 as, sqD t2 bs] ∧ q (zipD as bs) M1)
    (hs : starEach [e, e2] X.env = (false, eval e X.env) :: starEach [e2] X.env := by rfl) (hpl : (backTo pos (starEach [e2] X.env)).any (·.1) = false := by rfl) :
    DI X F0 (.Tuple elts kk tpos) (.Call (.Name "zip" p) [e, e2] [] pos) ρ M q :=
  ⟨_, pi_zipB hg hm (uA (F0 := F0)) hs hpl, fun F σ H R om ol k => tUA.go h om ol fun F1 H1 vs ds M1 e1 om1 r ⟨t1, t2, as, bs, hd, hq⟩ => by
    subst hd
    obtain ⟨v, v2, rfl, r1, r2⟩ := reps2 r
    obtain ⟨a, xs, rfl, hx, rx⟩ := rep_sq r1
    obtain ⟨b, ys, rfl, hy, ry⟩ := rep_sq r2
    exact ⟨t1, t2, a, b, xs, ys, rfl, ex_b om1.sub hx, ex_b om1.sub hy, k F1 H1 _ _ M1 e1 om1 (walk_zipB hx hy rx ry) hq⟩⟩
end
end DL
/-! DL32: [::-1] of tuples and lists; index of lists and tuples -/
namespace HT
open PySem PySem.Spec PyProof.Rows L2
section
variable {prog : Program} {w : World} {A : Around} {E : Value → Shared → Prop} {s : Shared}
theorem sliceApplied_rev {sl : Addr} {vl vu vs : Value} {n : Nat} {Q : Int × Int × Nat → Shared → Prop} (hs : s.heap.IsSliceOf sl vl vu vs) (pl : IsPart vl none) (pu : IsPart vu none) (ps : IsPart vs (some (-1)))
    (h : Q ((n : Int) - 1, -1, n) s) : wpAny (model prog w) A (Builtin.Slice.sliceApplied (.ref sl) (pure (n : Int))) Q E s := by
  obtain ⟨os, hos, hcs, hds⟩ := id hs
  unfold Builtin.Slice.sliceApplied Builtin.Slice.sliceFields
  refine wpAny_bind (wpAny_bind (wpAny_field hos hds (x := vl) rfl (wpAny_bind (wpAny_field hos hds (x := vu) rfl (wpAny_bind (wpAny_field hos hds (x := vs) rfl (wpAny_pure ?_)))))))
  refine wpAny_bind (slicePart_ ps ?_)
  show wpAny _ _ (if ((-1 : Int) == 0) = true then _ else _) _ _ s
  rw [if_neg (by decide)]
  refine wpAny_bind (slicePart_ pl (wpAny_bind (slicePart_ pu (wpAny_bind (wpAny_pure ?_)))))
  show wpAny _ _ (match Builtin.Slice.sliceAdjust none none (-1) (n : Int) with | (lo, hi) => pure (lo, (-1 : Int), Builtin.Slice.slicePlaces lo hi (-1))) _ _ s
  have e : Builtin.Slice.sliceAdjust none none (-1) (n : Int) = ((n : Int) - 1, -1) := rfl
  rw [e]
  have e2 : Builtin.Slice.slicePlaces ((n : Int) - 1) (-1) (-1) = n := by
    unfold Builtin.Slice.slicePlaces
    rw [if_neg (by decide)]
    by_cases h : (n : Int) - 1 > -1
    · rw [if_pos h]
      have : ((n : Int) - 1 - -1 - 1) / (- -1) = (n : Int) - 1 := by
        rw [show (- -1 : Int) = 1 by decide, Int.ediv_one]
        omega
      rw [this]
      omega
    · rw [if_neg h]
      have : n = 0 := by omega
      subst this
      rfl
  show wpAny _ _ (pure ((n : Int) - 1, (-1 : Int), Builtin.Slice.slicePlaces ((n : Int) - 1) (-1) (-1))) _ _ s
  rw [e2]
  exact wpAny_pure h
theorem fmap_congr {α β : Type} {f g : α → Option β} : ∀ {l : List α}, (∀ m ∈ l, f m = g m) → l.filterMap f = l.filterMap g
  | [], _ => rfl
  | a :: l, h => by
    rw [List.filterMap_cons, List.filterMap_cons, h a List.mem_cons_self, fmap_congr fun m hm => h m (List.mem_cons_of_mem _ hm)]
theorem pick_rev (xs : Array Value) : ((List.range xs.size).filterMap fun (m : Nat) => xs[((xs.size : Int) - 1 + (m : Int) * (-1)).toNat]?).toArray = xs.toList.reverse.toArray := by
  have e : (List.range xs.size).filterMap (fun (m : Nat) => xs[((xs.size : Int) - 1 + (m : Int) * (-1)).toNat]?) = ((List.range xs.size).map fun k => xs.size - 1 - k).filterMap (xs[·]?) := by
    rw [List.filterMap_map]
    apply fmap_congr
    intro m hm
    have := List.mem_range.mp hm
    have e1 : ((xs.size : Int) - 1 + (m : Int) * (-1)).toNat = xs.size - 1 - m := by omega
    show xs[_]? = xs[_]?
    rw [e1]
  rw [e, PySem.W.krv_range, List.filterMap_reverse, PySem.W.krv_all]
theorem getItem_tuple_rev {t sl : Addr} {items : Array Value} {vl vu vs : Value} {Q : Value → Shared → Prop} (ht : IsTup s.heap t items) (hs : s.heap.IsSliceOf sl vl vu vs) (pl : IsPart vl none) (pu : IsPart vu none) (ps : IsPart vs (some (-1)))
    (h : Q (.ref s.heap.objs.size) { s with heap := s.heap.push { cls := .type "tuple", data := .seq items.toList.reverse.toArray } })
    (hsz : items.size ≤ sizeLine) : wpAny (model prog w) A (getItem (.ref t) (.ref sl)) Q E s := by
  have htake : sizeOk (.seq items.toList.reverse.toArray) := by
    show items.toList.reverse.toArray.size ≤ sizeLine
    rw [List.size_toArray, List.length_reverse, Array.length_toList]
    exact hsz
  obtain ⟨os, hos, hcs, hds⟩ := id hs
  have hTs : s.TypeIs (.ref sl) "slice" := ⟨os, hos, hcs⟩
  unfold getItem
  try with_reducible refine wpAny_holding ?_
  first | refine wpAny_bind (wpAny_pure ?_) | skip
  refine wpAny_bind (wpAny_sequenceKey ht.typeIs (by decide) ?_)
  refine wpAny_bind (wpAny_callSpecial?_slot (name := Str.ofString "__getitem__") ht.typeIs PyProof.Rows.slot_tuple_getitem
    (wpAny_call_entry PyProof.Rows.slot_tuple_getitem ht.typeIs entry_tuple_getitem ?_ (args_tuple_getitem _ _)))
  show wpAny _ _ (Builtin.Tuple.tupleItemsOf (.ref t) >>= _) _ _ s
  refine wpAny_bind (tupleItemsOf_ ht ?_)
  refine wpAny_bind (wpAny_typeOf hTs ?_)
  rw [if_pos (by decide)]
  refine wpAny_bind (sliceApplied_rev hs pl pu ps ?_)
  show wpAny _ _ (if (((items.size : Int) - 1) == 0 && (-1 : Int) == 1 && items.size == items.size) = true then _ else _) _ _ s
  have hno : ¬ ((((items.size : Int) - 1) == 0 && (-1 : Int) == 1 && items.size == items.size) = true) := by
    rw [show ((-1 : Int) == 1) = false from by decide, Bool.and_false, Bool.false_and]
    exact Bool.false_ne_true
  rw [if_neg hno, pick_rev]
  first
    | exact wpAny_bind (m := Builtin.Tuple.tupleExact _) (wpAny_newObj_type (wpAny_pure ⟨_, rfl, wpAny_pure h⟩) htake)
    | exact wpAny_bind (m := Builtin.Tuple.tupleExact _) (wpAny_newObj_type (wpAny_bind (wpAny_pure (wpAny_pure ⟨_, rfl, wpAny_pure h⟩))) htake)
    | exact wpAny_bind (wpAny_bind (m := Builtin.Tuple.tupleExact _) (wpAny_newObj_type (wpAny_pure (wpAny_pure ⟨_, rfl, wpAny_pure h⟩)) htake))
    | exact wpAny_bind (wpAny_bind (m := Builtin.Tuple.tupleExact _) (wpAny_newObj_type (wpAny_pure ⟨_, rfl, wpAny_pure h⟩) htake))
end
end HT
namespace DL
open PySem PySem.Spec PyProof.Rows L2
def hoB (t : Bool) (xs : List V) : HO := match t with
  | true => .tup xs
  | false => .lst xs
def tRevB (K : PySem.W.Frag) (te : TE) : TE := fun σ H Q => te σ H fun x H1 => ∃ t a xs, x = .ref a ∧ SqB t K H1 a xs ∧ ∀ p, H1 p = none → Q (.ref p) (upd H1 p (hoB t xs.reverse))
theorem pe_revB {X : Cx} {e : Expr} {te : TE} {k : Nat} {p1 p2 p3 pos : Pos} (he : PE X e te) : PE X (.Subscript e (.Slice none none (some (.UnaryOp .USub (.Constant (.int 1) k p1) p2)) p3) pos) (tRevB X.K te) := by
  refine ⟨fun pins s σ H Q I h => ?_⟩
  refine Subscript_ (thn (he.run pins s σ H _ I h) fun v s1 ⟨x, H1, I1, r1, q1⟩ => ?_)
  obtain ⟨t, a, xs, ex, hx, q⟩ := q1
  subst ex
  cases r1
  have hst : PO X (some (.UnaryOp .USub (.Constant (.int 1) k p1) p2)) (tPart (tUn (rU fun i => .int (-i)) (tC (.int 1)))) := po_some (pe_un un_neg pe_int)
  refine wpAny_Slice (thn (po_none.run pins s1 σ H1 (fun o H2 => o = none ∧ H2 = H1) I1 ⟨rfl, rfl⟩) fun vl s2 ⟨l, H2, I2, pl, el, e2⟩ => ?_)
  subst el e2
  refine thn (po_none.run pins s2 σ H2 (fun o H3 => o = none ∧ H3 = H2) I2 ⟨rfl, rfl⟩) fun vu s3 ⟨u, H3, I3, pu, eu, e3⟩ => ?_
  subst eu e3
  refine thn (hst.run pins s3 σ H3 (fun o H4 => o = some (-1) ∧ H4 = H3) I3 ⟨1, rfl, -1, rfl, rfl, rfl⟩) fun vs s4 ⟨o, H4, I4, ps, eo, e4⟩ => ?_
  subst eo e4
  have I5 : Inv X pins σ H4 { s4 with heap := s4.heap.push { cls := .type "slice", data := .fields #[vl, vu, vs] } } := I4.kept (t' := s4.toks) fun b ob q => Heap.get?_push_of_some _ q
  show wpAny (model X.prog X.w) X.A (subscriptTail e (.Slice none none (some (.UnaryOp .USub (.Constant (.int 1) k p1) p2)) p3) (.ref a) (.ref s4.heap.objs.size)) (EP X pins σ Q) X.xe { s4 with heap := s4.heap.push { cls := .type "slice", data := .fields #[vl, vu, vs] } }
  cases t with
  | false =>
    obtain ⟨its, r, ht, hz⟩ := I5.list hx
    have hlen := r.length
    refine tail_any (ops := [.ref a, .ref s4.heap.objs.size]) ht.isList.typeIs (PySem.slot_list_getitem.lookup) ?_ (by with_unfolding_all rfl)
    refine wpAny_getItem_list_slice ht.isList (Heap.IsSliceOf.new _ vl vu vs) pl pu ps (by decide) ?_ (by rw [List.size_toArray]; omega)
    rw [PySem.W.krv_pick]
    refine ⟨.ref _, _, I5.laid (t' := s4.toks) (o := .lst xs.reverse) (fun b ob q => Heap.get?_push_of_some _ q) (Nat.le_refl _) ?_, rfl, q _ (I5.hok.fresh (Nat.le_refl _))⟩
    exact ⟨by rw [List.length_reverse]; exact hz, _, 0, r.reverse, Heap.get?_push_size _ rfl⟩
  | true =>
    obtain ⟨its, r, ht, hz⟩ := I5.tuple hx
    have hlen := r.length
    refine tail_any (ops := [.ref a, .ref s4.heap.objs.size]) ht.typeIs (PyProof.Rows.slot_tuple_getitem.lookup) ?_ (by with_unfolding_all rfl)
    refine HT.getItem_tuple_rev ht (Heap.IsSliceOf.new _ vl vu vs) pl pu ps ?_ (by rw [List.size_toArray]; omega)
    refine ⟨.ref _, _, I5.laid (t' := s4.toks) (o := .tup xs.reverse) (fun b ob q => Heap.get?_push_of_some _ q) (Nat.le_refl _) ?_, rfl, q _ (I5.hok.fresh (Nat.le_refl _))⟩
    exact ⟨by rw [List.length_reverse]; exact hz, _, r.reverse, IsTup.new _ _⟩
section
variable {X : Cx} {F0 : Hp} {ρ : DEnv} {M : Mem} {q : DK} {e : Expr} {pos : Pos}
theorem de_rev {kk : Nat} {p1 p2 p3 : Pos} (h : DE X F0 e ρ M fun d M1 => ∃ t ds, d = sqD t ds ∧ q (sqD t ds.reverse) M1) : DE X F0 (.Subscript e (.Slice none none (some (.UnaryOp .USub (.Constant (.int 1) kk p1) p2)) p3) pos) ρ M q :=
  PE.wk (pe_revB (uE (F0 := F0))) fun σ H Q ⟨F, om, ol, kq⟩ => tU.go h om ol fun F1 H1 v d M1 e1 om1 r1 ⟨t, ds, hd, hq⟩ => by
    subst hd
    obtain ⟨a, xs, rfl, h2, h3⟩ := rep_sq r1
    refine ⟨t, a, xs, rfl, ex_b om1.sub h2, fun p hp => ?_⟩
    cases t with
    | false => exact (kq.mono e1).lst om1 (reps_rev h3) hq hp
    | true => exact (kq.mono e1).tup om1 (reps_rev h3) hq hp
/-! ### index -/
def ixD (x : Dat) : List Dat → Nat
  | [] => 0
  | y :: ds => if eqD y x then 0 else ixD x ds + 1
theorem ixD_at {x : Dat} : ∀ {ds : List Dat}, inD x ds = true → ∃ z, ds[ixD x ds]? = some z ∧ eqD z x = true ∧ ∀ (m : Nat) (z' : Dat), m < ixD x ds → ds[m]? = some z' → eqD z' x = false
  | [], h => by cases h
  | y :: ds, h => by
    by_cases e : eqD y x = true
    · have e0 : ixD x (y :: ds) = 0 := by simp [ixD, e]
      rw [e0]
      exact ⟨y, rfl, e, fun m z' hm => absurd hm (Nat.not_lt_zero _)⟩
    · have e0 : ixD x (y :: ds) = ixD x ds + 1 := by simp [ixD, e]
      have h' : inD x ds = true := by
        unfold inD at h ⊢
        rw [List.any_cons, Bool.or_eq_true] at h
        exact h.resolve_left e
      obtain ⟨z, h1, h2, h3⟩ := ixD_at h'
      rw [e0]
      refine ⟨z, by simpa using h1, h2, fun m z' hm hz => ?_⟩
      cases m with
      | zero =>
        have : y = z' := by simpa using hz
        subst this
        simpa using e
      | succ m => exact h3 m z' (by omega) (by simpa using hz)
theorem eqD_rep {K : PySem.W.Frag} {F : Hp} {x d : Dat} {v w : V} (hx : flatD x = true) (hd : flatD d = true) (rx : Rep K F x v) (rd : Rep K F d w) : eqD d x = eqV w v := by
  obtain ⟨s1, s2⟩ := flat_rep hd rd
  obtain ⟨s3, s4⟩ := flat_rep hx rx
  unfold eqD
  rw [s1, s3]
theorem reps_getv {K : PySem.W.Frag} {F : Hp} : ∀ {ds : List Dat} {xs : List V} {i : Nat} {v : V}, Reps K F ds xs → xs[i]? = some v → ∃ d, ds[i]? = some d ∧ Rep K F d v
  | [], _, _, _, r, h => by
    cases r
    simp at h
  | d :: ds, _, 0, v, r, h => by
    obtain ⟨x, t, rfl, h1, h2⟩ := r
    have : x = v := by simpa using h
    subst this
    exact ⟨d, rfl, h1⟩
  | d :: ds, _, i + 1, v, r, h => by
    obtain ⟨x, t, rfl, h1, h2⟩ := r
    obtain ⟨d', e1, e2⟩ := reps_getv (i := i) h2 (by simpa using h)
    exact ⟨d', by simpa using e1, e2⟩
theorem rindex_of {K : PySem.W.Frag} {F F' H : Hp} {x : Dat} {v : V} {ds : List Dat} {a : Addr} {ys : List V} {Q : VK} (hx : flatD x = true) (ha : ds.all flatD = true) (hm : inD x ds = true) (rx : Rep K F x v) (hs : SqL K H a ys) (r : Reps K F ds ys)
    (k : Q (.int ((ixD x ds : Nat) : Int)) H) : rIndex K (.ref a) [v] H Q := by
  obtain ⟨z, h1, h2, h3⟩ := ixD_at hm
  obtain ⟨w, hw, rw'⟩ := r.get h1
  have all : ∀ d ∈ ds, flatD d = true := List.all_eq_true.mp ha
  obtain ⟨_, e2⟩ := inD_rep hx rx ha r
  refine ⟨a, ys, v, ixD x ds, w, rfl, rfl, hs, (flat_rep hx rx).2, e2, hw, ?_, fun m z' hm' hz => ?_, k⟩
  · rw [← eqD_rep hx (all _ (List.mem_of_getElem? h1)) rx rw']; exact h2
  · obtain ⟨d, hd, rd⟩ := reps_getv r hz
    rw [← eqD_rep hx (all _ (List.mem_of_getElem? hd)) rx rd]
    exact h3 m d hm' hd
theorem dmt_index {x : Dat} {ds : List Dat} (hx : flatD x = true) (ha : ds.all flatD = true) (hm : inD x ds = true) (h : q (.int ((ixD x ds : Nat) : Int)) M) : DMt X F0 "list.index" (.lst ds) [x] M q :=
  ⟨_, mt_index, fun F H vx vs Q om r1 r2 k => by
    obtain ⟨a, ys, rfl, h1, h2⟩ := r1
    obtain ⟨v, rfl, rv⟩ := reps1 r2
    exact rindex_of (F' := F) hx ha hm rv (Or.inl (Or.inl (om.sub _ _ h1))) h2 (k.fin om rep_int h)⟩
theorem dmt_indexC {x : Dat} {p : Addr} {ds : List Dat} (hM : M p = some (.lst ds)) (hx : flatD x = true) (ha : ds.all flatD = true) (hm : inD x ds = true) (h : q (.int ((ixD x ds : Nat) : Int)) M) : DMt X F0 "list.index" (.ptr p) [x] M q :=
  ⟨_, mt_index, fun F H vx vs Q om r1 r2 k => by
    obtain rfl : vx = .ref p := r1
    obtain ⟨v, rfl, rv⟩ := reps1 r2
    obtain ⟨ys, hu, rs⟩ := om.cellAt hM
    exact rindex_of (F' := F) hx ha hm rv (Or.inl (Or.inl hu)) rs (k.fin om rep_int h)⟩
def ixS (z : Str) : List Str → Nat
  | [] => 0
  | y :: ys => if y = z then 0 else ixS z ys + 1
theorem ixS_at {z : Str} : ∀ {ys : List Str}, z ∈ ys → ys[ixS z ys]? = some z ∧ ∀ m, m < ixS z ys → ys[m]? ≠ some z
  | [], h => by cases h
  | y :: ys, h => by
    by_cases e : y = z
    · have e0 : ixS z (y :: ys) = 0 := by simp [ixS, e]
      rw [e0]
      exact ⟨by rw [e]; rfl, fun m hm => absurd hm (Nat.not_lt_zero _)⟩
    · have e0 : ixS z (y :: ys) = ixS z ys + 1 := by simp [ixS, e]
      obtain ⟨h1, h2⟩ := ixS_at (ys := ys) (by
        rcases List.mem_cons.mp h with q | q
        · exact absurd q.symm e
        · exact q)
      rw [e0]
      refine ⟨by simpa using h1, fun m hm => ?_⟩
      cases m with
      | zero => simpa using e
      | succ m => simpa using h2 m (by omega)
theorem ixS_lt {z : Str} {ys : List Str} (h : z ∈ ys) : ixS z ys < ys.length := (List.getElem?_eq_some_iff.mp (ixS_at h).1).1
theorem ixS_of {z : Str} : ∀ {ys : List Str} {i : Nat}, ys.Nodup → ys[i]? = some z → ixS z ys = i
  | [], _, _, h => by simp at h
  | y :: ys, 0, _, h => by
    have : y = z := by simpa using h
    simp [ixS, this]
  | y :: ys, i + 1, nd, h => by
    have h1 : ys[i]? = some z := by simpa using h
    have nd' := List.nodup_cons.mp nd
    have : y ≠ z := fun e => nd'.1 (e ▸ List.mem_of_getElem? h1)
    have e1 : ixS z (y :: ys) = ixS z ys + 1 := by simp [ixS, this]
    rw [e1, ixS_of nd'.2 h1]
theorem eqD_str {a b : Str} : eqD (.str a) (.str b) = decide (a = b) := by
  show (a == b) = decide (a = b)
  by_cases h : a = b
  · rw [decide_eq_true h, h]
    exact beq_self_eq_true b
  · rw [decide_eq_false h]
    exact beq_false_of_ne h
theorem ixD_str {z : Str} : ∀ ys : List Str, ixD (.str z) (ys.map Dat.str) = ixS z ys
  | [] => rfl
  | y :: ys => by
    show (if eqD (.str y) (.str z) then 0 else ixD (.str z) (ys.map Dat.str) + 1) = if y = z then 0 else ixS z ys + 1
    rw [eqD_str, ixD_str ys]
    by_cases e : y = z <;> simp [e]
theorem inD_str {z : Str} {ys : List Str} : inD (.str z) (ys.map Dat.str) = decide (z ∈ ys) := by
  unfold inD
  rw [List.any_map]
  rw [Bool.eq_iff_iff, List.any_eq_true, decide_eq_true_iff]
  constructor
  · rintro ⟨y, hy, h⟩
    have h' : eqD (.str y) (.str z) = true := h
    rw [eqD_str, decide_eq_true_iff] at h'
    exact h' ▸ hy
  · intro h
    refine ⟨z, h, ?_⟩
    show eqD (.str z) (.str z) = true
    rw [eqD_str]
    simp
theorem flat_strD (ys : List Str) : (ys.map Dat.str).all flatD = true := by
  rw [List.all_map]
  exact List.all_eq_true.mpr fun _ _ => rfl
theorem dmt_indexT {z : Str} {ys : List Str} (hm : z ∈ ys) (h : q (.int ((ixS z ys : Nat) : Int)) M) : DMt X F0 "list.index" (.lst (ys.map Dat.str)) [.str z] M q :=
  dmt_index rfl (flat_strD ys) (by rw [inD_str]; exact decide_eq_true hm) (by rw [ixD_str]; exact h)
theorem reps_strs {K : PySem.W.Frag} {F : Hp} : ∀ {ys : List Str} {xs : List V}, Reps K F (ys.map Dat.str) xs → xs = ys.map V.str
  | [], _, r => by
    cases r
    rfl
  | y :: ys, _, r => by
    obtain ⟨x, t, rfl, h1, h2⟩ := r
    obtain rfl : x = .str y := h1
    rw [reps_strs h2]
    rfl
theorem dmt_indexU {z : Str} {ys : List Str} (hm : z ∈ ys) (h : q (.int ((ixS z ys : Nat) : Int)) M) : DMt X F0 "tuple.index" (.tup (ys.map Dat.str)) [.str z] M q :=
  ⟨_, mt_tup_index, fun F H vx vs Q om r1 r2 k => by
    obtain ⟨a, xs, rfl, h1, h2⟩ := r1
    obtain ⟨v, rfl, rv⟩ := reps1 r2
    obtain rfl : v = .str z := rv
    have e := reps_strs h2
    subst e
    exact ⟨a, ys, z, _, rfl, rfl, ex_t om.sub h1, (ixS_at hm).1, (ixS_at hm).2, k.fin om rep_int h⟩⟩
end
end DL
/-! DL33: constants that are tuples; walks over a tuple or a list -/
namespace DL
open PySem PySem.Spec PyProof.Rows L2
theorem glob_tup {K : PySem.W.Frag} {h : Heap} {mg : Str → Option Value} {x : Str} {a : Addr} {dd : Option Addr} {its : Array Value} {n : Nat} {sl : Array (Option Value)} {ds : List Dat} {xs : List V} (X : K.In h) (G : h.Ns mainGlobals mg) (g : PySem.W.nsIn K mainGlobals x = some (some (.ref a)))
    (l : K.lookup a = some ⟨.type "tuple", dd, .seq its n, sl⟩) (hz : its.size ≤ sizeLine) (rv : Vals xs its.toList) (rr : ∀ F, Reps K F ds xs) : GlobD K mg x (.tup ds) :=
  ⟨.ref a, .ref a, PySem.W.mg_of X G g, rfl, fun F => ⟨a, xs, rfl, Or.inr ⟨_, its, n, l, rfl, rfl, hz, rv⟩, rr F⟩⟩
section
variable {X : Cx} {F0 : Hp} {ρ : DEnv} {M : Mem} {e : Expr} {tg : Expr} {q : List Dat → Mem → Prop}
theorem di_sq (t : Bool) (h : DE X F0 e ρ M fun d M1 => ∃ ds, d = sqD t ds ∧ q ds M1) : DI X F0 tg e ρ M q := by
  cases t with
  | true => exact di_tup h
  | false => exact di_lst h
end
theorem dss_frzD {X : Cx} {F0 : Hp} {sts : List Stmt} {ρ : DEnv} {M : Mem} {D : DEnds} {i : Nat} {p : Addr} {ks : List Key} {ds : List Dat} (hi : ρ[i]? = some (some (.ptr p))) (hM : M p = some (.dct ks ds)) (h : DSs X F0 sts (ρ.set i (some (.dct ks ds))) (delM M p) D) : DSs X F0 sts ρ M D :=
  PSs.wk h fun E σ H ⟨F, om, ol, k⟩ => by
    obtain ⟨hF, u, hu, ru⟩ := om.mem p _ hM
    obtain ⟨xs, rfl, l2, rs⟩ := ru
    have e : Ex F (upd F p (.dK (ks.zip xs))) := Ex.new hF
    refine ⟨upd F p (.dK (ks.zip xs)), om.freeze hM hu, ?_, k.mono e⟩
    obtain ⟨v, hv, rv⟩ := ol.loc i _ hi
    obtain rfl : v = .ref p := rv
    have := (ol.mono e).set i (d := .dct ks ds) (v := .ref p) ⟨p, xs, rfl, upd_same, l2, rs.mono e⟩
    rwa [set_self hv] at this
section
variable {X : Cx} {F0 : Hp} {ρ : DEnv} {M : Mem} {D : DEnds} {pos : Pos}
/-- x, y, z = a, b, c -/
theorem ds_par3 {i j l : Nat} {x y z : Str} {a b c : Expr} {px py pz pt : Pos} {kt k2 pt2} (hc : X.calm = true) (hN : X.N.Nodup) (hi : X.N[i]? = some x) (hj : X.N[j]? = some y) (hl : X.N[l]? = some z) (hij : i ≠ j) (hil : i ≠ l) (hjl : j ≠ l)
    (hx : X.env.scope.names.lookup x = some .local) (hy : X.env.scope.names.lookup y = some .local) (hz : X.env.scope.names.lookup z = some .local) (h : DA X F0 [a, b, c] ρ M fun ds M' => ∃ d d' d'', ds = [d, d', d''] ∧ D.nx (((ρ.set i (some d)).set j (some d')).set l (some d'')) M')
    (hw : swappedStores [.Tuple [.Name x px, .Name y py, .Name z pz] kt pt] (.Tuple [a, b, c] k2 pt2) X.env = pure (some [x, y, z]))
    (hs : swapsWithSole [.Tuple [.Name x px, .Name y py, .Name z pz] kt pt] (.Tuple [a, b, c] k2 pt2) pos.line X.env = pure false := by rfl) : DS X F0 (.Assign [.Tuple [.Name x px, .Name y py, .Name z pz] kt pt] (.Tuple [a, b, c] k2 pt2) pos) ρ M D :=
  PS.wk (ps_par3 hc hN hi hj hl hij hil hjl hx hy hz (uA (F0 := F0)) hw hs) fun E σ H ⟨F, om, ol, k⟩ => tUA.go h om ol fun F' H' vs ds M' e om' r ⟨d, d', d'', hd, h'⟩ => by
    subst hd
    obtain ⟨v, t, rfl, r1, v', t', rfl, r2, v'', t'', rfl, r3, hn⟩ := r
    cases hn
    exact ⟨v, v', v'', rfl, k.nx F' H' _ _ M' e om' ((((ol.mono e).set i r1).set j r2).set l r3) h'⟩
end
end DL
/-! DL34: tuples of which it is known that they bear no dict (tpx): their methods -/
namespace DL
open PySem PySem.Spec PyProof.Rows L2
theorem rep_tpx {K : PySem.W.Frag} {F : Hp} {ds : List Dat} {v : V} (h : Rep K F (.tpx ds) v) : Rep K F (.tup ds) v := by
  obtain ⟨p, xs, o, h1, h2, _, _, h5⟩ := h
  exact ⟨p, xs, h1, Or.inl (Or.inr ⟨o, h2⟩), h5⟩
/-- an exact tuple with these items -/
abbrev tobj (us : List Value) : Obj := { cls := .type "tuple", data := .seq us.toArray }
section
variable {X : Cx} {F0 : Hp} {ρ : DEnv} {M : Mem} {q : DK} {e : Expr} {pos : Pos}
theorem de_relax (h : DE X F0 e ρ M fun d M1 => ∃ ds, d = .tpx ds ∧ q (.tup ds) M1) : DE X F0 e ρ M q :=
  PE.wk (uE (F0 := F0)) fun σ H Q ⟨F, om, ol, kq⟩ => tU.go h om ol fun F1 H1 v d M1 e1 om1 r1 ⟨ds, hd, hq⟩ => by
    subst hd
    exact (kq.mono e1).fin om1 (rep_tpx r1) hq
/-! ### made -/
def tTupZ (t : TA) : TE := fun σ H Q => t σ H fun xs H1 => xs.length ≤ sizeLine ∧ ∀ us p, H1 p = none → Q (.ref p) (upd H1 p (.frz (tobj us) (.tup xs)))
theorem pe_tupZ {X : Cx} {es : List Expr} {t : TA} {x1} (h : PA X es t) : PE X (.Tuple es x1 pos) (tTupZ t) := by
  refine ⟨fun pins s σ H Q I hq => ?_⟩
  refine wpAny_Tuple_spliced (thn (h.run pos pins s σ H _ I hq) fun us s1 ⟨xs, H1, I1, r, z, q⟩ => ⟨by rw [← r.length]; exact z, ?_⟩)
  have hf : H1 s1.heap.objs.size = none := I1.hok.fresh (Nat.le_refl _)
  refine ⟨.ref s1.heap.objs.size, upd H1 s1.heap.objs.size (.frz (tobj us) (.tup xs)), I1.laid (t' := s1.toks) (fun b u e => Heap.get?_push_of_some _ e) (Nat.le_refl _) ?_, rfl, q us _ hf⟩
  exact ⟨Heap.get?_push_size _ rfl, z, us, r, ⟨_, Heap.get?_push_size _ rfl, rfl, _, rfl⟩⟩
theorem kV_tpx {K : PySem.W.Frag} {F H : Hp} {Q : VK} (k : kV K F0 F q Q) (om : OkM K F0 F M H) {ds : List Dat} {vs : List V} (r : Reps K F ds vs) (h : q (.tpx ds) M) {p : Addr} {us : List Value} (hp : H p = none) : Q (.ref p) (upd H p (.frz (tobj us) (.tup vs))) :=
  k (upd F p (.frz (tobj us) (.tup vs))) _ _ (.tpx ds) M (Ex.new (om.freeF hp)) (om.new hp) ⟨p, vs, tobj us, rfl, upd_same, rfl, rfl, r.mono (Ex.new (om.freeF hp))⟩ h
theorem de_tupZ {es : List Expr} {x1} (h : DA X F0 es ρ M fun ds M1 => ds.length ≤ 100000 ∧ q (.tpx ds) M1) : DE X F0 (.Tuple es x1 pos) ρ M q :=
  PE.wk (pe_tupZ (uA (F0 := F0))) fun σ H Q ⟨F, om, ol, k⟩ => tUA.go h om ol fun F1 H1 vs ds M1 e1 om1 r1 ⟨hl, h1⟩ =>
    ⟨by rw [← r1.length]; exact Nat.le_trans hl (by decide), fun us p hp => kV_tpx (k.mono e1) om1 r1 h1 hp⟩
/-- t + u, both made here -/
def rCatZ (K : PySem.W.Frag) : R2 := fun x y H Q => ∃ a b xs ys, x = .ref a ∧ y = .ref b ∧ SqT K H a xs ∧ SqT K H b ys ∧ xs.length + ys.length ≤ sizeLine ∧
  (xs = [] → Q (.ref b) H) ∧ (xs ≠ [] → ys = [] → Q (.ref a) H) ∧ (xs ≠ [] → ys ≠ [] → ∀ us p, H p = none → Q (.ref p) (upd H p (.frz (tobj us) (.tup (xs ++ ys)))))
theorem op_catZ {X : Cx} : OpR X (binaryOp .Add) (rCatZ X.K) := by
  intro pins s σ H x y v u Q I rx ry h
  obtain ⟨a, b, xs, ys, rfl, rfl, ha, hb, hz, q0, q1, q2⟩ := h
  by_cases hx : xs = []
  · exact op_catA pins s σ H _ _ v u Q I rx ry ⟨a, b, xs, ys, rfl, rfl, ha, hb, hz, q0, q1, fun z => absurd hx z⟩
  · cases rx
    cases ry
    obtain ⟨its, r1, p1, _⟩ := I.tuple ha
    obtain ⟨its2, r2, p2, _⟩ := I.tuple hb
    refine HT.cat_tup p1 p2 (fun z => hx (r1.nil_iff.mp z)) (fun z => ⟨.ref a, H, I, rfl, q1 hx (r2.nil_iff.mp z)⟩) (fun z => ?_) (by rw [← r1.length, ← r2.length]; exact hz)
    refine ⟨.ref s.heap.objs.size, _, I.laid (t' := s.toks) (o := .frz (tobj (its ++ its2)) (.tup (xs ++ ys))) (fun b ob q => Heap.get?_push_of_some _ q) (Nat.le_refl _) ?_, rfl, q2 hx (fun w => z (r2.nil_iff.mpr w)) _ _ (I.hok.fresh (Nat.le_refl _))⟩
    exact ⟨Heap.get?_push_size _ rfl, by rw [List.length_append]; exact hz, _, r1.append r2, IsTup.new _ _⟩
theorem dop_catZ {a b : List Dat} (hz : a.length + b.length ≤ 1000000) (h : q (.tpx (a ++ b)) M) : DOp X F0 (binaryOp .Add) (.tpx a) (.tpx b) M q :=
  ⟨_, op_catZ, fun F H vx vy Q om r1 r2 k => by
    obtain ⟨p, xs, o, rfl, h2, c2, d2, h3⟩ := r1
    obtain ⟨p', xs', o', rfl, h2', c2', d2', h3'⟩ := r2
    refine ⟨p, p', xs, xs', rfl, rfl, Or.inl (Or.inr ⟨o, om.sub _ _ h2⟩), Or.inl (Or.inr ⟨o', om.sub _ _ h2'⟩), by rw [← h3.length, ← h3'.length]; exact sz_le hz, fun e => ?_, fun _ e => ?_, fun _ _ us l hl => kV_tpx k om (h3.app h3') h hl⟩
    · subst e
      have e2 : a = [] := by
        have := h3.length
        cases a with
        | nil => rfl
        | cons _ _ => cases this
      subst e2
      exact k F _ _ (.tpx b) M (Ex.refl F) om ⟨p', xs', o', rfl, h2', c2', d2', h3'⟩ h
    · subst e
      have e2 : b = [] := by
        have := h3'.length
        cases b with
        | nil => rfl
        | cons _ _ => cases this
      subst e2
      rw [List.append_nil] at h
      exact k F _ _ (.tpx a) M (Ex.refl F) om ⟨p, xs, o, rfl, h2, c2, d2, h3⟩ h⟩
/-! ### t.index(x) -/
def tTix (K : PySem.W.Frag) (to : TE) (ta : TA) (r : V → List V → Hp → VK → Prop) : TE := fun σ H Q => to σ H fun x H1 => (∃ a xs o, x = .ref a ∧ H1 a = some (.frz o (.tup xs)) ∧ o.cls = .type "tuple" ∧ o.dict = none) ∧ ta σ H1 fun vs H2 => r x vs H2 Q
theorem pe_tbm {X : Cx} {id : String} {o e : Expr} {es : List Expr} {name : Str} {apos cpos : Pos} {to : TE} {ta : TA} {r : V → List V → Hp → VK → Prop} (slot : Slot "tuple" name id) (hty : typeOf (.builtin id) = pure (.type "method_descriptor")) (hm : MtR X id r) (ho : PE X o to) (ha : PA X (e :: es) ta)
    (hbase : attributeBase o name X.env (eval o X.env) = eval o X.env := by rfl)
    (hfew : ((backTo cpos (starEach (e :: es) X.env)).all (fun x => !x.1) && (backToKw cpos (keywordEach [] X.env)).all (fun x => x.1.isSome)
      && decide ((e :: es).length + ([] : List Keyword).length + (if ([] : List Keyword).isEmpty then 0 else 1) < 30)) = true := by rfl)
    (hline : (apos.endLine == cpos.line) = true := by rfl) (hs : starEach (e :: es) X.env = (false, eval e X.env) :: starEach es X.env := by rfl) (hplain : (backTo cpos (starEach es X.env)).any (·.1) = false := by rfl) :
    PE X (.Call (.Attribute o name apos) (e :: es) [] cpos) (tTix X.K to ta r) := by
  refine ⟨fun pins s σ H Q I h => ?_⟩
  refine wpAny_Call_method_late hbase hfew hline rfl (thn (ho.run pins s σ H _ I h) fun v s1 ⟨x, H1, I1, r1, ⟨a, xs, ob, ex, hx, hc, hd⟩, q1⟩ => ?_)
  subst ex
  obtain rfl : v = Value.ref a := r1
  obtain ⟨hget, _⟩ := I1.hok a _ hx
  refine ⟨"tuple", id, PySem.F.plainAttrs_tuple, slot, hty, ⟨ob, hget, hc⟩, fun b hb => ?_, ?_⟩
  · cases hb
    exact ⟨ob, hget, hd⟩
  have hA := ha.run cpos pins s1 σ H1 _ I1 q1
  rw [hs] at hA ⊢
  refine Calls.callWith_builtin (by show (false || (backTo cpos (starEach es X.env)).any (·.1)) = false; rw [hplain] <;> rfl) (Calls.evalArgs_plain ?_)
  exact thn hA fun us s2 ⟨vs, H2, I2, r2, q2⟩ => hm pins s2 σ H2 (.ref a) vs _ us Q I2 rfl r2 q2
theorem de_tindex {o a : Expr} {apos : Pos} (h : DE X F0 o ρ M fun d M1 => ∃ ys : List Str, d = .tpx (ys.map Dat.str) ∧ DA X F0 [a] ρ M1 fun ds M2 => ∃ z, ds = [.str z] ∧ z ∈ ys ∧ q (.int ((ixS z ys : Nat) : Int)) M2)
    (hbase : attributeBase o "index" X.env (eval o X.env) = eval o X.env := by rfl)
    (hfew : ((backTo pos (starEach [a] X.env)).all (fun x => !x.1) && (backToKw pos (keywordEach [] X.env)).all (fun x => x.1.isSome)
      && decide ([a].length + ([] : List Keyword).length + (if ([] : List Keyword).isEmpty then 0 else 1) < 30)) = true := by rfl)
    (hline : (apos.endLine == pos.line) = true := by rfl) (hs : starEach [a] X.env = (false, eval a X.env) :: starEach [] X.env := by rfl) (hplain : (backTo pos (starEach [] X.env)).any (·.1) = false := by rfl) :
    DE X F0 (.Call (.Attribute o "index" apos) [a] [] pos) ρ M q :=
  PE.wk (pe_tbm PySem.F.slot_tuple_index PySem.F.type_tuple_index mt_tup_index (uE (F0 := F0)) (uA (F0 := F0)) hbase hfew hline hs hplain) fun σ H Q ⟨F, om, ol, k⟩ => tU.go h om ol fun F1 H1 vx x M1 e1 om1 r1 ⟨ys, hx, h1⟩ => by
    subst hx
    obtain ⟨p, xs, ob, rfl, h2, hc, hd, h3⟩ := r1
    refine ⟨⟨p, xs, ob, rfl, om1.sub _ _ h2, hc, hd⟩, tUA.go h1 om1 (ol.mono e1) fun F2 H2 vs ds M2 e2 om2 r2 ⟨z, hz, hm, hq⟩ => ?_⟩
    subst hz
    obtain ⟨v, rfl, rv⟩ := reps1 r2
    obtain rfl : v = .str z := rv
    have e := reps_strs h3
    subst e
    exact ⟨p, ys, z, _, rfl, rfl, Or.inl (Or.inr ⟨ob, om2.sub _ _ (e2 _ _ h2)⟩), (ixS_at hm).1, (ixS_at hm).2, ((k.mono (e1.trans e2)).fin om2 rep_int hq)⟩
end
end DL
/-! DL35: repr of a list whose items have a __repr__ of their own -/
namespace PySem.W
open PySem PySem.Calls PyProof.Rows
section
variable {prog : Program} {w : World} {M : Model} {A : Around} {E : Value → Shared → Prop} {s : Shared} {K : Frag} {x C L f : Addr} {h₀ : Heap} {m : Str → Option Value} {ox : Obj} {od : Option Obj}
theorem dl_ifBoundBy {last : Value → List Value → Sem Value} {name : Str} {Q : Option Value → Shared → Prop} (X : K.In s.heap) (I : InstAt s.heap x ox C od) (hs : findIn K (.ref C) name = some (some (.ref f))) (hf : isFn K (.ref f) = true)
    (h : wpAny M A (last (.ref f) [.ref x]) (fun v => Q (some v)) E s) : wpAny M A (callSpecialIfBoundBy? last (.ref x) name) Q E s := by
  simp only [callSpecialIfBoundBy?, bindSpecialIfBound?]
  refine wpAny_holding (wpAny_bind (wpAny_bind (wpAny_bind (I.type.here ((looks_findIn X hs).here ?_)))))
  refine wpAny_bind (wpAny_askSetting (wpAny_ite ?_))
  have fin : wpAny M A (last (.ref f) [.ref x] >>= fun v => pure (some v)) Q E s := wpAny_bind (wpAny_mono h (fun v s' h' => wpAny_pure h') fun _ _ h' => h')
  split
  · exact wpAny_bind ((bind_fn X _ (beq_iff_eq.mp hf)).here (wpAny_pure (by exact fin)))
  · exact wpAny_tryCatch (wpAny_bind ((bind_fn X _ (beq_iff_eq.mp hf)).here (wpAny_pure (by exact fin))))
theorem dl_reprUnder {b : Nat} {Q : Str → Shared → Prop} (hb : b ≤ sizeLine) (hu : A.units < cLine) (F : Fr h₀ L s.heap m) (X₀ : K.In h₀) (I : InstAt s.heap x ox C od) (hs : findIn K (.ref C) "__repr__" = some (some (.ref f))) (hf : isFn K (.ref f) = true)
    (h : wpAny (model prog w) A (call (.ref f) [.ref x]) (fun v s' => ∃ z u, v = .str z u ∧ Q z s') E s) : wpAny (model prog w) A (pyReprUnder b (.ref x)) Q E s := by
  have X := X₀.keeps F.keep
  refine wpAny_pyReprUnder_ref hb ?_
  unfold pyReprObjUnder pyReprObjBy
  refine wpAny_bind (wpAny_cRoomFor hu ?_)
  refine wpAny_bind (wpAny_bind (I.type.here ((looks_findIn X hs).here ?_)))
  show wpAny _ _ (if (some (Value.ref f)).isNone = true then _ else _) _ _ _
  rw [if_neg (by simp)]
  refine wpAny_bind (m := callSpecialIfBoundBy? _ (.ref x) (Str.ofString "__repr__")) (dl_ifBoundBy X I hs hf ?_)
  show wpAny _ _ (call (.ref f) ([.ref x] ++ [])) _ _ _
  refine wpAny_mono h (fun v s' hv => ?_) fun _ _ y => y
  obtain ⟨z, u, rfl, hq⟩ := hv
  exact wpAny_bind (wpAny_isInstance (T := "str") (b := true) rfl isSubtype_str_str (wpAny_pure ⟨z, u, rfl, hq⟩))
end
end PySem.W
namespace DL
open PySem PySem.Spec PyProof.Rows L2
theorem loop_depth {A : Around} {args : Args} : (A.under (.builtin "list.__repr__.loop" args)).depth ≤ A.depth + 1 := by
  first
    | exact Nat.le_of_eq rfl
    | exact Nat.le_succ _
    | (simp [Around.under, Code.weight, Code.isCreation, Code.isGuard, Code.isCaller, Code.frames, Code.isFrame, guardIds]; done)
    | (simp [Around.under, Code.weight, Code.isCreation, Code.isGuard, Code.isCaller, Code.frames, Code.isFrame, guardIds]; omega)
theorem room_loop {k : Nat} {A : Around} {args : Args} (r : Room (k + 1) A) : Room k (A.under (.builtin "list.__repr__.loop" args)) :=
  ⟨r.hd, by have := r.dp; have := loop_depth (A := A) (args := args); omega, by have := r.un; rw [units_under_list_loop]; omega⟩
theorem env0_loop {P : Program} {w : World} {K : PySem.W.Frag} {mg : Str → Option Value} {base : Heap} {A : Around} {outer : List PySem.Env} {s : Shared} {H : Hp} {args : Args} (e : Env0 P w K mg base A outer s H) :
    Env0 P w K mg base (A.under (.builtin "list.__repr__.loop" args)) outer s H := ⟨by first | exact e.frames | (simpa [Around.under, Code.envs, Code.isFrame, pushEnvs] using e.frames), e.mod, e.bs, e.bsz, e.funs, e.frf, e.hok, e.bare⟩
/-- the frames of A are those of the body -/
def AFr (X : Cx) (A : Around) : Prop := ∀ (s : Shared) (H : Hp), Env0 X.prog X.w X.K X.mg X.base X.A X.stack s H → Env0 X.prog X.w X.K X.mg X.base A X.stack s H
theorem AFr.self {X : Cx} : AFr X X.A := fun _ _ e => e
theorem AFr.in1 {X : Cx} {A : Around} (h : AFr X A) : AFr X A.in1 := fun s H e => (h s H e).in1
theorem AFr.loop {X : Cx} {A : Around} {args : Args} (h : AFr X A) : AFr X (A.under (.builtin "list.__repr__.loop" args)) := fun s H e => env0_loop (h s H e)
/-- the datum shows as t, and the memory stays -/
def ShowAt (X : Cx) (k : Nat) (d : Dat) (t : Str) : Prop :=
  ∀ (A : Around) (pins : List (Addr × Obj)) (σ : L2.St) (s : Shared) (F0 F H : Hp) (M : Mem) (v : V) (u : Value) (b : Nat) (Q : Str → Shared → Prop) (E : Value → Shared → Prop), Room k A → AFr X A → b + t.length ≤ sizeLine → Inv X pins σ H s → OkM X.K F0 F M H → Rep X.K F d v → RelV v u →
    (∀ s' F' H', Inv X pins σ H' s' → Ex F F' → OkM X.K F0 F' M H' → Q t s') → wpAny (model X.prog X.w) A (pyReprUnder b u) Q E s
theorem cx_none {P : Program} {w : World} {outer : List PySem.Env} {H F0 : Hp} {K : PySem.W.Frag} {s s' : Shared} {e : Value} (h : L2.CX P w outer H s (wX K F0 fun _ _ => False) e s') : False := by
  obtain ⟨_, _, _, _, _, _, _, _, _, _, _, _, _, _, _, z⟩ := h
  exact z.2.2
theorem showAt_obj {X : Cx} {C f : Addr} {k k' : Nat} {fd : FuncData} {ps : List Str} {S : DSpec} {ns : List Str} {fs : List Dat} {t : Str} (c : Met X.prog X.w X.K X.mg X.base C "__repr__" k f fd ps S) (hk : k ≤ k')
    (h : ∀ (M : Mem) (q : DK) (x : XQ), q (.str t) M → S [.obj C ns fs] M q x) : ShowAt X k' (.obj C ns fs) t := by
  intro A pins σ s F0 F H M v u b Q E hr hA hb I om rx ru fin
  obtain ⟨a, dx, xs, rfl, ha, hl, hxs⟩ := rx
  obtain rfl : u = .ref a := ru
  obtain ⟨od, J⟩ := inst_at I (om.sub _ _ ha)
  obtain ⟨mm, Fr⟩ := I.fr
  refine PySem.W.dl_reprUnder (by omega) hr.units0 Fr I.ok.mod.kin J c.at_ c.fn ?_
  have sp : LSp X.K S [.ref a] H (fun v' H' => ∃ z F' M', v' = .str z ∧ z = t ∧ M' = M ∧ Ex F F' ∧ OkM X.K F0 F' M' H') (wX X.K F0 fun _ _ => False) := by
    refine ⟨F, [.obj C ns fs], M, fun d M' => d = .str t ∧ M' = M, fun _ _ => False, om.entry, Reps.cons ⟨a, dx, xs, rfl, ha, hl, hxs⟩ Reps.nil, h M _ _ ⟨rfl, rfl⟩, ?_, fun _ _ _ _ _ _ _ _ _ z => z.elim⟩
    rintro F' H' w d M' e' o' r ⟨rfl, rfl⟩
    obtain rfl : w = .str t := r
    exact ⟨t, F', _, rfl, rfl, rfl, e', ⟨om.base.trans e', o'.sub, o'.mem⟩⟩
  have hlen : [Value.ref a].length = ps.length := by
    have := c.len _ _ _ _ (h M (fun _ _ => True) (fun _ _ => False) True.intro)
    exact this
  refine wpAny_call (codeAny_mono (c.ok.run A X.stack s H _ _ _ _ _ (hr.mono hk) (hA _ _ I.env0) (c.pos s [.ref a] hlen) (.cons (show L2.RelV (.ref a) (.ref a) from rfl) .nil) sp) ?_)
  intro r s2 out
  cases r with
  | error e => exact (cx_none out).elim
  | ok fl =>
    cases fl with
    | ret u =>
      obtain ⟨v', H', I', rv', z, F', M', rfl, rfl, rfl, e', om'⟩ := I.after out
      obtain ⟨tk, rfl⟩ := rv'
      exact ⟨z, tk, rfl, fin s2 F' H' I' e' om'⟩
    | next => exact out.elim
    | brk => exact out.elim
    | cont => exact out.elim

theorem vals_strs : ∀ {l : List Str} {us : List Value}, Vals (l.map V.str) us → ∃ done : List (Str × Tok), us = strValues done ∧ done.map (·.1) = l
  | [], _, h => by
    cases h
    exact ⟨[], rfl, rfl⟩
  | x :: l, _, h => by
    cases h with
    | cons r t =>
      obtain ⟨tk, rfl⟩ := r
      obtain ⟨done, rfl, h2⟩ := vals_strs t
      exact ⟨(x, tk) :: done, rfl, by rw [List.map_cons, h2]⟩
/-- the parts shown so far stand in the cell at P -/
def LSt (X : Cx) (pins : List (Addr × Obj)) (σ : L2.St) (F0 F : Hp) (M : Mem) (P : Addr) (parts : List Str) (s : Shared) : Prop :=
  ∃ F' H', Ex F F' ∧ OkM X.K F0 F' (updM M P (.lst (parts.map Dat.str))) H' ∧ Inv X pins σ H' s
theorem repr_loop {X : Cx} {pins : List (Addr × Obj)} {σ : L2.St} {F0 F : Hp} {M : Mem} {P a : Addr} {xs : List V} {ds : List Dat} {ts : List Str} {k b : Nat} {A : Around} {R : Result → Shared → Prop} (hr : Room (k + 1) A) (hA : AFr X A) (ha : F a = some (.lst xs)) (hxs : Reps X.K F ds xs)
    (hlen : ts.length = ds.length) (hT : ∀ (i : Nat) (d : Dat), ds[i]? = some d → ∃ t, ts[i]? = some t ∧ ShowAt X k d t) (hsz : b + (listText ts).length ≤ sizeLine) (hR : ∀ s' tk, LSt X pins σ F0 F M P ts s' → R (.ok (.ret (.str (listText ts) tk))) s') :
    ∀ (n i : Nat) (s : Shared), ds.length - i = n → i ≤ ds.length → LSt X pins σ F0 F M P (ts.take i) s →
    codeAny (model X.prog X.w) A (.builtin "list.__repr__.loop" ⟨[.ref a, rawInt i, .ref P, rawInt ((b + piled (ts.take i) : Nat) : Int)], []⟩) R s := by
  have hL := textFrom_len ts 0 "["
  have hX : (listText ts).length = (textFrom 0 "[" ts).length + 1 := by
    show (textFrom 0 "[" ts ++ "]").length = _
    rw [strLen_append]; rfl
  have hsz2 : ∀ t ∈ ts, t.length ≤ sizeLine := fun t ht => by
    have h2 := hL.2.1 t ht
    omega
  have hsz3 : (listText ts).length ≤ sizeLine := by omega
  have hp3 := piled_le_listText ts
  have hxl := hxs.length
  intro n
  induction n with
  | zero =>
    intro i s hn hi hst
    obtain ⟨F', H', e, om, I⟩ := hst
    have hin : i = ds.length := by omega
    obtain ⟨z1, its, m, r, hl, hget⟩ := I.lstM (om.sub _ _ (e _ _ ha))
    obtain ⟨ys, hu, rs⟩ := om.cellAt updM_same
    have ey := reps_strs rs
    subst ey
    obtain ⟨z2, itsP, mP, rP, hlP, hgetP⟩ := I.lstM hu
    obtain ⟨done, rfl, hdone⟩ := vals_strs rP
    refine codeAny_builtin PySem.F.entry_list_repr_loop ?_
    show wpAny _ _ (Builtin.«list.__repr__.loop» ⟨[.ref a, .int i 0, .ref P, .int ((b + piled (ts.take i) : Nat) : Int) 0], []⟩) _ _ s
    rw [repr_loop_tree]
    refine wpAny_bind (wpAny_listItems hget rfl ?_)
    have hnone : its.toArray[(i : Int).toNat]? = none := by
      simp
      omega
    simp only [hnone]
    unfold reprEnd
    refine wpAny_bind (wpAny_listItems hgetP rfl ?_)
    show wpAny _ _ ((forIn ((strValues done).zipIdx) ("[" : Str) reprBody : Sem Str) >>= _) _ _ _
    rw [repr_fold]
    refine wpAny_bind (wpAny_pure ?_)
    have hall : done.map (·.1) = ts := by rw [hdone, hin, ← hlen, List.take_length]
    rw [hall]
    refine wpAny_bind (wpAny_mkStr (wpAny_pure ?_) hsz3)
    have hst2 : ts.take i = ts := by rw [hin, ← hlen, List.take_length]
    rw [hst2] at om
    exact hR _ _ ⟨F', H', e, om, I.tok _⟩
  | succ n ih =>
    intro i s hn hi hst
    obtain ⟨F', H', e, om, I⟩ := hst
    have hlt : i < ds.length := by omega
    obtain ⟨t, ht, hrep⟩ := hT i ds[i] (List.getElem?_eq_getElem hlt)
    obtain ⟨v, hv, rv⟩ := hxs.get (List.getElem?_eq_getElem hlt)
    have hp1 := piled_take_succ ht
    have hp2 := piled_take_le ts (i + 1)
    obtain ⟨z1, its, m, r, hl, hget⟩ := I.lstM (om.sub _ _ (e _ _ ha))
    obtain ⟨u, hu, ru⟩ := r.get hv
    refine codeAny_builtin PySem.F.entry_list_repr_loop ?_
    show wpAny _ _ (Builtin.«list.__repr__.loop» ⟨[.ref a, .int i 0, .ref P, .int ((b + piled (ts.take i) : Nat) : Int) 0], []⟩) _ _ s
    rw [repr_loop_tree]
    refine wpAny_bind (wpAny_listItems hget rfl ?_)
    have hsome : its.toArray[(i : Int).toNat]? = some u := by simpa using hu
    simp only [hsome]
    rw [Int.toNat_natCast]
    refine wpAny_bind (wpAny_holding (hrep _ pins σ s F0 F' H' _ v u (b + piled (ts.take i) + 1) _ _ (room_loop hr) hA.loop (by omega) I om (rv.mono e) ru fun s2 F2 H2 I2 e2 om2 => ?_))
    obtain ⟨ys, hu2, rs⟩ := om2.cellAt updM_same
    have ey := reps_strs rs
    subst ey
    have I3 : Inv X pins σ H2 { s2 with toks := s2.toks + 1 } := I2.tok _
    obtain ⟨z2, itsP, mP, rP, hlP, hgetP⟩ := I2.lstM hu2
    refine wpAny_bind (wpAny_mkStr ?_ (hsz2 t (List.mem_of_getElem? ht)))
    refine wpAny_bind ?_
    show wpAny _ _ (updateSeq P _) _ _ _
    have hps : ((ts.take i).map V.str).length ≤ i := by
      rw [List.length_map, List.length_take]
      omega
    have hz : i + 1 ≤ sizeLine := by
      have h1 := hL.1
      rw [if_neg (Nat.lt_irrefl 0)] at h1
      omega
    have hasz : itsP.toArray.size ≤ sizeLine := by
      rw [List.size_toArray]
      omega
    refine wpAny_updateSeq hgetP rfl (wpAny_pure ⟨PySem.F.quiet_list_repr_loop _, ?_⟩) hasz
    have e1 : ((i : Int) + 1) = ((i + 1 : Nat) : Int) := by omega
    have e3 : b + piled (ts.take i) + (t.length + 2) = b + piled (ts.take (i + 1)) := by omega
    rw [e1, e3]
    have hys : (ts.take (i + 1)).map V.str = (ts.take i).map V.str ++ [V.str t] := by
      rw [List.take_add_one, ht, List.map_append]
      rfl
    have hds : (ts.take (i + 1)).map Dat.str = (ts.take i).map Dat.str ++ [Dat.str t] := by
      rw [List.take_add_one, ht, List.map_append]
      rfl
    refine ih (i + 1) _ (by omega) hlt ⟨F2, upd H2 P (.lst ((ts.take (i + 1)).map V.str)), e.trans e2, ?_, I3.lset (its' := itsP ++ [.str t s2.toks]) hu2 hgetP (by simp) ?_ ?_⟩
    · have := om2.put updM_same (repM_lst (ds := (ts.take (i + 1)).map Dat.str) (vs := (ts.take (i + 1)).map V.str) (by rw [hys, hds]; exact rs.app (Reps.cons rep_str Reps.nil)))
      rw [updM_updM] at this
      exact this
    · rw [hys]
      exact rP.append (.cons ⟨_, rfl⟩ .nil)
    · rw [List.length_map, List.length_take]
      omega
theorem dcl_reprLO {X : Cx} {F0 : Hp} {M : Mem} {q : DK} {ds : List Dat} {ts : List Str} {k : Nat} (hr : Room (k + 2) X.A) (hg : X.A.guards = some []) (hne : ds ≠ []) (hlen : ts.length = ds.length) (hT : ∀ (i : Nat) (d : Dat), ds[i]? = some d → ∃ t, ts[i]? = some t ∧ ShowAt X k d t)
    (hsz : (listText ts).length ≤ sizeLine) (h : q (.str (listText ts)) M) : DCl X F0 (.builtin "repr") [.lst ds] M q :=
  dcl_raw fun F H vs Q om rx0 kq pins σ s us I rv => by
    obtain ⟨vx, rfl, a, xs, rfl, ha, hxs⟩ := reps1 rx0
    obtain ⟨u, rfl, ru⟩ : ∃ u, us = [u] ∧ RelV (.ref a) u := by
      cases rv with
      | cons r t =>
        cases t
        exact ⟨_, rfl, r⟩
    obtain rfl : u = .ref a := ru
    obtain ⟨z1, its, m, r, hl, hget⟩ := I.lstM (om.sub _ _ ha)
    have hxl := hxs.length
    obtain ⟨x, l, rfl⟩ : ∃ x l, its = x :: l := by
      cases its with
      | nil =>
        rw [List.length_nil] at hl
        exact absurd (List.length_eq_zero_iff.mp (hxl.trans hl)) hne
      | cons x l => exact ⟨x, l, rfl⟩
    have hP : H s.heap.objs.size = none := I.hok.fresh (Nat.le_refl _)
    have hMP := om.freeM hP
    refine call_repr_slot (by have := hr.un; omega) ⟨_, hget, rfl⟩ PySem.F.slot_list_repr.toG (wpAny_call (codeAny_call_builtin PySem.F.slot_list_repr.plain PySem.F.entry_list_repr (PySem.F.slot_list_repr.check _ _ _ _ _ _ _ _ ⟨_, hget, rfl⟩ (PySem.F.args_list_repr_1 _) ?_)))
    refine wpAny_list_repr_head (A := X.A.in1.in1) (b := 0) hg (fun v rest kw hm => (by cases hm)) hget rfl ?_
    refine wpAny_bind (m := newList []) (wpAny_newObj_type ?_)
    refine wpAny_pure ⟨PySem.F.quiet_list_repr_loop _, ?_⟩
    have I1 : Inv X pins σ (upd H s.heap.objs.size (.lst [])) { s with heap := s.heap.push { cls := .type "list", data := .seq ([] : List Value).toArray } } :=
      I.laid (t' := s.toks) (fun b o e => Heap.get?_push_of_some _ e) (Nat.le_refl _) ⟨Nat.zero_le _, [], 0, .nil, Heap.get?_push_size _ rfl⟩
    have om1 := om.cell hP (w := .lst []) (u := .lst []) (repM_lst Reps.nil)
    refine repr_loop (X := X) (pins := pins) (σ := σ) (F0 := F0) (F := F) (M := M) (P := s.heap.objs.size) (b := 0) (k := k) hr.in1 AFr.self.in1 ha hxs hlen hT (by omega) (fun s' tk hst => ?_) ds.length 0 _ (by omega) (Nat.zero_le _) ⟨F, _, Ex.refl F, om1, I1⟩
    obtain ⟨F', H', e', om', I'⟩ := hst
    refine ⟨_, _, rfl, .str (listText ts), H', I', ⟨tk, rfl⟩, ?_⟩
    obtain ⟨hF, u', hu, ru'⟩ := om'.mem _ _ updM_same
    have om2 := om'.freeze updM_same hu
    rw [del_upd hMP] at om2
    exact kq _ _ _ _ _ (e'.trans (Ex.new hF)) om2 rep_str h
end DL
/-! DX1: an own exception over a built-in one: its __init__ (super().__init__(text), then attributes), at the machine's level -/
namespace PySem.DX
open PySem PySem.W PySem.Calls PyProof.Rows PySem.HandSPX Builtin Builtin.ObjectAttr
/-- a built-in exception class: its ids, its mro -/
structure XB (B newId initId : String) (tl : List Value) : Prop where
  fac : ExcBaseFacts B newId initId tl
  sto : StoreFacts B tl "object.__setattr__" "object"
  kxs : KxsFacts B initId
  ne : tl ≠ []
  obj : tl.contains (.type "object") = true
theorem xbVE : XB "ValueError" "ValueError.__new__" "ValueError.__init__" [.type "ValueError", .type "Exception", .type "BaseException", .type "object"] := ⟨F.excBase_ValueError, F.store_ValueError, kxs_ValueError, by simp, by decide +kernel⟩
theorem xbLE : XB "LookupError" "LookupError.__new__" "LookupError.__init__" [.type "LookupError", .type "Exception", .type "BaseException", .type "object"] := ⟨F.excBase_LookupError, F.store_LookupError, kxs_LookupError, by simp, by decide +kernel⟩
theorem xbIE : XB "IndexError" "IndexError.__new__" "IndexError.__init__" [.type "IndexError", .type "LookupError", .type "Exception", .type "BaseException", .type "object"] := ⟨F.excBase_IndexError, F.store_IndexError, kxs_IndexError, by simp, by decide +kernel⟩
/-- own classes, then the built-in class's mro -/
def refsX (tl : List Value) : List Value → Bool
  | .ref _ :: r => refsX tl r
  | l => l == tl
theorem refsX_cases {tl : List Value} : ∀ l : List Value, refsX tl l = true → (∃ c r, l = .ref c :: r ∧ refsX tl r = true) ∨ l = tl
  | [], e => .inr (beq_iff_eq.mp e)
  | .ref c :: r, e => .inl ⟨c, r, rfl, e⟩
  | .none :: _, e => .inr (beq_iff_eq.mp e)
  | .ellipsis :: _, e => .inr (beq_iff_eq.mp e)
  | .notImplemented :: _, e => .inr (beq_iff_eq.mp e)
  | .bool _ :: _, e => .inr (beq_iff_eq.mp e)
  | .int _ _ :: _, e => .inr (beq_iff_eq.mp e)
  | .float _ _ :: _, e => .inr (beq_iff_eq.mp e)
  | .str _ _ :: _, e => .inr (beq_iff_eq.mp e)
  | .bytes _ _ :: _, e => .inr (beq_iff_eq.mp e)
  | .type _ :: _, e => .inr (beq_iff_eq.mp e)
  | .builtin _ :: _, e => .inr (beq_iff_eq.mp e)
section
variable {B newId initId : String} {tl : List Value}
theorem refsX_pass (X : XB B newId initId tl) (self : Value) : ∀ l : List Value, refsX tl l = true → refuseLoop self "__setattr__" l = pure () := by
  intro l
  induction l with
  | nil =>
    intro e
    rcases refsX_cases [] e with ⟨c, r', q, _⟩ | q
    · cases q
    · exact absurd q.symm X.ne
  | cons a r ih =>
    intro e
    rcases refsX_cases (a :: r) e with ⟨c, r', q, h⟩ | q
    · obtain ⟨rfl, rfl⟩ := List.cons.inj q
      rw [refuseLoop_ref]; exact ih h
    · rw [q]; exact X.sto.passes self
theorem refsX_contains (Y : String) : ∀ l : List Value, refsX tl l = true → l.contains (.type Y) = tl.contains (.type Y) := by
  intro l
  induction l with
  | nil =>
    intro e
    rcases refsX_cases [] e with ⟨c, r', q, _⟩ | q
    · cases q
    · rw [← q]
  | cons a r ih =>
    intro e
    rcases refsX_cases (a :: r) e with ⟨c, r', q, h⟩ | q
    · obtain ⟨rfl, rfl⟩ := List.cons.inj q
      rw [List.contains_cons, ih h]; rfl
    · rw [q]
theorem refsX_ne (X : XB B newId initId tl) {l : List Value} (e : refsX tl l = true) : l.isEmpty = false := by
  cases l with
  | nil =>
    rcases refsX_cases [] e with ⟨c, r', q, _⟩ | q
    · cases q
    · exact absurd q.symm X.ne
  | cons _ _ => rfl
section
variable {prog : Program} {w : World} {A : Around} {E : Value → Shared → Prop} {R : Result → Shared → Prop} {hp : Heap} {g : Array GenState} {d : Drawn} {t : Nat} {os : OsState}
/-- the first attribute -/
theorem osa_first (XX : XB B newId initId tl) {K : W.Frag} {name : Str} {tk : Tok} {v : Value} {x C : Addr} {fv : Array Value} {cd : ClassData}
    (X : K.In hp) (hx : hp.get? x = some { cls := .ref C, data := .fields fv }) (hcd : W.clsIn K C = some cd) (hm : refsX tl cd.mro = true) (hh : cd.hasDict = true) (ha : W.findIn K (.ref C) name = some none)
    (hq : ∀ h' tk' dx, (∀ b o, b ≠ x → hp.get? b = some o → h'.get? b = some o) → hp.objs.size ≤ dx → dx ≠ x → h'.get? x = some { cls := .ref C, dict := some dx, data := .fields fv } →
      h'.Ns1 dx (fun y => if y = name then some v else none) → R (.ok (.ret .none)) ⟨h', g, d, tk', os⟩) :
    codeAny (model prog w) A (.call (.builtin "object.__setattr__") ⟨[.ref x, .str name tk, v], []⟩) R ⟨hp, g, d, t, os⟩ := by
  have I : W.InstAt hp x { cls := .ref C, data := .fields fv } C none := ⟨hx, rfl, rfl, trivial⟩
  have SF := F.store_object
  have ne := refsX_ne XX hm
  have hob : cd.mro.contains (.type "object") = true := (refsX_contains "object" _ hm).trans XX.obj
  have hxs : x ≠ hp.objs.size := Nat.ne_of_lt (Heap.lt_size hx)
  have sub : W.Looks (model prog w) hp (isInstance (.ref x) (.type "object")) true := I.type.andThen (W.looks_mroIn X (by unfold W.mroIn; rw [hcd, Option.bind_some, if_neg (by rw [ne]; decide), hob]))
  refine codeAny_call_builtin SF.slot.plain SF.entry (@W.check_slot (model prog w) _ _ ⟨hp, g, d, t, os⟩ "object.__setattr__" "object" "__setattr__" (.ref x) [.str name tk, v] [] _ SF.kind SF.split sub (SF.args (.ref x) (.str name tk) v) ?_)
  have hmr : W.Looks (model prog w) hp (mroOf (.ref C)) cd.mro := (W.looks_clsIn X hcd).andThen .now
  have L3 : W.Looks (model prog w) hp (storeTaker? none) none := .now
  have hcls : W.Looks (model prog w) hp (classData C) cd := W.looks_clsIn X hcd
  rw [W.osa_eq, refuse_eq]
  refine wpAny_bind (wpAny_bind (I.type.at (wpAny_bind (hmr.at ?_))))
  rw [refsX_pass XX _ _ hm]
  refine wpAny_pure (wpAny_bind (I.type.at (wpAny_bind ((W.looks_findIn X ha).at (wpAny_bind (L3.at ?_))))))
  show wpAny _ _ (storeInOwnDict (.ref x) (.ref C) (.str name tk) name v false) _ _ _
  obtain ⟨nm, bs, mro, ns, qn, hd, sn, sb, ab, col, del⟩ := cd
  dsimp only at hh
  subst hh
  unfold storeInOwnDict ownDictForStores
  repeat (first | with_reducible refine store_in_new ?_ ?_ | with_reducible refine wpAny_loadPart_at hx ?_ | with_reducible refine hcls.at ?_ | wp_step)
  · exact ⟨_, #[], _, (Heap.get?_update_ne _ _ _ _ hxs.symm).trans (Heap.get?_push_at rfl rfl), rfl, fun e he => absurd he (by simp), fun _ => rfl⟩
  · intro h' tk' hn' hs
    have hx₁ : (hp.push { cls := .type "dict", data := .dict #[] }).get? x = some { cls := .ref C, data := .fields fv } := Heap.get?_push_of_some _ hx
    refine hq h' tk' hp.objs.size (fun b o hb ho => ?_) (Nat.le_refl _) hxs.symm ?_ hn'
    · exact (hs.2 b (Nat.ne_of_lt (Heap.lt_size ho))).trans ((Heap.get?_update_ne _ _ _ _ hb).trans (Heap.get?_push_of_some _ ho))
    · exact (hs.2 x hxs).trans (Heap.get?_update_self _ hx₁ rfl)
/-- a further one -/
theorem osa_more (XX : XB B newId initId tl) {K : W.Frag} {name : Str} {tk : Tok} {v : Value} {x C dx : Addr} {fv : Array Value} {cd : ClassData} {m0 : Str → Option Value} {nl : List Str}
    (X : K.In hp) (hx : hp.get? x = some { cls := .ref C, dict := some dx, data := .fields fv }) (hns : hp.Ns1 dx m0) (hw : Within m0 nl) (hz : nl.length ≤ 1000) (hcd : W.clsIn K C = some cd) (hm : refsX tl cd.mro = true) (hh : cd.hasDict = true)
    (ha : W.findIn K (.ref C) name = some none)
    (hq : ∀ h' tk', (∀ b o, b ≠ dx → hp.get? b = some o → h'.get? b = some o) → h'.Ns1 dx (fun y => if y = name then some v else m0 y) → R (.ok (.ret .none)) ⟨h', g, d, tk', os⟩) :
    codeAny (model prog w) A (.call (.builtin "object.__setattr__") ⟨[.ref x, .str name tk, v], []⟩) R ⟨hp, g, d, t, os⟩ := by
  obtain ⟨oD, esD, epD, hoD, hdD, _⟩ := hns.count hw
  have I : W.InstAt hp x { cls := .ref C, dict := some dx, data := .fields fv } C (some oD) := ⟨hx, rfl, rfl, hoD⟩
  have SF := F.store_object
  have ne := refsX_ne XX hm
  have hob : cd.mro.contains (.type "object") = true := (refsX_contains "object" _ hm).trans XX.obj
  have sub : W.Looks (model prog w) hp (isInstance (.ref x) (.type "object")) true := I.type.andThen (W.looks_mroIn X (by unfold W.mroIn; rw [hcd, Option.bind_some, if_neg (by rw [ne]; decide), hob]))
  refine codeAny_call_builtin SF.slot.plain SF.entry (@W.check_slot (model prog w) _ _ ⟨hp, g, d, t, os⟩ "object.__setattr__" "object" "__setattr__" (.ref x) [.str name tk, v] [] _ SF.kind SF.split sub (SF.args (.ref x) (.str name tk) v) ?_)
  have hmr : W.Looks (model prog w) hp (mroOf (.ref C)) cd.mro := (W.looks_clsIn X hcd).andThen .now
  have L3 : W.Looks (model prog w) hp (storeTaker? none) none := .now
  have hcls : W.Looks (model prog w) hp (classData C) cd := W.looks_clsIn X hcd
  rw [W.osa_eq, refuse_eq]
  refine wpAny_bind (wpAny_bind (I.type.at (wpAny_bind (hmr.at ?_))))
  rw [refsX_pass XX _ _ hm]
  refine wpAny_pure (wpAny_bind (I.type.at (wpAny_bind ((W.looks_findIn X ha).at (wpAny_bind (L3.at ?_))))))
  show wpAny _ _ (storeInOwnDict (.ref x) (.ref C) (.str name tk) name v false) _ _ _
  obtain ⟨nm, bs, mro, ns, qn, hd, sn, sb, ab, col, del⟩ := cd
  dsimp only at hh
  subst hh
  unfold storeInOwnDict ownDictForStores
  repeat (first | with_reducible refine PySem.OEX.store_in_old hns hw hz ?_ | with_reducible refine wpAny_loadPart_at hx ?_ | with_reducible refine hcls.at ?_ | wp_step)
  intro h' tk' hn' hs
  exact hq h' tk' (fun b o hb ho => (hs.2 b hb).trans ho) hn'
end
end
end PySem.DX
/-! DX2: super().__init__(text) in an own exception's __init__ -/
namespace PySem.DX
open PySem PySem.W PySem.Calls PyProof.Rows PySem.HandSPX Builtin Builtin.ObjectAttr
/-- what the written part tells of an own exception class at C and its __init__ at fI -/
structure XCls (prog : Program) (K : Frag) (mg : Str → Option Value) (initId newId B : String) (tl : List Value) (C fI cc cda : Addr) (qual : Str) (params : Arguments) (body : List Stmt) (scope : Scope) (ps : List Str) : Prop where
  xb : XB B newId initId tl
  cls : ∃ nm q N bs bm sn sub ab col dd k0 k1 k2 k3 k5, K.lookup C = some (excClassObj nm q C N bs bm true sn sub ab col dd k0 k1 k2 k3 k5 newId) ∧ refsX tl bm = true ∧ alongIn K "__init__" bm = some (some (.builtin initId))
  sa : findIn K (.ref C) "__setattr__" = some (some (.builtin "object.__setattr__"))
  iC : findIn K (.ref C) "__init__" = some (some (.ref fI))
  tI : typeIn K (.ref fI) = some (.type "function")
  exC : subIn K (.ref C) (.type "BaseException") = some true
  exB : subIn K (.ref C) (.type B) = some true
  tyC : typeIn K (.ref C) = some (.type "type")
  kC : keepIn K (.ref C) = true
  own : mroIn K C (.ref C) = some true
  op : nsIn K cStatics "thirdparty.any" = some none
  fn : ∃ dV kV doc pm ct oc an od osl, K.lookup fI = some ⟨oc, od, .func (ksFn "__init__" qual params body scope dV kV doc pm an (.ref cda) ct cc), osl⟩ ∧
    ∀ (s : Shared) (a : Addr) (us : List Value), us.length = ps.length → BindsTo s (ksFn "__init__" qual params body scope dV kV doc pm an (.ref cda) ct cc) ⟨.ref a :: us, []⟩ (("self", .ref a) :: ps.zip us)
  cod : codeIn K (.ref cda) qual = true
  cel : ∃ cl cld csl, K.lookup cc = some ⟨cl, cld, .cell (some (.ref C)), csl⟩
  cdo : ∃ ccl cdd vs ccs file tf, K.lookup cda = some ⟨ccl, cdd, .fields vs, ccs⟩ ∧ vs[2]? = some (.str file tf) ∧ ((prog.main.file : Str) == file) = true
  top : (prog.main.scope.names.lookup ("super" : Str)).isSome = false
  msu : mg "super" = none
  /-- the scope of the __init__ -/
  kind : scope.kind = .function
  co : scope.isCoroutine = false
  gen : scope.isGenerator = false
  nocell : ∀ x ∈ scope.names, x.2 ≠ .cell
  sSup : scope.names.lookup ("super" : Str) = some .globalImplicit
  sCls : scope.names.lookup ("__class__" : Str) = some .free
  sSelf : scope.names.lookup ("self" : Str) = some .local
  sPar : ∀ x ∈ ps, scope.names.lookup x = some .local ∧ x ≠ "self"
  par : ∃ ar, (params.posonlyargs ++ params.args).head? = some ar ∧ ar.arg = "self"
/-- the call super().__init__(text) is a method's call (told of the written positions by rfl) -/
def SupEv (env : Env) (msg : Str) (j : Nat) (p0 p1 p2 p3 p4 : Pos) : Prop :=
  ∃ pl : Sem Bool, eval (.Call (.Attribute (.Call (.Name "super" p0) [] [] p1) "__init__" p2) [.Constant (.str msg) j p3] [] p4) env = (do
    let ov ← attributeBase (.Call (.Name "super" p0) [] [] p1) "__init__" env (eval (.Call (.Name "super" p0) [] [] p1) env)
    standAt p2.atName
    let (f, first) ← holding [ov] (getMethod ov "__init__" pl)
    callWith p4 f first (backTo p4 (starEach [.Constant (.str msg) j p3] env)) [])
section
variable {prog : Program} {w : World} {A : Around} {K : Frag} {mg mb : Str → Option Value} {B newId initId : String} {tl : List Value} {C fI cc cda a L t0 : Addr} {qual : Str} {params : Arguments} {body : List Stmt} {scope : Scope} {ps : List Str}
  {h : Heap} {g : Array GenState} {d : Drawn} {t : Nat} {os : OsState} {m : Str → Option Value}
theorem clsX {nm q : Str} {N : Addr} {bs bm : List Value} {sn : List Str} {sub : List Value} {ab : Bool} {col : Option Bool} {dd : Option Addr} {k0 k1 k2 k3 k5 : Option Value} (hC : K.lookup C = some (excClassObj nm q C N bs bm true sn sub ab col dd k0 k1 k2 k3 k5 newId)) :
    clsIn K C = some { name := nm, bases := bs, mro := .ref C :: bm, ns := N, qualname := q, hasDict := true, slotNames := sn, subclasses := sub, abstract := ab, collection := col, hasDel := false } := by
  unfold clsIn
  rw [hC] <;> rfl
/-- super().__init__(text), the first statement -/
theorem super_stmt {E : Value → Shared → Prop} {Q : Flow → Shared → Prop} {msg : Str} {j : Nat} {p0 p1 p2 p3 p4 p5 : Pos} (T : XCls prog K mg initId newId B tl C fI cc cda qual params body scope ps) (sv : SupEv (ksEnv qual scope L fI (.ref cda) cc) msg j p0 p1 p2 p3 p4) (X : K.In h) (hL : h.Ns L m) (hm : m "self" = some (.ref a))
    (he : h.get? a = some (excO C t0)) (hG : h.Ns mainGlobals mg) (hB : h.Ns builtinsNs mb) (hb : ∀ x : Str, x ≠ "__name__" → mb x = bootBuiltins x)
    (hq : ∀ h' t' t1, (∀ b o, b ≠ a → h.get? b = some o → h'.get? b = some o) → h'.get? a = some (excO C t1) → Q .next ⟨h', g, d, t', os⟩) :
    _root_.PySem.wpAt (model prog w) A (.func body (ksEnv qual scope L fI (.ref cda) cc)) (exec (.Expr (.Call (.Attribute (.Call (.Name "super" p0) [] [] p1) "__init__" p2) [.Constant (.str msg) j p3] [] p4) p5) (ksEnv qual scope L fI (.ref cda) cc)) Q E ⟨h, g, d, t, os⟩ := by
  obtain ⟨nm, q, N, bs, bm, sn, sub, ab, col, dd, k0, k1, k2, k3, k5, hC, hbm, hal⟩ := T.cls
  obtain ⟨dV, kV, doc, pm, ct, oc, an, od, osl, hfn, _⟩ := T.fn
  obtain ⟨cl, cld, csl, hcel⟩ := T.cel
  obtain ⟨ccl, cdd, vs, ccs, file, tf, hcd, hvs, hfile⟩ := T.cdo
  obtain ⟨ar, hp, har⟩ := T.par
  have hcl := clsX hC
  have hxC : a ≠ C := fun e => by
    have h1 := X _ _ hC
    rw [← e, he] at h1
    cases h1
  obtain ⟨pl, hev⟩ := sv
  refine ks_wpAt_Expr_any (ks_wpAt_MethodCall (pl := pl) (ks_wpAt_super_base (env := ksEnv qual scope L fI (.ref cda) cc) (ar := ar) T.sSup T.sCls (by decide) rfl (X _ _ hfn) rfl hp rfl (X _ _ hcd) rfl hvs hfile T.top ?_) hev) (by show interactive _ = false; unfold interactive; simp [T.kind])
  refine ks_loadName_global T.kind T.sSup (loadGlobal_builtin (env := ksEnv qual scope L fI (.ref cda) cc) hG T.msu hB ((hb "super" (by decide)).trans (by first | boot_by_name | rfl | kernel_rfl)) ⟨rfl, ?_⟩)
  refine wpAny_loadName_free T.kind T.sCls rfl ⟨_, X _ _ hcel, rfl⟩ ?_
  rw [har]
  refine wpAny_loadName_local T.kind T.sSelf hL hm ?_
  refine ks_wpAny_isType_cls (X _ _ hC) rfl ⟨rfl, ?_⟩
  refine ks_wpAny_call_super (X _ _ hC) rfl he rfl (fun c e => by cases e) (looks_mroIn X T.own) (fun h2 e2 k2' => ?_)
  have X2 : K.In h2 := X.keeps k2'
  have he2 := k2' _ _ he
  have I2 : InstAt h2 a (excO C t0) C none := ⟨he2, rfl, rfl, trivial⟩
  refine kxs_getMethod T.xb.kxs e2 (looks_opaque X2 T.op) (l₀ := .ref C :: bm) (l := bm) ?_ (by simp [List.dropWhile_cons]) X2 hal (I2.type.andThen (looks_subIn X2 T.exB)) hxC (by decide) ?_
  · exact fun A Q E s k q => wpAny_bind ((looks_clsIn X2 hcl) A _ E s k (wpAny_pure q))
  have hu : (h2.push (kxs_mw initId a)).get? h2.objs.size = some (kxs_mw initId a) := Heap.get?_push_size _ rfl
  have he3 : (h2.push (kxs_mw initId a)).get? a = some (excO C t0) := Heap.get?_push_of_some _ he2
  have hC3 := (X2.keeps fun b o z => Heap.get?_push_of_some _ z : K.In (h2.push (kxs_mw initId a))) _ _ hC
  show wpAny _ _ (callWith p4 (.ref h2.objs.size) [] (backTo p4 (starEach [.Constant (.str msg) j p3] (ksEnv qual scope L fI (.ref cda) cc))) []) _ _ _
  refine kxs_callWith (i := initId) (x := a) rfl ?_
  refine evalArgs_plain (spliced_cons (Constant_str (k := j) (pos := p3) (spliced_nil ⟨hu, ?_⟩)))
  refine wpAny_call (codeAny_of_tree ?_)
  show wpAny _ A.in1 (callAny (.ref h2.objs.size) ⟨[.str msg (t + 1)], []⟩) _ _ _
  simp only [callAny]
  refine wpAny_bind (wpAny_load hu ?_)
  simp only [kxs_mw, show (Value.type "method-wrapper" == Value.type "method" || Value.type "method-wrapper" == Value.type "builtin_function_or_method" || Value.type "method-wrapper" == Value.type "method-wrapper") = true by decide, if_true]
  refine KFB.if_so (by decide) ?_
  refine wpAny_bind (check_bound_init T.xb.fac.toExcCallFacts hC3 he3 rfl ?_)
  refine wpAny_bind (wpAny_pure (wpAny_pure ?_))
  refine ⟨plainId_quiet T.xb.fac.init.plain _, codeAny_builtin T.xb.fac.initEntry ?_⟩
  refine exc_init_tree (cls := .ref C) (t0 := t0) (dv := none) (c2 := .none) (c3 := .none) (b4 := .bool false) he3 (show (1 : Nat) ≤ sizeLine by decide) fun h' k e _ => ?_
  exact hq h' _ _ (fun b o hb z => k b o hb (Heap.get?_push_of_some _ (k2' _ _ z))) e
/-- self.name = v, the first one -/
theorem set_first {E : Value → Shared → Prop} {Q : Unit → Shared → Prop} {name : Str} {v : Value} (T : XCls prog K mg initId newId B tl C fI cc cda qual params body scope ps) (X : K.In h) (he : h.get? a = some (excO C t0)) (hno : findIn K (.ref C) name = some none)
    (hq : ∀ h' t' dx, (∀ b o, b ≠ a → h.get? b = some o → h'.get? b = some o) → h.objs.size ≤ dx → dx ≠ a → h'.get? a = some { cls := .ref C, dict := some dx, data := .fields #[.ref t0, .none, .none, .none, .bool false, .none] } → h'.Ns1 dx (fun y => if y = name then some v else none) → Q () ⟨h', g, d, t', os⟩) :
    wpAny (model prog w) A (setAttr (.ref a) name v) Q E ⟨h, g, d, t, os⟩ := by
  obtain ⟨nm, q, N, bs, bm, sn, sub, ab, col, dd, k0, k1, k2, k3, k5, hC, hbm, hal⟩ := T.cls
  refine set_plain X (ox := excO C t0) (od := none) ⟨he, rfl, rfl, trivial⟩ T.sa ?_
  exact osa_first T.xb X he (clsX hC) (show refsX tl (.ref C :: bm) = true from hbm) rfl hno fun h' tk' dx k dn dne hx hn => hq h' tk' dx k dn dne hx hn
/-- a further one -/
theorem set_more {E : Value → Shared → Prop} {Q : Unit → Shared → Prop} {name : Str} {v : Value} {dx : Addr} {m0 : Str → Option Value} {nl : List Str} (T : XCls prog K mg initId newId B tl C fI cc cda qual params body scope ps) (X : K.In h) (he : h.get? a = some { cls := .ref C, dict := some dx, data := .fields #[.ref t0, .none, .none, .none, .bool false, .none] })
    (hns : h.Ns1 dx m0) (hw : Within m0 nl) (hz : nl.length ≤ 1000) (hno : findIn K (.ref C) name = some none)
    (hq : ∀ h' t', (∀ b o, b ≠ dx → h.get? b = some o → h'.get? b = some o) → h'.Ns1 dx (fun y => if y = name then some v else m0 y) → Q () ⟨h', g, d, t', os⟩) :
    wpAny (model prog w) A (setAttr (.ref a) name v) Q E ⟨h, g, d, t, os⟩ := by
  obtain ⟨nm, q, N, bs, bm, sn, sub, ab, col, dd, k0, k1, k2, k3, k5, hC, hbm, hal⟩ := T.cls
  obtain ⟨oD, _, _, hoD, _, _⟩ := hns.count hw
  refine set_plain X (ox := { cls := .ref C, dict := some dx, data := .fields #[.ref t0, .none, .none, .none, .bool false, .none] }) (od := some oD) ⟨he, rfl, rfl, hoD⟩ T.sa ?_
  exact osa_more T.xb X he hns hw hz (clsX hC) (show refsX tl (.ref C :: bm) = true from hbm) rfl hno fun h' tk' k hn => hq h' tk' k hn
end
end PySem.DX
/-! DX3: the __init__ of an own exception, whole -/
namespace PySem.DX
open PySem PySem.W PySem.Calls PyProof.Rows PySem.HandSPX Builtin Builtin.ObjectAttr
/-- the exception object, its dict at dx -/
abbrev excD (C t1 dx : Addr) : Obj := { cls := .ref C, dict := some dx, data := .fields #[.ref t1, .none, .none, .none, .bool false, .none] }
section
variable {prog : Program} {w : World} {A : Around} {K : Frag} {mg mb : Str → Option Value} {B newId initId : String} {tl : List Value} {C fI cc cda a t0 : Addr} {qual : Str} {params : Arguments} {body : List Stmt} {scope : Scope} {ps : List Str}
  {h : Heap} {g : Array GenState} {d : Drawn} {t : Nat} {os : OsState} {R : Result → Shared → Prop}
abbrev supSt (msg : Str) (j : Nat) (p0 p1 p2 p3 p4 p5 : Pos) : Stmt := .Expr (.Call (.Attribute (.Call (.Name "super" p0) [] [] p1) "__init__" p2) [.Constant (.str msg) j p3] [] p4) p5
abbrev codSt (code : Str) (j : Nat) (p6 p7 p8 p9 : Pos) : Stmt := .Assign [.Attribute (.Name "self" p6) "code" p7] (.Constant (.str code) j p8) p9
abbrev attSt (attr prm : Str) (p6 p7 p8 p9 : Pos) : Stmt := .Assign [.Attribute (.Name "self" p6) attr p7] (.Name prm p8) p9
/-- an __init__ with no further parameter -/
theorem init_code0 {msg code : Str} {j j2 : Nat} {p0 p1 p2 p3 p4 p5 p6 p7 p8 p9 : Pos} (T : XCls prog K mg initId newId B tl C fI cc cda qual params body scope []) (hbody : body = [supSt msg j p0 p1 p2 p3 p4 p5, codSt code j2 p6 p7 p8 p9])
    (sv : ∀ L, SupEv (ksEnv qual scope L fI (.ref cda) cc) msg j p0 p1 p2 p3 p4) (hcode : findIn K (.ref C) "code" = some none) (hroom : A.depth < recursionLimit) (X : K.In h) (hKa : ∀ b o, K.lookup b = some o → b ≠ a) (lim : h.NoLimit) (he : h.get? a = some (excO C t0)) (hG : h.Ns mainGlobals mg) (hB : h.Ns builtinsNs mb) (hb : ∀ x : Str, x ≠ "__name__" → mb x = bootBuiltins x)
    (hq : ∀ h' t' t1 dx tk, (∀ b o, b ≠ a → h.get? b = some o → h'.get? b = some o) → h.objs.size ≤ dx → dx ≠ a → h'.get? a = some (excD C t1 dx) → h'.Ns1 dx (fun y => if y = "code" then some (.str code tk) else none) → R (.ok (.ret .none)) ⟨h', g, d, t', os⟩) :
    codeAny (model prog w) A (.call (.ref fI) ⟨[.ref a], []⟩) R ⟨h, g, d, t, os⟩ := by
  subst hbody
  obtain ⟨dV, kV, doc, pm, ct, oc, an, od, osl, hfn, hbind⟩ := T.fn
  have haL : a ≠ h.objs.size := Nat.ne_of_lt (Heap.lt_size he)
  refine ks_codeAny_call_defAt (binds := [("self", .ref a)]) hroom (X _ _ hfn) rfl lim (codeRec_of X T.cod) rfl (hbind _ a [] rfl) T.nocell (fun x hx => ?_) (fun h₁ hns hk => ?_) T.co T.gen T.kind
  · obtain rfl := List.mem_singleton.mp hx
    exact T.sSelf
  have X1 : K.In h₁ := X.keeps hk
  refine ks_wpAt_execs_cons (super_stmt T (sv _) X1 hns rfl (hk _ _ he) (hG.keeps hk) (hB.keeps hk) hb fun h2 t2 t1 k2 e2 => ?_)
  have hns2 : h2.Ns h.objs.size _ := hns.at fun o z => k2 _ o haL.symm z
  have X2 : K.In h2 := fun b o z => k2 b o (hKa b o z) (X1 _ _ z)
  refine ks_wpAt_execs_cons (ks_wpAt_Assign_Attr (wpAt_of_wpAny (Constant_str (wpAny_Name (wpAny_loadName_local T.kind T.sSelf hns2 rfl (set_first T X2 e2 hcode fun h3 t3 dx k3 d3 n3 e3 m3 => ?_)) (by decide)))))
  refine wpAt_of_wpAny (wpAny_pure ?_)
  exact hq h3 _ t1 dx _ (fun b o hb z => k3 b o hb (k2 b o hb (hk b o z))) (Nat.le_trans (Nat.le_of_lt hns2.lt) d3) n3 e3 m3
/-- an __init__ that keeps its one parameter -/
theorem init_code1 {msg code attr prm : Str} {u : Value} {j j2 : Nat} {p0 p1 p2 p3 p4 p5 p6 p7 p8 p9 q6 q7 q8 q9 : Pos} (T : XCls prog K mg initId newId B tl C fI cc cda qual params body scope [prm]) (hbody : body = [supSt msg j p0 p1 p2 p3 p4 p5, codSt code j2 p6 p7 p8 p9, attSt attr prm q6 q7 q8 q9])
    (sv : ∀ L, SupEv (ksEnv qual scope L fI (.ref cda) cc) msg j p0 p1 p2 p3 p4) (hcode : findIn K (.ref C) "code" = some none) (hattr : findIn K (.ref C) attr = some none) (hdb : (prm == ("__debug__" : Str)) = false) (hroom : A.depth < recursionLimit) (X : K.In h) (hKa : ∀ b o, K.lookup b = some o → b ≠ a) (lim : h.NoLimit) (he : h.get? a = some (excO C t0))
    (hG : h.Ns mainGlobals mg) (hB : h.Ns builtinsNs mb) (hb : ∀ x : Str, x ≠ "__name__" → mb x = bootBuiltins x)
    (hq : ∀ h' t' t1 dx tk, (∀ b o, b ≠ a → h.get? b = some o → h'.get? b = some o) → h.objs.size ≤ dx → dx ≠ a → h'.get? a = some (excD C t1 dx) → h'.Ns1 dx (fun y => if y = attr then some u else if y = "code" then some (.str code tk) else none) → R (.ok (.ret .none)) ⟨h', g, d, t', os⟩) :
    codeAny (model prog w) A (.call (.ref fI) ⟨[.ref a, u], []⟩) R ⟨h, g, d, t, os⟩ := by
  subst hbody
  obtain ⟨dV, kV, doc, pm, ct, oc, an, od, osl, hfn, hbind⟩ := T.fn
  obtain ⟨hpl, hps⟩ := T.sPar prm (List.mem_singleton.mpr rfl)
  have haL : a ≠ h.objs.size := Nat.ne_of_lt (Heap.lt_size he)
  refine ks_codeAny_call_defAt (binds := [("self", .ref a), (prm, u)]) hroom (X _ _ hfn) rfl lim (codeRec_of X T.cod) rfl (hbind _ a [u] rfl) T.nocell (fun x hx => ?_) (fun h₁ hns hk => ?_) T.co T.gen T.kind
  · rcases List.mem_cons.mp hx with rfl | hx
    · exact T.sSelf
    · obtain rfl := List.mem_singleton.mp hx
      exact hpl
  have X1 : K.In h₁ := X.keeps hk
  have e1 : ([(("self" : Str), Value.ref a), (prm, u)].reverse.lookup ("self" : Str)) = some (.ref a) := by
    show List.lookup ("self" : Str) [(prm, u), (("self" : Str), Value.ref a)] = _
    have h1 : (("self" : Str) == prm) = false := beq_false_of_ne (Ne.symm hps)
    rw [List.lookup, h1]
    simp [List.lookup]
  have e2' : ([(("self" : Str), Value.ref a), (prm, u)].reverse.lookup prm) = some u := by
    show List.lookup prm [(prm, u), (("self" : Str), Value.ref a)] = _
    simp [List.lookup]
  refine ks_wpAt_execs_cons (super_stmt T (sv _) X1 hns e1 (hk _ _ he) (hG.keeps hk) (hB.keeps hk) hb fun h2 t2 t1 k2 e2 => ?_)
  have hns2 : h2.Ns h.objs.size _ := hns.at fun o z => k2 _ o haL.symm z
  have X2 : K.In h2 := fun b o z => k2 b o (hKa b o z) (X1 _ _ z)
  refine ks_wpAt_execs_cons (ks_wpAt_Assign_Attr (wpAt_of_wpAny (Constant_str (wpAny_Name (wpAny_loadName_local T.kind T.sSelf hns2 e1 (set_first T X2 e2 hcode fun h3 t3 dx k3 d3 n3 e3 m3 => ?_)) (by decide)))))
  have hns3 : h3.Ns h.objs.size _ := hns2.at fun o z => k3 _ o haL.symm z
  have X3 : K.In h3 := fun b o z => k3 b o (hKa b o z) (X2 _ _ z)
  refine ks_wpAt_execs_cons (ks_wpAt_Assign_Attr (wpAt_of_wpAny (wpAny_Name (wpAny_loadName_local T.kind hpl hns3 e2' (wpAny_Name (wpAny_loadName_local T.kind T.sSelf hns3 e1 (set_more (nl := ["code"]) T X3 e3 m3 (Within.cons _ _ Within.nil) (by decide) hattr fun h4 t4 k4 m4 => ?_)) (by decide))) hdb)))
  refine wpAt_of_wpAny (wpAny_pure ?_)
  have hd1 : h.objs.size < h2.objs.size := hns2.lt
  exact hq h4 _ t1 dx _ (fun b o hb z => k4 b o (fun q => absurd (Nat.lt_of_lt_of_le (Nat.lt_trans (Heap.lt_size z) hd1) d3) (by rw [q]; exact Nat.lt_irrefl _)) (k3 b o hb (k2 b o hb (hk b o z)))) (Nat.le_trans (Nat.le_of_lt hd1) d3) n3 (k4 _ _ (Ne.symm n3) e3) m4
end
end PySem.DX
/-! DX4: an own exception made and raised, in data -/
namespace L2
open PySem PySem.Spec PyProof.Rows PySem.DX PySem.HandSPX
section
variable {X : Cx} {pins : List (Addr × Obj)} {σ : St} {H1 : Hp} {Q : XK} {hp h2 : Heap} {g g2 : Array GenState} {d1 d2 : Drawn} {tk t2 : Nat} {os os2 : OsState} {C dx t1 : Addr} {fs : List (Str × V)} {mA : Str → Option Value}
/-- the end of the making -/
theorem xmk_end (T : Raises X (.ref C)) (I1 : Inv X pins σ H1 ⟨hp, g, d1, tk, os⟩) (hsz : hp.objs.size ≤ dx) (hda : dx ≠ hp.objs.size + 1) (k : ∀ b o, hp.get? b = some o → h2.get? b = some o) (ha : h2.get? (hp.objs.size + 1) = some (excD C t1 dx)) (hn : h2.Ns1 dx mA)
    (rel : ∀ f, RelO (fs.lookup f) (mA f)) (q : Q (.ref C) (some dx) (upd H1 dx (.xd fs))) : MkP X pins σ Q (.ref (hp.objs.size + 1)) ⟨h2, g, d1, t2, os⟩ := by
  obtain ⟨G, g1', g2'⟩ := restrict h2 fun b => decide (b ≠ hp.objs.size + 1)
  have gk : ∀ b, b ≠ hp.objs.size + 1 → G.get? b = h2.get? b := fun b hb => g1' b (decide_eq_true hb)
  have ge : G.get? (hp.objs.size + 1) = none := g2' _ (by simp)
  have kG : ∀ b o, hp.get? b = some o → G.get? b = some o := fun b o z => by
    have hb : b ≠ hp.objs.size + 1 := Nat.ne_of_lt (Nat.lt_succ_of_lt (Heap.lt_size z))
    rw [gk b hb]
    exact k b o z
  have J : Inv X pins σ (upd H1 dx (.xd fs)) ⟨G, g, d1, t2, os⟩ := I1.laid (t' := t2) (a := dx) (o := .xd fs) (h' := G) kG hsz ⟨mA, hn.at fun o y => (gk dx hda).trans y, rel⟩
  have hH : H1 (hp.objs.size + 1) = none := I1.hok.fresh (Nat.le_succ _)
  refine ⟨hp.objs.size + 1, _, _, ⟨G, g, d1, t2, os⟩, _, .ref C, some dx, rfl, J, fun b o z => ?_, ge, ha, ⟨rfl, rfl⟩, rfl, rfl, by rw [upd_ne (Ne.symm hda)]; exact hH, rfl, I1.bare, T, q⟩
  by_cases hb : b = hp.objs.size + 1
  · rw [hb, ge] at z
    cases z
  · exact (gk b hb).symm.trans z
end
/-- the shape of an __init__ with no further parameter | with one -/
def Xn0 (P : Program) (K : PySem.W.Frag) (mg : Str → Option Value) (x : Str) (C : Addr) (code : Str) : Prop :=
  mg x = some (.ref C) ∧ ∃ (initId newId B : String) (tl : List Value) (fI cc cda : Addr) (qual : Str) (params : Arguments) (body : List Stmt) (scope : Scope) (msg : Str) (j j2 : Nat) (p0 p1 p2 p3 p4 p5 p6 p7 p8 p9 : Pos),
    XCls P K mg initId newId B tl C fI cc cda qual params body scope [] ∧ body = [supSt msg j p0 p1 p2 p3 p4 p5, codSt code j2 p6 p7 p8 p9] ∧ (∀ L, SupEv (PySem.W.ksEnv qual scope L fI (.ref cda) cc) msg j p0 p1 p2 p3 p4) ∧ PySem.W.findIn K (.ref C) "code" = some none
def Xn1 (P : Program) (K : PySem.W.Frag) (mg : Str → Option Value) (x : Str) (C : Addr) (attr code : Str) : Prop :=
  mg x = some (.ref C) ∧ ∃ (initId newId B : String) (tl : List Value) (fI cc cda : Addr) (qual : Str) (params : Arguments) (body : List Stmt) (scope : Scope) (prm msg : Str) (j j2 : Nat) (p0 p1 p2 p3 p4 p5 p6 p7 p8 p9 q6 q7 q8 q9 : Pos),
    XCls P K mg initId newId B tl C fI cc cda qual params body scope [prm] ∧ body = [supSt msg j p0 p1 p2 p3 p4 p5, codSt code j2 p6 p7 p8 p9, attSt attr prm q6 q7 q8 q9] ∧ (∀ L, SupEv (PySem.W.ksEnv qual scope L fI (.ref cda) cc) msg j p0 p1 p2 p3 p4) ∧
    PySem.W.findIn K (.ref C) "code" = some none ∧ PySem.W.findIn K (.ref C) attr = some none ∧ (prm == ("__debug__" : Str)) = false ∧ attr ≠ "code"
section
variable {X : Cx} {e : Expr} {te : TE} {x code attr : Str} {C : Addr} {p pos : Pos}
theorem pmk_x0 (n : Xn0 X.prog X.K X.mg x C code) (hr : Room 2 X.A) (hg : Gl X x) (hdb : (x == ("__debug__" : Str)) = false := by decide) :
    PMk X (.Call (.Name x p) [] [] pos) (fun _ H Q => ∀ d, H d = none → Q (.ref C) (some d) (upd H d (.xd [("code", .str code)]))) := by
  intro pins s σ H Q I1 q1
  obtain ⟨hm, initId, newId, B, tl, fI, cc, cda, qual, params, body, scope, msg, j, j2, p0, p1, p2, p3, p4, p5, p6, p7, p8, p9, T, hbody, sv, hcode⟩ := n
  obtain ⟨nm, qn, N, bs, bm, sn, sub, ab, col, dd, k0, k1, k2, k3, k5, hC, hbm, hal⟩ := T.cls
  refine wpAny_Call_Name_kw (ld_glob I1 hg hm ?_ hdb)
  refine PySem.W.callWith_K0 I1.kIn T.kC ?_
  show wpAny _ _ (call (.ref C) []) _ _ _
  obtain ⟨hp, g, dr, tk, os⟩ := s
  have kk : ∀ b o, hp.get? b = some o → ((hp.push (PySem.W.kdv_tup [])).push (excO C hp.objs.size)).get? b = some o := fun b o e => Heap.get?_push_of_some _ (Heap.get?_push_of_some _ e)
  have hget : ((hp.push (PySem.W.kdv_tup [])).push (excO C hp.objs.size)).get? (hp.objs.size + 1) = some (excO C hp.objs.size) := by heap_get
  have bk : ∀ b o, X.base.get? b = some o → ((hp.push (PySem.W.kdv_tup [])).push (excO C hp.objs.size)).get? b = some o := fun b o e => kk b o (I1.bk b o e)
  obtain ⟨mb, hB, hb⟩ := I1.mod.blt
  refine wpAny_call (call_own T.xb.fac (fun Y => refsX_contains Y bm hbm) (I1.kIn _ _ hC) (PySem.W.looks_findIn I1.kIn T.iC) (fun self => PySem.W.bind_fn I1.kIn self T.tI) (Nat.zero_le _)
    (init_code0 T hbody sv hcode (hr.make C [] []).depth (I1.kIn.keeps kk) (fun b o z => Nat.ne_of_lt (Nat.lt_succ_of_lt (Heap.lt_size (I1.kIn _ _ z)))) (I1.ok.mod.nolimit.keeps bk) hget (I1.mod.glob.keeps bk) (hB.keeps bk) hb fun h' t' t1 dx tk2 k d1 d2 e m => ?_))
  have hsz : hp.objs.size ≤ dx := by
    have : ((hp.push (PySem.W.kdv_tup [])).push (excO C hp.objs.size)).objs.size = hp.objs.size + 2 := by rw [Heap.size_push, Heap.size_push]
    omega
  refine ⟨rfl, xmk_end (raises_own T.exC T.tyC) I1 hsz d2 (fun b o z => k b o (Nat.ne_of_lt (Nat.lt_succ_of_lt (Heap.lt_size z))) (kk b o z)) e m (fun f => ?_) (q1 dx (I1.hok.fresh hsz))⟩
  rw [lookup_put]
  by_cases hf : f = ("code" : Str)
  · rw [if_pos hf, if_pos hf]
    exact ⟨tk2, rfl⟩
  · rw [if_neg hf, if_neg hf]
    exact True.intro
theorem pmk_x1 (n : Xn1 X.prog X.K X.mg x C attr code) (he : PE X e te) (hr : Room 2 X.A) (hg : Gl X x) (hdb : (x == ("__debug__" : Str)) = false := by decide) (hs : starEach [e] X.env = (false, eval e X.env) :: starEach [] X.env := by rfl) (hpl : (backTo pos (starEach [] X.env)).any (·.1) = false := by rfl) :
    PMk X (.Call (.Name x p) [e] [] pos) (fun σ H Q => te σ H fun v H1 => ∀ d, H1 d = none → Q (.ref C) (some d) (upd H1 d (.xd [(attr, v), ("code", .str code)]))) := by
  intro pins s σ H Q I h
  obtain ⟨hm, initId, newId, B, tl, fI, cc, cda, qual, params, body, scope, prm, msg, j, j2, p0, p1, p2, p3, p4, p5, p6, p7, p8, p9, q6, q7, q8, q9, T, hbody, sv, hcode, hattr, hpd, hac⟩ := n
  obtain ⟨nm, qn, N, bs, bm, sn, sub, ab, col, dd, k0, k1, k2, k3, k5, hC, hbm, hal⟩ := T.cls
  refine wpAny_Call_Name_kw (ld_glob I hg hm ?_ hdb)
  refine PySem.W.callWith_K (h₀ := X.base) I.ok.mod.kin T.kC ?_ hs hpl
  rw [hs]
  refine Calls.spliced_cons (thn (he.run pins s σ H _ I h) fun u s1 ⟨v, H1, I1, r1, q1⟩ => Calls.spliced_nil ⟨I1.kIn, ?_⟩)
  show wpAny _ _ (call (.ref C) [u]) _ _ _
  obtain ⟨hp, g, dr, tk, os⟩ := s1
  have kk : ∀ b o, hp.get? b = some o → ((hp.push (PySem.W.kdv_tup [u])).push (excO C hp.objs.size)).get? b = some o := fun b o e => Heap.get?_push_of_some _ (Heap.get?_push_of_some _ e)
  have hget : ((hp.push (PySem.W.kdv_tup [u])).push (excO C hp.objs.size)).get? (hp.objs.size + 1) = some (excO C hp.objs.size) := by heap_get
  have bk : ∀ b o, X.base.get? b = some o → ((hp.push (PySem.W.kdv_tup [u])).push (excO C hp.objs.size)).get? b = some o := fun b o e => kk b o (I1.bk b o e)
  obtain ⟨mb, hB, hb⟩ := I1.mod.blt
  refine wpAny_call (call_own T.xb.fac (fun Y => refsX_contains Y bm hbm) (I1.kIn _ _ hC) (PySem.W.looks_findIn I1.kIn T.iC) (fun self => PySem.W.bind_fn I1.kIn self T.tI) (show (1 : Nat) ≤ sizeLine by decide)
    (init_code1 T hbody sv hcode hattr hpd (hr.make C [u] []).depth (I1.kIn.keeps kk) (fun b o z => Nat.ne_of_lt (Nat.lt_succ_of_lt (Heap.lt_size (I1.kIn _ _ z)))) (I1.ok.mod.nolimit.keeps bk) hget (I1.mod.glob.keeps bk) (hB.keeps bk) hb fun h' t' t1 dx tk2 k d1 d2 e m => ?_))
  have hsz : hp.objs.size ≤ dx := by
    have : ((hp.push (PySem.W.kdv_tup [u])).push (excO C hp.objs.size)).objs.size = hp.objs.size + 2 := by rw [Heap.size_push, Heap.size_push]
    omega
  refine ⟨rfl, xmk_end (raises_own T.exC T.tyC) I1 hsz d2 (fun b o z => k b o (Nat.ne_of_lt (Nat.lt_succ_of_lt (Heap.lt_size z))) (kk b o z)) e m (fun f => ?_) (q1 dx (I1.hok.fresh hsz))⟩
  rw [lookup_put]
  by_cases hf : f = attr
  · rw [if_pos hf, if_pos hf]
    exact r1
  · rw [if_neg hf, if_neg hf, lookup_put]
    by_cases hf2 : f = ("code" : Str)
    · rw [if_pos hf2, if_pos hf2]
      exact ⟨tk2, rfl⟩
    · rw [if_neg hf2, if_neg hf2]
      exact True.intro
end
end L2
namespace DL
open PySem PySem.Spec PyProof.Rows L2
section
variable {X : Cx} {F0 : Hp} {ρ : DEnv} {M : Mem} {e : Expr} {x code attr : Str} {C : Addr} {p pos pos' : Pos} {xq : XQ} {D : DEnds}
/-- raise x(), raise x(e) -/
theorem ds_raise0 (n : Xn0 X.prog X.K X.mg x C code) (hr : Room 2 X.A) (hg : Gl X x) (tk : XOk X F0 xq) (hc : X.calm = true) (h : xq ⟨C, ["code"], [.str code]⟩ M) (hdb : (x == ("__debug__" : Str)) = false := by decide) :
    DS X F0 (.Raise (some (.Call (.Name x p) [] [] pos)) none pos') ρ M D :=
  PS.wk (ps_raise hc tk (pmk_x0 n hr hg hdb)) fun E σ H ⟨F, om, ol, k⟩ d hd => by
    have hF := om.freeF hd
    exact ⟨upd F d (.xd [("code", .str code)]), M, ⟨C, ["code"], [.str code]⟩, om.new hd, ⟨rfl, d, [.str code], rfl, upd_same, rfl, Reps.cons rep_str Reps.nil⟩, h⟩
theorem ds_raise1 (n : Xn1 X.prog X.K X.mg x C attr code) (hr : Room 2 X.A) (hg : Gl X x) (tk : XOk X F0 xq) (hc : X.calm = true) (h : DE X F0 e ρ M fun d M1 => xq ⟨C, [attr, "code"], [d, .str code]⟩ M1) (hdb : (x == ("__debug__" : Str)) = false := by decide)
    (hs : starEach [e] X.env = (false, eval e X.env) :: starEach [] X.env := by rfl) (hpl : (backTo pos (starEach [] X.env)).any (·.1) = false := by rfl) :
    DS X F0 (.Raise (some (.Call (.Name x p) [e] [] pos)) none pos') ρ M D :=
  PS.wk (ps_raise hc tk (pmk_x1 n (uE (F0 := F0)) hr hg hdb hs hpl)) fun E σ H ⟨F, om, ol, k⟩ => tU.go h om ol fun F1 H1 v d M1 e1 om1 r1 hx a ha => by
    have hF := om1.freeF ha
    exact ⟨upd F1 a (.xd [(attr, v), ("code", .str code)]), M1, ⟨C, [attr, "code"], [d, .str code]⟩, om1.new ha, ⟨rfl, a, [v, .str code], rfl, upd_same, rfl, Reps.cons (r1.mono (Ex.new hF)) (Reps.cons rep_str Reps.nil)⟩, hx⟩
end
end DL
/-! DX5: cells of a running def lent to a callee -/
namespace DL
open PySem PySem.Spec PyProof.Rows L2
abbrev Cells := Addr → Option (Obj × Dat)
def addM (M : Mem) (L : Cells) : Mem := fun b => match L b with
  | some p => some (.cel b p.1 p.2)
  | none => M b
def addH (H : Hp) (L : Cells) : Hp := fun b => match L b with
  | some p => some (CelO b p.1)
  | none => H b
def subH (H : Hp) (L : Cells) : Hp := fun b => match L b with
  | some _ => none
  | none => H b
section
variable {M : Mem} {H : Hp} {L : Cells} {b : Addr} {p : Obj × Dat}
theorem addM_in (h : L b = some p) : addM M L b = some (.cel b p.1 p.2) := by unfold addM; rw [h]
theorem addM_out (h : L b = none) : addM M L b = M b := by unfold addM; rw [h]
theorem addH_in (h : L b = some p) : addH H L b = some (CelO b p.1) := by unfold addH; rw [h]
theorem addH_out (h : L b = none) : addH H L b = H b := by unfold addH; rw [h]
theorem subH_in (h : L b = some p) : subH H L b = none := by unfold subH; rw [h]
theorem subH_out (h : L b = none) : subH H L b = H b := by unfold subH; rw [h]
theorem out_of {q : Addr → Prop} (hq : ∀ c p, L c = some p → ¬ q c) (hb : q b) : L b = none := by
  cases e : L b with
  | none => rfl
  | some p => exact absurd hb (hq b p e)
end
/-- the cells of L stand in h, untracked -/
structure Lent (K : PySem.W.Frag) (F H : Hp) (h : Heap) (L : Cells) : Prop where
  at_ : ∀ c p, L c = some p → h.get? c = some p.1
  val : ∀ c p, L c = some p → ∃ x v, p.1.data = .cell (some x) ∧ RelV v x ∧ Rep K F p.2 v
  free : ∀ c p, L c = some p → H c = none
section
variable {K : PySem.W.Frag} {P : Program} {w : World} {F F0 H H' : Hp} {h h' : Heap} {L : Cells} {M M' : Mem} {fs ex : List Addr}
theorem Lent.out (l : Lent K F H h L) {b : Addr} {u : HO} (e : H b = some u) : L b = none := by
  cases q : L b with
  | none => rfl
  | some p =>
    rw [l.free b p q] at e
    cases e
theorem hok_add (x : HOk P w H h) (l : ∀ c p, L c = some p → h.get? c = some p.1 ∧ H c = none) : HOk P w (addH H L) h := fun b u e => by
  have out : ∀ c o, H c = some o → addH H L c = some o := fun c o q => by
    cases z : L c with
    | none => rw [addH_out z]; exact q
    | some p =>
      rw [(l c p z).2] at q
      cases q
  cases q : L b with
  | some p =>
    rw [addH_in q] at e
    cases e
    exact ⟨(l b p q).1, ⟨_, (l b p q).1⟩, fun _ _ a st => st _ a⟩
  | none =>
    rw [addH_out q] at e
    exact (x b u e).stay (fun _ _ _ r => r) (fun c r => out c _ r) fun c xs r => out c _ r
theorem hok_sub (x : HOk P w H h) (l : ∀ c p, L c = some p → H c = some (CelO c p.1) ∨ H c = none) : HOk P w (subH H L) h := fun b u e => by
  have out : ∀ c o, (∀ φ, o ≠ .ext φ) → H c = some o → subH H L c = some o := fun c o ne q => by
    cases z : L c with
    | none => rw [subH_out z]; exact q
    | some p =>
      rcases l c p z with r | r
      · rw [q] at r
        exact absurd (Option.some.inj r) (ne _)
      · rw [q] at r
        cases r
  cases q : L b with
  | some p =>
    rw [subH_in q] at e
    cases e
  | none =>
    rw [subH_out q] at e
    exact (x b u e).stay (fun _ _ _ r => r) (fun c r => out c _ (fun φ z => by cases z) r) fun c xs r => out c _ (fun φ z => by cases z) r
theorem celO_of (x : HOk P w H h) {c : Addr} {o : Obj} (e : H c = some (CelO c o)) : h.get? c = some o := (x c _ e).1
/-- behind a callee that was lent the cells -/
theorem un_sub (l : Lent K F H h L) (u : Un fs ex (addH H L) H' h h') (x : HOk P w H' h') (c : ∀ c p, L c = some p → H' c = some (CelO c p.1)) : Un fs ex H (subH H' L) h h' := by
  have keepT : ∀ {b : Addr} {o : HO}, H b = some o → addH H L b = some o := fun {b o} e => by rw [addH_out (l.out e)]; exact e
  refine ⟨fun b o e n hb hx => ?_, fun b o e n hb hx => ?_, fun b o e n hx => ?_, fun b o e hx => u.there b o e hx, fun b xs e => ?_, fun b o xs e => ?_, fun b ps e => ?_⟩
  · cases q : L b with
    | none => exact u.keep b o e (by rw [addH_out q]; exact n) hb hx
    | some p =>
      have e1 := l.at_ b p q
      rw [e] at e1
      rw [Option.some.inj e1]
      exact celO_of x (c b p q)
  · cases q : L b with
    | none => exact u.slot b o e (by rw [addH_out q]; exact n) hb hx
    | some p =>
      have e1 := l.at_ b p q
      rw [e] at e1
      refine ⟨o.slots, ?_⟩
      rw [Option.some.inj e1]
      exact celO_of x (c b p q)
  · cases q : L b with
    | none => rw [subH_out q]; exact u.free b o e (by rw [addH_out q]; exact n) hx
    | some p => exact subH_in q
  · rw [subH_out (l.out e)]; exact u.tups b xs (keepT e)
  · rw [subH_out (l.out e)]; exact u.frzs b o xs (keepT e)
  · rw [subH_out (l.out e)]; exact u.tbls b ps (keepT e)
/-- behind a body that took the cells back -/
theorem un_add (c : ∀ c p, L c = some p → H c = some (CelO c p.1)) (x : HOk P w H h) (nf : ∀ c p, L c = some p → c ∉ fs ∧ c ∉ ex) (u : Un fs ex (subH H L) H' h h') : Un fs ex H (addH H' L) h h' ∧ ∀ c p, L c = some p → h'.get? c = some p.1 ∧ H' c = none := by
  have out : ∀ {b : Addr} {o : HO}, (∀ φ, o ≠ .ext φ) → H b = some o → L b = none := fun {b o} ne e => by
    cases q : L b with
    | none => rfl
    | some p =>
      have z := c b p q
      rw [e] at z
      exact absurd (Option.some.inj z) (ne _)
  have outN : ∀ {b : Addr}, H b = none → L b = none := fun {b} e => by
    cases q : L b with
    | none => rfl
    | some p =>
      have z := c b p q
      rw [e] at z
      cases z
  refine ⟨⟨fun b o e n hb hx => u.keep b o e (by rw [subH_out (outN n)]; exact n) hb hx, fun b o e n hb hx => u.slot b o e (by rw [subH_out (outN n)]; exact n) hb hx, fun b o e n hx => ?_, fun b o e hx => u.there b o e hx, fun b xs e => ?_, fun b o xs e => ?_, fun b ps e => ?_⟩, fun b p q => ?_⟩
  · rw [addH_out (outN n)]; exact u.free b o e (by rw [subH_out (outN n)]; exact n) hx
  · have q := out (fun φ z => by cases z) e
    rw [addH_out q]; exact u.tups b xs (by rw [subH_out q]; exact e)
  · have q := out (fun φ z => by cases z) e
    rw [addH_out q]; exact u.frzs b o xs (by rw [subH_out q]; exact e)
  · have q := out (fun φ z => by cases z) e
    rw [addH_out q]; exact u.tbls b ps (by rw [subH_out q]; exact e)
  · have e := celO_of x (c b p q)
    exact ⟨u.keep b p.1 e (subH_in q) (nf b p q).1 (nf b p q).2, u.free b p.1 e (subH_in q) (nf b p q).2⟩
/-- the same for the ground of an exception -/
theorem ub_add {B : Heap} (c : ∀ c p, L c = some p → H c = some (CelO c p.1)) (x : HOk P w H h) (nf : ∀ c p, L c = some p → c ∉ fs) (u : UB fs (subH H L) H' h B h') : UB fs H (addH H' L) h B h' ∧ ∀ c p, L c = some p → B.get? c = some p.1 ∧ H' c = none := by
  have out : ∀ {b : Addr} {o : HO}, (∀ φ, o ≠ .ext φ) → H b = some o → L b = none := fun {b o} ne e => by
    cases q : L b with
    | none => rfl
    | some p =>
      have z := c b p q
      rw [e] at z
      exact absurd (Option.some.inj z) (ne _)
  have outN : ∀ {b : Addr}, H b = none → L b = none := fun {b} e => by
    cases q : L b with
    | none => rfl
    | some p =>
      have z := c b p q
      rw [e] at z
      cases z
  refine ⟨⟨fun b o e n hb => u.keep b o e (by rw [subH_out (outN n)]; exact n) hb, fun b o e hb => u.slot b o e hb, fun b o e n => ?_, fun b o e hb => u.there b o e hb, fun b xs e => ?_, fun b o xs e => ?_, fun b ps e => ?_⟩, fun b p q => ?_⟩
  · rw [addH_out (outN n)]; exact u.free b o e (by rw [subH_out (outN n)]; exact n)
  · have q := out (fun φ z => by cases z) e
    rw [addH_out q]; exact u.tups b xs (by rw [subH_out q]; exact e)
  · have q := out (fun φ z => by cases z) e
    rw [addH_out q]; exact u.frzs b o xs (by rw [subH_out q]; exact e)
  · have q := out (fun φ z => by cases z) e
    rw [addH_out q]; exact u.tbls b ps (by rw [subH_out q]; exact e)
  · have e := celO_of x (c b p q)
    exact ⟨u.keep b p.1 e (subH_in q) (nf b p q), u.free b p.1 e (subH_in q)⟩
theorem OkM.lend (o : OkM K F0 F M H) (l : Lent K F H h L) : OkM K F0 F (addM M L) (addH H L) := by
  refine ⟨o.base, fun a u e => ?_, fun p u e => ?_⟩
  · have e1 := o.sub a u e
    rw [addH_out (l.out e1)]
    exact e1
  · cases q : L p with
    | some z =>
      rw [addM_in q] at e
      cases e
      exact ⟨o.freeF (l.free p z q), _, addH_in q, rfl, l.val p z q⟩
    | none =>
      rw [addM_out q] at e
      obtain ⟨h1, v, h2, h3⟩ := o.mem p u e
      exact ⟨h1, v, by rw [addH_out q]; exact h2, h3⟩
/-- the cells come back; M2: what else is known -/
theorem OkM.back (o : OkM K F0 F M H) {M2 : Mem} (c : ∀ c p, L c = some p → M c = some (.cel c p.1 p.2)) (h : ∀ p u, M2 p = some u → M p = some u ∧ L p = none) : OkM K F0 F M2 (subH H L) := by
  refine ⟨o.base, fun a u e => ?_, fun p u e => ?_⟩
  · cases q : L a with
    | none => rw [subH_out q]; exact o.sub a u e
    | some p =>
      have z := (o.mem a _ (c a p q)).1
      rw [z] at e
      cases e
  · obtain ⟨e1, e2⟩ := h p u e
    obtain ⟨h1, v, h2, h3⟩ := o.mem p u e1
    exact ⟨h1, v, by rw [subH_out e2]; exact h2, h3⟩
theorem OkM.celH (o : OkM K F0 F M H) {c : Addr} {u : Obj} {d : Dat} (e : M c = some (.cel c u d)) : H c = some (CelO c u) ∧ ∃ x v, u.data = .cell (some x) ∧ RelV v x ∧ Rep K F d v := by
  obtain ⟨_, v, h1, h2, h3⟩ := o.mem c _ e
  rw [h2] at h1
  exact ⟨h1, h3⟩
end
/-! ### lending at a call -/
/-- the names whose cells are lent: what the slots tell of them -/
structure LoanX (X : Cx) (ρ : DEnv) (M : Mem) (L : Cells) : Prop where
  cov : ∀ (i : Nat) (y : Str) (c : Addr) (d : Dat), X.N[i]? = some y → ρ[i]? = some (some d) → X.env.cells.lookup y = some c → (X.env.scope.names.lookup y = some .cell) → ∃ o, L c = some (o, d)
  inj : ∀ (x y : Str) (c : Addr), X.env.cells.lookup x = some c → X.env.cells.lookup y = some c → x = y
  has : ∀ (x : Str), X.env.scope.names.lookup x = some .cell → ∃ c, X.env.cells.lookup x = some c
  free : ∀ c p, L c = some p → M c = none
open Classical in
theorem lend_at {X : Cx} {pins : List (Addr × Obj)} {σ : L2.St} {H : Hp} {s : Shared} {F0 F : Hp} {ρ : DEnv} {M : Mem} (I : Inv X pins σ H s) (om : OkM X.K F0 F M H) (ol : OkL X.K F ρ σ) (hN : X.N.Nodup) (hk : ∀ x c, X.env.cells.lookup x = some c → X.env.scope.names.lookup x = some .cell) (hf : ∀ x, X.fn x = true) :
    ∃ L : Cells, LoanX X ρ M L ∧ Lent X.K F H s.heap L ∧ (∀ c p, L c = some p → c ∉ frs X.stack) ∧ (∀ c p, L c = some p → X.base.get? c = none) := by
  let T : Addr → Obj × Dat → Prop := fun c p => ∃ (i : Nat) (y : Str), X.N[i]? = some y ∧ ρ[i]? = some (some p.2) ∧ X.env.cells.lookup y = some c ∧ s.heap.get? c = some p.1 ∧ ∃ x v, p.1.data = .cell (some x) ∧ RelV v x ∧ Rep X.K F p.2 v
  have hT : ∀ c p, (if h : ∃ p, T c p then some h.choose else none) = some p → T c p := fun c p e => by
    by_cases h : ∃ p, T c p
    · rw [dif_pos h] at e
      cases e
      exact h.choose_spec
    · rw [dif_neg h] at e
      cases e
  have cellOf : ∀ c p, T c p → ∃ y, X.env.cells.lookup y = some c := fun c p ⟨_, y, _, _, e, _⟩ => ⟨y, e⟩
  refine ⟨fun c => if h : ∃ p, T c p then some h.choose else none, ⟨fun i y c d hi hd hc hs => ?_, I.ok.inj, fun x hx => I.ok.has x (.inl hx), fun c p e => ?_⟩, ⟨fun c p e => ?_, fun c p e => ?_, fun c p e => ?_⟩, fun c p e => ?_, fun c p e => ?_⟩
  · obtain ⟨v, hv, rv⟩ := ol.loc i d hd
    obtain ⟨m, hn, hl⟩ := I.loc
    obtain ⟨u, ru, lk⟩ := hl i y v hi hv (.inr (.inl hs))
    have hcell : ∃ o, s.heap.get? c = some o ∧ o.data = .cell (some u) := by
      rcases lk with ⟨z, _⟩ | ⟨_, c2, e2, o, e3, e4⟩
      · have z' : X.env.scope.names.lookup y = some .local := z
        rw [hs] at z'
        cases z'
      · rw [hc] at e2
        cases e2
        exact ⟨o, e3, e4⟩
    obtain ⟨o, ho, hdt⟩ := hcell
    have ex : ∃ p, T c p := ⟨(o, d), i, y, hi, hd, hc, ho, u, v, hdt, ru, rv⟩
    refine ⟨ex.choose.1, ?_⟩
    show (if h : ∃ p, T c p then some h.choose else none) = _
    rw [dif_pos ex]
    obtain ⟨i2, y2, g1, g2, g3, _⟩ := ex.choose_spec
    have ey : y2 = y := I.ok.inj y2 y c g3 hc
    rw [ey] at g1
    have ei : i2 = i := L2.nodup_ix hN g1 hi
    rw [ei, hd] at g2
    cases g2
    rfl
  · obtain ⟨y, hy⟩ := cellOf c p (hT c p e)
    exact om.freeM (I.freeC y c hy)
  · obtain ⟨_, _, _, _, _, h1, _⟩ := hT c p e
    exact h1
  · obtain ⟨_, _, _, _, _, _, h1⟩ := hT c p e
    exact h1
  · obtain ⟨y, hy⟩ := cellOf c p (hT c p e)
    exact I.freeC y c hy
  · obtain ⟨y, hy⟩ := cellOf c p (hT c p e)
    intro hm
    rcases List.mem_cons.mp (I.stkSub c hm) with z | z
    · exact I.cne y c hy z
    · obtain ⟨_, o, ho, _⟩ := I.ok.funs.mem z
      exact absurd (Heap.lt_size ho) (Nat.not_lt.mpr (I.ok.cab y c (hf y) hy))
  · obtain ⟨y, hy⟩ := cellOf c p (hT c p e)
    exact Heap.get?_none_of_le (Nat.le_trans I.ok.bsz (I.ok.cab y c (hf y) hy))
section
variable {X : Cx} {F0 : Hp} {ρ : DEnv} {M : Mem} {e : Expr} {x : Str} {k k' : Nat} {f : Addr} {fd : FuncData} {a : Str} {S : DSpec} {p pos : Pos} {q : DK}
/-- f(e), the cells lent: f raises nothing -/
theorem de_lend (C : CalG X.prog X.w X.K X.mg X.base x k f fd [a] S) (hg : Gl X x) (hr : Room k' X.A) (hgd : X.A.guards = some []) (hk : k ≤ k') (hN : X.N.Nodup) (hc : ∀ x c, X.env.cells.lookup x = some c → X.env.scope.names.lookup x = some .cell) (hf : ∀ x, X.fn x = true)
    (h : DE X F0 e ρ M fun d M1 => ∀ L, LoanX X ρ M1 L → ∃ r, S [d] (addM M1 L) (fun d' M' => M' = addM M1 L ∧ d' = r) (fun _ _ => False) ∧ q r M1)
    (hdb : (x == ("__debug__" : Str)) = false := by decide) (he : starEach [e] X.env = (false, eval e X.env) :: starEach [] X.env := by rfl) (hpl : (backTo pos (starEach [] X.env)).any (·.1) = false := by rfl) :
    DE X F0 (.Call (.Name x p) [e] [] pos) ρ M q := by
  refine ⟨fun pins s σ H Q I h0 => ?_⟩
  obtain ⟨F, om, ol, kq⟩ := h0
  refine wpAny_Call_Name_kw (ld_glob I hg C.at_ ?_ hdb)
  refine PySem.W.callWith_K (h₀ := X.base) I.ok.mod.kin C.kp ?_ he hpl
  rw [he]
  refine Calls.spliced_cons (thn ((show PE X e _ from h).run pins s σ H (fun v H1 => ∃ F1 d M1, Ex F F1 ∧ OkM X.K F0 F1 M1 H1 ∧ Rep X.K F1 d v ∧ ∀ L, LoanX X ρ M1 L → ∃ r, S [d] (addM M1 L) (fun d' M' => M' = addM M1 L ∧ d' = r) (fun _ _ => False) ∧ q r M1) I
    ⟨F, om, ol, fun F1 H1 v d M1 e1 o1 r1 h1 => ⟨F1, d, M1, e1, o1, r1, h1⟩⟩) fun u s1 ⟨v, H1, I1, ru, F1, d, M1, e1, om1, r1, h1⟩ => Calls.spliced_nil ⟨I1.kIn, ?_⟩)
  obtain ⟨L, lx, ll, lf, lb⟩ := lend_at I1 om1 (ol.mono e1) hN hc hf
  obtain ⟨r, hS, hq⟩ := h1 L lx
  have e0 := I1.env0
  have env : Env0 X.prog X.w X.K X.mg X.base X.A X.stack s1 (addH H1 L) := ⟨e0.frames, e0.mod, fun b o eb => ⟨(e0.bs b o eb).1, by
      rw [addH_out (out_of (q := fun c => ∃ o, X.base.get? c = some o) (fun c p z ⟨o, w⟩ => by rw [lb c p z] at w; cases w) ⟨o, eb⟩)]
      exact (e0.bs b o eb).2⟩, e0.bsz, e0.funs, fun b hb => by
      rw [addH_out (out_of (q := fun c => c ∈ frs X.stack) (fun c p z w => lf c p z w) hb)]
      exact e0.frf b hb, hok_add e0.hok fun c p z => ⟨ll.at_ c p z, ll.free c p z⟩, e0.bare⟩
  show wpAny _ _ (call (.ref f) [u]) _ _ _
  refine wpAny_call (codeAny_mono (C.ok.go X.A X.stack s1 (addH H1 L) ⟨[u], []⟩ [u] [v] (fun v' H' => (∀ c p, L c = some p → H' c = some (CelO c p.1)) ∧ Q v' (subH H' L)) (fun _ _ _ => False) hgd (hr.mono hk) env (C.pos s1 [u] rfl) (.cons ru .nil)
    ⟨F1, [d], addM M1 L, _, _, (om1.lend ll).entry, Reps.cons r1 Reps.nil, hS, fun F' H' v' d' M' ex o' r' ⟨eM, er⟩ => ?_, fun _ _ _ _ _ _ _ _ _ z => z.elim⟩) fun res s2 hres => ?_)
  · subst eM
    subst er
    have cel : ∀ c p, L c = some p → addM M1 L c = some (.cel c p.1 p.2) := fun c p z => addM_in z
    refine ⟨fun c p z => (o'.celH (cel c p z)).1, ?_⟩
    have ob := o'.back (M2 := M1) cel fun p u hp => by
      have z : L p = none := out_of (q := fun c => M1 c = some u) (fun c p z w => by rw [lx.free c p z] at w; cases w) hp
      exact ⟨by rw [addM_out z]; exact hp, z⟩
    exact kq F' _ v' d' M1 (e1.trans ex) ⟨om1.base.trans ex, ob.sub, ob.mem⟩ r' hq
  · cases res with
    | error ee =>
      obtain ⟨_, _, _, _, _, _, _, _, _, _, _, _, z⟩ := hres
      exact z.elim
    | ok fl =>
      cases fl with
      | ret u2 =>
        obtain ⟨v2, H2, os, bare, un, hok, r2, c2, q2⟩ := hres
        exact I1.after ⟨v2, subH H2 L, os, bare, un_sub ll un hok c2, hok_sub hok fun c p z => .inl (c2 c p z), r2, q2⟩
      | next => exact False.elim hres
      | brk => exact False.elim hres
      | cont => exact False.elim hres
end
end DL
/-! DX6: a lambda's body runs -/
namespace DL
open PySem PySem.Spec PyProof.Rows L2
/-- the context of a lambda's body -/
def lamZ (P : Program) (w : World) (K : PySem.W.Frag) (mg : Str → Option Value) (base : Heap) (N : List Str) (q : Str) (sc : Scope) (f c : Addr) (cl : List (Str × Addr)) (A : Around) (outer : List Env) (s : Shared) (H : Hp) (E : XK) : Cx where
  prog := P
  w := w
  K := K
  mg := mg
  base := base
  A := A.deeper (PySem.W.envX q sc s.heap.objs.size f (.ref c) cl)
  N := N
  s_0 := s
  H_0 := H
  env := PySem.W.envX q sc s.heap.objs.size f (.ref c) cl
  outer := outer
  stack := PySem.W.envX q sc s.heap.objs.size f (.ref c) cl :: outer
  ex := []
  fn := fun _ => false
  calm := true
  pn := []
  xe := fun e s' => wpAny (model P w) (A.deeper (PySem.W.envX q sc s.heap.objs.size f (.ref c) cl)) (leaving (PySem.W.envX q sc s.heap.objs.size f (.ref c) cl) e) (fun _ s'' => L2.CX P w outer H s E e s'') (fun e' s'' => L2.CX P w outer H s E e' s'') s'
/-- a lambda called in the memory M -/
def LamRun (P : Program) (w : World) (K : PySem.W.Frag) (mg : Str → Option Value) (base : Heap) (k : Nat) (cl : List (Str × Addr)) (q : Str) (pa : Arguments) (b : Expr) (sc : Scope) (M : Mem) (qd : DK) (x : XQ) : Prop :=
  ∀ (A : Around) (outer : List Env) (s : Shared) (H F : Hp) (f c : Addr) (dv : Value) (Q : VK) (E : XK), A.guards = some [] → Room k A → Env0 P w K mg base A outer s H → OkM K F F M H → F f = some (LamO f cl q pa b sc c dv) → F c = some (LamX.CodeO c q) → DflO F pa.args.length dv →
    kV K F F qd Q → kX K F F x E → codeAny (model P w) A (.call (.ref f) ⟨[], []⟩) (CR (L2.CX P w) outer P w H s Q E) s
/-- the lambda's names -/
structure LamSc (sc : Scope) (ps : List Str) : Prop where
  kind : sc.kind = .function
  co : sc.isCoroutine = false
  gen : sc.isGenerator = false
  own : ∀ y ∈ sc.names, y.2 ≠ .cell
  fst : ∀ y ∈ sc.names, y.2 = .free → sc.names.lookup y.1 = some .free
  par : ∀ y ∈ ps, sc.names.lookup y = some .local
theorem st_exists : ∀ {ρ : DEnv} {φ : Nat → Dat → V → Prop}, (∀ (i : Nat) (d : Dat), ρ[i]? = some (some d) → ∃ v, φ i d v) → ∃ σ : L2.St, σ.length = ρ.length ∧ (∀ (i : Nat) (d : Dat), ρ[i]? = some (some d) → ∃ v, σ[i]? = some (some v) ∧ φ i d v) ∧ ∀ (i : Nat) (v : V), σ[i]? = some (some v) → ∃ d, ρ[i]? = some (some d) ∧ φ i d v
  | [], φ, h => ⟨[], rfl, fun i d e => by simp at e, fun i v e => by simp at e⟩
  | o :: ρ, φ, h => by
    obtain ⟨σ, h1, h2, h3⟩ := st_exists (ρ := ρ) (φ := fun i => φ (i + 1)) fun i d e => h (i + 1) d (by rw [List.getElem?_cons_succ]; exact e)
    cases o with
    | none =>
      refine ⟨none :: σ, by rw [List.length_cons, List.length_cons, h1], fun i d e => ?_, fun i v e => ?_⟩
      · cases i with
        | zero => cases e
        | succ i => rw [List.getElem?_cons_succ] at e ⊢; exact h2 i d e
      · cases i with
        | zero => cases e
        | succ i => rw [List.getElem?_cons_succ] at e ⊢; exact h3 i v e
    | some d0 =>
      obtain ⟨v0, hv⟩ := h 0 d0 rfl
      refine ⟨some v0 :: σ, by rw [List.length_cons, List.length_cons, h1], fun i d e => ?_, fun i v e => ?_⟩
      · cases i with
        | zero =>
          cases e
          exact ⟨v0, rfl, hv⟩
        | succ i => rw [List.getElem?_cons_succ] at e ⊢; exact h2 i d e
      · cases i with
        | zero =>
          cases e
          exact ⟨d0, rfl, hv⟩
        | succ i => rw [List.getElem?_cons_succ] at e ⊢; exact h3 i v e
section
variable {P : Program} {w : World} {K : PySem.W.Frag} {mg : Str → Option Value} {base : Heap} {k : Nat} {cl : List (Str × Addr)} {q : Str} {pa : Arguments} {b : Expr} {sc : Scope} {N ps : List Str} {ρ : DEnv} {M : Mem} {L : Cells} {qd : DK} {x : XQ}
theorem lamRun_of (S : LamSc sc ps) (fr : ∀ y, sc.names.lookup y = some .free → ∃ c, cl.lookup y = some c) (inj : ∀ (x y : Str) (c : Addr), cl.lookup x = some c → cl.lookup y = some c → x = y) (clF : ∀ (y : Str) (c : Addr), cl.lookup y = some c → sc.names.lookup y = some .free)
    (cel : ∀ (y : Str) (c : Addr), cl.lookup y = some c → ∃ p, L c = some p) (hl : ρ.length = N.length) (val : ∀ (i : Nat) (d : Dat) (y : Str), ρ[i]? = some (some d) → N[i]? = some y → ∃ c o, cl.lookup y = some c ∧ L c = some (o, d)) (hM : ∀ c p, L c = some p → M c = none)
    (bind0 : pa.args.length = 0 → ∀ pm cdv ct, bindArgs (lamFn cl q pa b sc pm cdv ct .none) ⟨[], []⟩ = pure [])
    (bind1 : pa.args.length ≠ 0 → ∀ (T : Addr) (pm cdv ct : Value) (its : List Value), its.length = pa.args.length → ∃ k, bindArgs (lamFn cl q pa b sc pm cdv ct (.ref T)) ⟨[], []⟩ = seqItems? (.ref T) >>= k ∧ k (some its.toArray) = pure (ps.zip its))
    (walk : ∀ (A : Around) (outer : List Env) (s : Shared) (H : Hp) (E : XK) (F0 : Hp) (f c : Addr), Room k (A.deeper (PySem.W.envX q sc s.heap.objs.size f (.ref c) cl)) → (A.deeper (PySem.W.envX q sc s.heap.objs.size f (.ref c) cl)).guards = some [] → XOk (lamZ P w K mg base N q sc f c cl A outer s H E) F0 (fun e M' => x e (addM M' L)) →
      DE (lamZ P w K mg base N q sc f c cl A outer s H E) F0 b ρ M fun d M' => qd d (addM M' L)) :
    LamRun P w K mg base (k + 1) cl q pa b sc (addM M L) qd x := by
  intro A outer s H F f c dv Q E hgd hr e0 om hF hC hD kq kx
  have cH : ∀ c p, L c = some p → H c = some (CelO c p.1) := fun c p e => (om.celH (addM_in e)).1
  have cG : ∀ c p, L c = some p → s.heap.get? c = some p.1 := fun c p e => celO_of e0.hok (cH c p e)
  have cV : ∀ c p, L c = some p → ∃ x v, p.1.data = .cell (some x) ∧ RelV v x ∧ Rep K F p.2 v := fun c p e => (om.celH (addM_in e)).2
  have nfr1 : ∀ c p, L c = some p → c ∉ frs outer := fun c p e z => by
    have h1 := e0.frf c z
    rw [cH c p e] at h1
    cases h1
  have nfr : ∀ c p, L c = some p → c ∉ frs outer ∧ c ∉ ([] : List Addr) := fun c p e => ⟨nfr1 c p e, by simp⟩
  have omB : OkM K F F M (subH H L) := om.back (M2 := M) (fun c p e => addM_in e) fun p u hp => by
    have z : L p = none := out_of (q := fun c => M c = some u) (fun c p z w => by rw [hM c p z] at w; cases w) hp
    exact ⟨by rw [addM_out z]; exact hp, z⟩
  obtain ⟨⟨pm, ct, of⟩, _, _⟩ := e0.hok f _ (om.sub _ _ hF)
  obtain ⟨⟨oc, vsC, tC, hoc, hdc, hvc⟩, _, _⟩ := e0.hok c _ (om.sub _ _ hC)
  have subN : ∀ b, H b = none → subH H L b = none := fun b e => by
    cases z : L b with
    | none => rw [subH_out z]; exact e
    | some p => exact subH_in z
  have hokB : HOk P w (subH H L) s.heap := hok_sub e0.hok fun c p e => .inl (cH c p e)
  -- the slots
  obtain ⟨σ, hσl, hσ1, hσ2⟩ := st_exists (ρ := ρ) (φ := fun i d v => Rep K F d v ∧ ∀ y, N[i]? = some y → ∃ c o x, cl.lookup y = some c ∧ s.heap.get? c = some o ∧ o.data = .cell (some x) ∧ RelV v x) fun i d e => by
    cases hN : N[i]? with
    | none =>
      have h1 : i < ρ.length := (List.getElem?_eq_some_iff.mp e).1
      have h2 : N.length ≤ i := List.getElem?_eq_none_iff.mp hN
      omega
    | some y =>
      obtain ⟨c1, o, e1, e2⟩ := val i d y e hN
      obtain ⟨x1, v, e3, e4, e5⟩ := cV c1 (o, d) e2
      exact ⟨v, e5, fun y' ey => by
        cases ey
        exact ⟨c1, o, x1, e1, cG c1 _ e2, e3, e4⟩⟩
  have nol : s.heap.NoLimit := e0.mod.nolimit.keeps fun b o e => (e0.bs b o e).1
  have main : ∀ its : List Value, ∀ h₁ : Heap, h₁.Ns s.heap.objs.size (fun y => (ps.zip its).reverse.lookup y) → (∀ b o, s.heap.get? b = some o → h₁.get? b = some o) → ∀ tk,
      codeAny (model P w) A (.expr b (PySem.W.envX q sc s.heap.objs.size f (.ref c) cl)) (CR (L2.CX P w) outer P w H s Q E) { s with heap := h₁, toks := tk } := by
    intro its h₁ hns kp tk
    have J : Inv (lamZ P w K mg base N q sc f c cl A outer s (subH H L) (wX K F fun e M' => x e (addM M' L))) [] σ (subH H L) { s with heap := h₁, toks := tk } := by
      have noA : ∀ b : Addr, b ∉ ([] : List Addr) := fun b z => absurd z (by simp)
      refine ⟨⟨e0.mod, S.kind, rfl, rfl, Nat.le_refl _, inj, fun y hy => ?_, fun y c z _ => ?_, fun _ => hr.hd, Around.frames_deeper e0.frames, .inr ⟨rfl, rfl⟩, fun b z => absurd z (noA b), fun b o e => ⟨(e0.bs b o e).1, subN b (e0.bs b o e).2⟩, e0.bsz, fun b _ _ => noA b, fun b z => absurd z (noA b), e0.funs, fun b hb => subN b (e0.frf b hb)⟩,
        rfl, e0.bare, Un.kept kp, ⟨_, hns, fun i y v e1 e2 e3 => ?_⟩, fun y c1 e => ?_, hokB.fresh (Nat.le_refl _), fun y c1 e => ?_, fun q hq => absurd (show q ∈ ([] : List (Addr × Obj)) ++ [] from hq) (by simp), hokB.kept kp, hσl.trans hl⟩
      · have hy : sc.names.lookup y = some .cell ∨ sc.names.lookup y = some .free := hy
        rcases hy with hy | hy
        · exact absurd rfl (S.own _ (PySem.mem_of_lookup hy))
        · exact fr y hy
      · have z : false = true := z
        cases z
      · obtain ⟨d, _, _, e4⟩ := hσ2 i v e2
        obtain ⟨c1, o, x1, e5, e6, e7, e8⟩ := e4 y e1
        exact ⟨x1, e8, .inr ⟨.inr (clF y c1 e5), c1, e5, o, kp _ _ e6, e7⟩⟩
      · obtain ⟨p, hp⟩ := cel y c1 e
        obtain ⟨x1, v, e3, _⟩ := cV c1 p hp
        exact ⟨some x1, p.1, kp _ _ (cG c1 p hp), e3⟩
      · obtain ⟨p, hp⟩ := cel y c1 e
        exact subH_in hp
    have tk' : XOk (lamZ P w K mg base N q sc f c cl A outer s (subH H L) (wX K F fun e M' => x e (addM M' L))) F (fun e M' => x e (addM M' L)) := takes_of rfl rfl rfl rfl
    have W := walk A outer s (subH H L) (wX K F fun e M' => x e (addM M' L)) F f c (hr.deeper _) hgd tk'
    refine PySem.W.kla_codeExpr (wpAny_mono ((show PE _ b _ from W).run [] _ σ (subH H L) (fun v H' => ∃ F' d M', Ex F F' ∧ OkM K F F' M' H' ∧ Rep K F' d v ∧ qd d (addM M' L)) J ⟨F, omB, ⟨hσl.symm, fun i d e => ?_⟩, fun F' H' v d M' e1 o1 r1 h1 => ⟨F', d, M', e1, o1, r1, h1⟩⟩) (fun u s' hq => ?_) fun e' s' hq => ?_)
    · obtain ⟨v, h1, h2, _⟩ := hσ1 i d e
      exact ⟨v, h1, h2⟩
    · obtain ⟨v, H', J', rv, F', d, M', ex, o', r', hq'⟩ := hq
      obtain ⟨un, hc⟩ := un_add cH e0.hok nfr J'.base
      have ll : Lent K F' H' s'.heap L := ⟨fun c p e => (hc c p e).1, fun c p e => by
        obtain ⟨x1, v1, e3, e4, e5⟩ := cV c p e
        exact ⟨x1, v1, e3, e4, e5.mono ex⟩, fun c p e => (hc c p e).2⟩
      have hx : CE outer P w H s Q u s' := ⟨v, addH H' L, J'.os, J'.bare, un, hok_add J'.hok hc, rv, kq F' _ v d _ ex (o'.lend ll) r' hq'⟩
      exact hx
    · have hq2 : wpAny (model P w) (A.deeper (PySem.W.envX q sc s.heap.objs.size f (.ref c) cl)) (leaving (PySem.W.envX q sc s.heap.objs.size f (.ref c) cl) e') (fun _ s'' => L2.CX P w outer (subH H L) s (wX K F fun e M' => x e (addM M' L)) e' s'') (fun e'' s'' => L2.CX P w outer (subH H L) s (wX K F fun e M' => x e (addM M' L)) e'' s'') s' := hq
      have cv : ∀ u s'', L2.CX P w outer (subH H L) s (wX K F fun e M' => x e (addM M' L)) u s'' → L2.CX P w outer H s E u s'' := by
        intro u s'' h
        obtain ⟨a, B, H', cls, d, rfl, fl, hok, ub, na, os, ag, F', M', ee, o', rx, hx⟩ := h
        obtain ⟨ub2, hc⟩ := ub_add cH e0.hok (fun c p e => (nfr c p e).1) ub
        have ll : Lent K F' H' B L := ⟨fun c p e => (hc c p e).1, fun c p e => by
          obtain ⟨x1, v1, e3, e4, e5⟩ := cV c p e
          exact ⟨x1, v1, e3, e4, e5.mono o'.base⟩, fun c p e => (hc c p e).2⟩
        have na2 : L a = none := out_of (q := fun c => B.get? c = none) (fun c p z w => by rw [(hc c p z).1] at w; cases w) fl.2.1
        exact ⟨a, B, addH H' L, cls, d, rfl, fl, hok_add hok hc, ub2, by rw [addH_out na2]; exact na, os, ag, kx F' _ _ ee cls d o'.base (o'.lend ll) rx hx⟩
      exact wpAny_mono hq2 (fun _ s'' h => cv _ s'' h) fun e'' s'' h => cv _ s'' h
  have nsb : ∀ {h₁ : Heap} {t : String}, Heap.SameBut s.heap.objs.size (s.heap.push { cls := .type t, data := .dict #[] }) h₁ → (∀ b o, s.heap.get? b = some o → h₁.get? b = some o) := fun {h₁ t} hsb b o e => hsb.extBut b o (Nat.ne_of_lt (Heap.lt_size e)) (Heap.get?_push_of_some _ e)
  refine PySem.W.kla_callFunE hr.depth of rfl S.co S.gen rfl ⟨c, oc, vsC, tC, rfl, hoc, hdc, hvc⟩ ?_
  rcases hD with ⟨h0, rfl⟩ | ⟨h0, T, xs, rfl, hxl, hT⟩
  · rw [bind0 h0]
    exact wpAny_pure (wpAny_newFunctionEnv (fun y hy => S.own y hy) (fun y hy => absurd hy (by simp)) (fun h₁ hns hsb => ⟨nol.fresh _ hsb, main [] h₁ (by rw [List.zip_nil_right]; exact hns) (nsb hsb) _⟩) S.kind)
  · obtain ⟨_, its, rv, oT, hoT, _, n, hdT⟩ := e0.hok T _ (om.sub _ _ hT)
    have il : its.length = pa.args.length := by rw [← rv.length, hxl]
    obtain ⟨k', e1, e2⟩ := bind1 h0 T pm (.ref c) ct its il
    rw [e1]
    refine wpAny_bind (wpAny_seqItems hoT hdT ?_)
    rw [e2]
    refine wpAny_pure (wpAny_newFunctionEnv (fun y hy => S.own y hy) (fun y hy => S.par y.1 (List.of_mem_zip hy).1) (fun h₁ hns hsb => ⟨nol.fresh _ hsb, main its h₁ hns (nsb hsb) _⟩) S.kind)
end
end DL
/-! DX7: lambdas made in a def; their calls -/
namespace DL
open PySem PySem.Spec PyProof.Rows L2
/-! ### the captured slots -/
def maskD (ns : List (Str × NameKind)) : List Str → DEnv → DEnv
  | y :: N, d :: ρ => (match ns.lookup y with
    | some .free => d
    | _ => none) :: maskD ns N ρ
  | _, _ => []
theorem maskD_get {ns : List (Str × NameKind)} : ∀ {N : List Str} {ρ : DEnv} {i : Nat} {d : Dat}, (maskD ns N ρ)[i]? = some (some d) → ∃ y, N[i]? = some y ∧ ns.lookup y = some .free ∧ ρ[i]? = some (some d)
  | [], ρ, i, d, e => by
    unfold maskD at e
    simp at e
  | _ :: _, [], i, d, e => by
    unfold maskD at e
    simp at e
  | y :: N, o :: ρ, 0, d, e => by
    unfold maskD at e
    rw [List.getElem?_cons_zero] at e
    cases h : ns.lookup y with
    | none =>
      rw [h] at e
      cases e
    | some k =>
      rw [h] at e
      cases k with
      | free =>
        cases e
        exact ⟨y, rfl, h, rfl⟩
      | _ => cases e
  | y :: N, o :: ρ, i + 1, d, e => by
    have e' : (maskD ns N ρ)[i]? = some (some d) := by
      unfold maskD at e
      rw [List.getElem?_cons_succ] at e
      exact e
    obtain ⟨z, h1, h2, h3⟩ := maskD_get (N := N) (ρ := ρ) (i := i) (d := d) e'
    exact ⟨z, by rw [List.getElem?_cons_succ]; exact h1, h2, by rw [List.getElem?_cons_succ]; exact h3⟩
theorem maskD_len {ns : List (Str × NameKind)} : ∀ {N : List Str} {ρ : DEnv}, ρ.length = N.length → (maskD ns N ρ).length = N.length
  | [], [], _ => rfl
  | [], _ :: _, e => by cases e
  | _ :: _, [], e => by cases e
  | y :: N, o :: ρ, e => by
    unfold maskD
    rw [List.length_cons, List.length_cons, maskD_len (by simpa using e)]
def hasSlot : List Str → DEnv → Str → Bool
  | z :: N, d :: ρ, y => if z = y then d.isSome else hasSlot N ρ y
  | _, _, _ => false
theorem hasSlot_ok : ∀ {N : List Str} {ρ : DEnv} {y : Str}, hasSlot N ρ y = true → ∃ (i : Nat) (d : Dat), N[i]? = some y ∧ ρ[i]? = some (some d)
  | [], _, _, e => by
    unfold hasSlot at e
    cases e
  | _ :: _, [], _, e => by
    unfold hasSlot at e
    cases e
  | z :: N, d :: ρ, y, e => by
    unfold hasSlot at e
    by_cases h : z = y
    · rw [if_pos h] at e
      obtain ⟨d', rfl⟩ := Option.isSome_iff_exists.mp e
      exact ⟨0, d', by rw [h]; rfl, rfl⟩
    · rw [if_neg h] at e
      obtain ⟨i, d', h1, h2⟩ := hasSlot_ok (N := N) (ρ := ρ) (y := y) e
      exact ⟨i + 1, d', by rw [List.getElem?_cons_succ]; exact h1, by rw [List.getElem?_cons_succ]; exact h2⟩
def capB (ns : List (Str × NameKind)) (N : List Str) (ρ : DEnv) : Bool := ns.all fun y => match y.2 with
  | .free => hasSlot N ρ y.1
  | _ => true
def lamScB (sc : Scope) (ps : List Str) : Bool :=
  decide (sc.kind = .function) && !sc.isCoroutine && !sc.isGenerator && (sc.names.all fun y => !decide (y.2 = .cell) && (!decide (y.2 = .free) || decide (sc.names.lookup y.1 = some .free))) && ps.all fun y => decide (sc.names.lookup y = some .local)
theorem lamSc_by {sc : Scope} {ps : List Str} (h : lamScB sc ps = true) : LamSc sc ps := by
  unfold lamScB at h
  simp only [Bool.and_eq_true, Bool.or_eq_true, Bool.not_eq_true', decide_eq_true_eq, decide_eq_false_iff_not, List.all_eq_true] at h
  obtain ⟨⟨⟨⟨h1, h2⟩, h3⟩, h4⟩, h5⟩ := h
  exact ⟨h1, h2, h3, fun y hy => (h4 y hy).1, fun y hy e => (h4 y hy).2.elim (fun z => absurd e z) id, h5⟩
/-- the lambda's free names are cells of the maker -/
def outB (ns sc : List (Str × NameKind)) : Bool := sc.all fun y => !decide (y.2 = .free) || decide (ns.lookup y.1 = some .cell)
theorem outB_ok {ns sc : List (Str × NameKind)} (h : outB ns sc = true) : ∀ y ∈ sc, y.2 = .free → ns.lookup y.1 = some .cell := fun y hy e => by
  unfold outB at h
  simp only [Bool.or_eq_true, Bool.not_eq_true', decide_eq_true_eq, decide_eq_false_iff_not, List.all_eq_true] at h
  exact (h y hy).elim (fun z => absurd e z) id
/-! ### a lambda of a def, in the memory with its cells lent -/
section
variable {X : Cx} {ρ : DEnv} {M : Mem} {L : Cells} {sc : Scope} {pa : Arguments} {b : Expr} {ps : List Str} {k : Nat} {qd : DK} {x : XQ}
abbrev lamOf (X : Cx) (pa : Arguments) (b : Expr) (sc : Scope) : Dat := .lam (cloFrom X.env.cells sc.names []) (X.env.qual ++ "<lambda>") pa b sc
theorem lamR_of (lx : LoanX X ρ M L) (S : lamScB sc ps = true) (O : outB X.env.scope.names sc.names = true) (hc : capB sc.names X.N ρ = true) (hl : ρ.length = X.N.length)
    (bind0 : pa.args.length = 0 → ∀ q cl pm cdv ct, bindArgs (lamFn cl q pa b sc pm cdv ct .none) ⟨[], []⟩ = pure [])
    (bind1 : pa.args.length ≠ 0 → ∀ q cl (T : Addr) (pm cdv ct : Value) (its : List Value), its.length = pa.args.length → ∃ k, bindArgs (lamFn cl q pa b sc pm cdv ct (.ref T)) ⟨[], []⟩ = seqItems? (.ref T) >>= k ∧ k (some its.toArray) = pure (ps.zip its))
    (walk : ∀ (A : Around) (outer : List Env) (s : Shared) (H : Hp) (E : XK) (F0 : Hp) (f c : Addr) (Z : Cx), Z = lamZ X.prog X.w X.K X.mg X.base X.N (X.env.qual ++ "<lambda>") sc f c (cloFrom X.env.cells sc.names []) A outer s H E →
      Room k (lamZ X.prog X.w X.K X.mg X.base X.N (X.env.qual ++ "<lambda>") sc f c (cloFrom X.env.cells sc.names []) A outer s H E).A → (lamZ X.prog X.w X.K X.mg X.base X.N (X.env.qual ++ "<lambda>") sc f c (cloFrom X.env.cells sc.names []) A outer s H E).A.guards = some [] →
      XOk (lamZ X.prog X.w X.K X.mg X.base X.N (X.env.qual ++ "<lambda>") sc f c (cloFrom X.env.cells sc.names []) A outer s H E) F0 (fun e M' => x e (addM M' L)) →
      DE (lamZ X.prog X.w X.K X.mg X.base X.N (X.env.qual ++ "<lambda>") sc f c (cloFrom X.env.cells sc.names []) A outer s H E) F0 b (maskD sc.names X.N ρ) M fun d M' => qd d (addM M' L)) :
    LamRun X.prog X.w X.K X.mg X.base (k + 1) (cloFrom X.env.cells sc.names []) (X.env.qual ++ "<lambda>") pa b sc (addM M L) qd x := by
  have S' := lamSc_by S
  have O' := outB_ok O
  have hfree : ∀ y ∈ sc.names, y.2 = .free → ∃ c, X.env.cells.lookup y.1 = some c := fun y hy e => lx.has y.1 (O' y hy e)
  have inN : ∀ {y : Str} {c : Addr}, (cloFrom X.env.cells sc.names []).lookup y = some c → (y, NameKind.free) ∈ sc.names ∧ X.env.cells.lookup y = some c := fun {y c} e => by
    rcases cloFrom_mem (PySem.mem_of_lookup e) with hm | ⟨h1, h2⟩
    · cases hm
    · obtain ⟨c1, hc⟩ := hfree _ h1 rfl
      have hc : X.env.cells.lookup y = some c1 := hc
      have e2 : c = c1 := by
        rw [h2, hc] <;> rfl
      rw [e2]
      exact ⟨h1, hc⟩
  have look : ∀ {y : Str}, sc.names.lookup y = some .free → ∃ c, (cloFrom X.env.cells sc.names []).lookup y = some c := fun {y} hl => by
    have hy : (y, NameKind.free) ∈ sc.names := PySem.mem_of_lookup hl
    exact mem_lookup (cloFrom_has (cells := X.env.cells) (acc := []) hy)
  have at_ : ∀ {y : Str} {c : Addr}, (cloFrom X.env.cells sc.names []).lookup y = some c → ∃ o d, (∃ i : Nat, X.N[i]? = some y ∧ ρ[i]? = some (some d)) ∧ L c = some (o, d) := fun {y c} e => by
    obtain ⟨h1, h2⟩ := inN e
    unfold capB at hc
    have h3 := List.all_eq_true.mp hc _ h1
    obtain ⟨i, d, h4, h5⟩ := hasSlot_ok (show hasSlot X.N ρ y = true from h3)
    obtain ⟨o, h6⟩ := lx.cov i y c d h4 h5 h2 (O' _ h1 rfl)
    exact ⟨o, d, ⟨i, h4, h5⟩, h6⟩
  refine lamRun_of (N := X.N) (ρ := maskD sc.names X.N ρ) S' (fun y e => look e) (fun y z c e1 e2 => lx.inj y z c (inN e1).2 (inN e2).2) (fun y c e => S'.fst _ (inN e).1 rfl) (fun y c e => ?_) (maskD_len hl) (fun i d y e1 e2 => ?_) lx.free (fun h => bind0 h _ _) (fun h => bind1 h _ _) fun A outer s H E F0 f c hr hg tk => walk A outer s H E F0 f c _ rfl hr hg tk
  · obtain ⟨o, d, _, h⟩ := at_ e
    exact ⟨_, h⟩
  · obtain ⟨z, h1, h2, h3⟩ := maskD_get e1
    rw [e2] at h1
    cases h1
    obtain ⟨c, hcl⟩ := look h2
    obtain ⟨h4, h5⟩ := inN hcl
    obtain ⟨o, h6⟩ := lx.cov i y c d e2 h3 h5 (O' _ h4 rfl)
    exact ⟨c, o, hcl, h6⟩
end
/-! ### its call -/
section
variable {X : Cx} {F0 : Hp} {ρ : DEnv} {M : Mem} {k k' i : Nat} {y : Str} {cl : List (Str × Addr)} {q : Str} {pa : Arguments} {b : Expr} {sc : Scope} {qd : DK} {x : XQ} {p pos : Pos}
theorem de_lamcall (L : LamRun X.prog X.w X.K X.mg X.base k cl q pa b sc M qd x) (hN : X.N[i]? = some y) (hv : Vis X.env.scope y) (hi : ρ[i]? = some (some (.lam cl q pa b sc))) (hr : Room k' X.A) (hgd : X.A.guards = some []) (hk : k ≤ k') (tk : XOk X F0 x)
    (hd : (y == ("__debug__" : Str)) = false := by decide) (hcd : (y == ("__classdict__" : Str)) = false := by decide) : DE X F0 (.Call (.Name y p) [] [] pos) ρ M qd := by
  refine ⟨fun pins s σ H Q I h0 => ?_⟩
  obtain ⟨F, om, ol, kq⟩ := h0
  obtain ⟨v, hσ, rv⟩ := ol.loc i _ hi
  obtain ⟨f, c, dv, rfl, hF, hC, hD⟩ := rv
  refine wpAny_Call_Name_kw (thn ((pe_var (pos := p) (i := i) hN hv hd hcd).run pins s σ H (fun v H1 => v = .ref f ∧ H1 = H) I ⟨.ref f, hσ, rfl, rfl⟩) fun u s1 ⟨v, H1, I1, r1, q1⟩ => ?_)
  obtain ⟨ev, eH⟩ := q1
  subst ev
  rw [eH] at I1
  obtain rfl : u = Value.ref f := r1
  obtain ⟨⟨pm, ct, of⟩, _, _⟩ := I1.hok f _ (om.sub _ _ hF)
  refine PySem.W.callWith_F0 ⟨_, _, _, _, of⟩ ?_
  refine wpAny_call (codeAny_mono (L X.A X.stack s1 H F f c dv Q (wX X.K F0 x) hgd (hr.mono hk) I1.env0 om.entry hF hC hD (kq.entry om) (kX.entry om)) fun r s' hq => ?_)
  cases r with
  | error e => exact passes_call tk (fun _ _ _ _ z => z) pins σ H s1 e s' I1 hq
  | ok fl =>
    cases fl with
    | ret u => exact I1.after hq
    | next => exact False.elim hq
    | brk => exact False.elim hq
    | cont => exact False.elim hq
end
/-! ### its making -/
section
variable {X : Cx} {pins : List (Addr × Obj)} {σ : L2.St} {H : Hp} {s : Shared} {F0 F : Hp} {M : Mem} {pa : Arguments} {b : Expr} {sc : Scope} {pos : Pos} {E : Value → Shared → Prop} {Q : Value → Shared → Prop} {c P : Addr}
theorem lam_tail {dv : Value} (I : Inv X pins σ H s) (om : OkM X.K F0 F M H) (TB : LamX.TabB X.base X.mg c P) (hcode : X.env.code = .ref c) (hP : M P = some (.tbl (X.env.qual ++ "<lambda>"))) (hfree : ∀ y ∈ sc.names, y.2 = .free → ∃ c, X.env.cells.lookup y.1 = some c) (hD : DflO F pa.args.length dv)
    (h : ∀ (f : Addr) (F1 H1 : Hp) (s' : Shared), Inv X pins σ H1 s' → Ex F F1 → OkM X.K F0 F1 M H1 → Rep X.K F1 (lamOf X pa b sc) (.ref f) → Q (.ref f) s') :
    wpAny (model X.prog X.w) X.A (makeTail "<lambda>" (X.env.qual ++ "<lambda>") pa (.expr b) sc X.env dv .none none pos pos.line) Q E s := by
  obtain ⟨hFP, u, hP1, ps, rfl, ht, ha⟩ := om.mem P _ hP
  have bP : s.heap.BuiltinsAt X.mg P := TB.bm.keeps I.bk
  have hP' : s.heap.get? P = some { cls := .none, data := .fields ps } := I.hok P _ hP1
  have C := TB.code.keeps I.bk
  have hg := I.mod.glob.keeps I.bk
  have hge0 := I.ok.glob
  have hcl := closure_ok hfree
  -- the function object is laid
  have lay : ∀ (h' : Heap) (tk : Tok) (c' : Addr) (ct : Value) (F1 H1 : Hp) (s1 : Shared), Inv X pins σ H1 { s with heap := h', toks := tk } → Ex F F1 → OkM X.K F0 F1 M H1 → F1 c' = some (LamX.CodeO c' (X.env.qual ++ "<lambda>")) →
      Q (.ref h'.objs.size) { s with heap := h'.push { cls := .type "function", data := .func (lamFn (cloFrom X.env.cells sc.names []) (X.env.qual ++ "<lambda>") pa b sc ((X.mg "__name__").getD .none) (.ref c') ct dv) }, toks := tk } := by
    intro h' tk c' ct F1 H1 s1 I1 e1 o1 hc'
    have nF : H1 h'.objs.size = none := I1.hok.fresh (Nat.le_refl _)
    have I2 := I1.laid (t' := tk) (a := h'.objs.size) (o := LamO h'.objs.size (cloFrom X.env.cells sc.names []) (X.env.qual ++ "<lambda>") pa b sc c' dv) (h' := h'.push { cls := .type "function", data := .func (lamFn (cloFrom X.env.cells sc.names []) (X.env.qual ++ "<lambda>") pa b sc ((X.mg "__name__").getD .none) (.ref c') ct dv) })
      (fun _ _ e => Heap.get?_push_of_some _ e) (Nat.le_refl _) ⟨⟨_, ct, Heap.get?_push_size _ rfl⟩, ⟨_, Heap.get?_push_size _ rfl⟩, fun h1 h2 ⟨pm, ct, z⟩ st => ⟨pm, ct, st _ z⟩⟩
    have hF1 := o1.freeF nF
    refine h h'.objs.size _ _ _ I2 (e1.trans (Ex.new hF1)) (o1.new nF) ⟨h'.objs.size, c', dv, rfl, upd_same, ?_, (hD.mono e1).mono (Ex.new hF1)⟩
    rw [upd_ne (ne_of_none hc' hF1)]
    exact hc'
  unfold makeTail
  rw [hcl, hge0]
  refine wpAny_bind (wpAny_pure ?_)
  -- behind the closure's tuple: a heap h0 over s.heap
  have main : ∀ (h0 : Heap) (tk0 : Tok) (ct : Value), (∀ b o, s.heap.get? b = some o → h0.get? b = some o) → s.heap.objs.size ≤ h0.objs.size →
      wpAny (model X.prog X.w) X.A (do
        let code ← functionCode X.env pos pos.line "<lambda>" (X.env.qual ++ "<lambda>") pa sc (.expr b)
        let bl ← builtinsFor mainGlobals X.env.builtins
        let pm := (← nsGet mainGlobals "__name__").getD .none
        let doc : Value ← pure .none
        newObj (.type "function") (.func { name := "<lambda>", qualname := X.env.qual ++ "<lambda>", params := pa, body := .expr b, scope := sc, globals := mainGlobals, closure := cloFrom X.env.cells sc.names [], closureTuple := ct, code := code, builtins := bl, defaults := dv, kwdefaults := .none, annotations := none, pyModule := pm, doc := doc })) Q E { s with heap := h0, toks := tk0 } := by
    intro h0 tk0 ct k0 z0
    have C0 := C.keeps k0
    have hP0 := k0 _ _ hP'
    have hg0 := hg.keeps k0
    obtain ⟨bm, ob, hbm, hne0, _, hneP, hbo, hcls, hdict, hdata⟩ := bP
    cases hc : codeAmong pos ps.toList with
    | none =>
      refine wpAny_bind (wpAny_functionCodeX hcode (C0.code hP0 ht) (C0.tab hP0) hc fun c' h' tk hx hge hlt _ hrec htb _ => ?_)
      have hg' := hg0.extBut hx TB.gP
      refine wpAny_bind (wpAny_builtinsFor hg' hbm hne0 (hx _ _ hneP (k0 _ _ hbo)) hcls hdict hdata ?_)
      refine wpAny_bind (wpAny_nsGet hg' ?_)
      refine wpAny_bind (wpAny_pure (wpAny_newObj_type ?_ (by size_fits)))
      obtain ⟨c2, oc, vs, t, e2, hoc, hd, hv⟩ := hrec
      cases e2
      have hge' : s.heap.objs.size ≤ c' := Nat.le_trans z0 hge
      have nC : H c' = none := I.hok.fresh hge'
      have I1 := LamX.inv_table (q := X.env.qual ++ "<lambda>") (t' := tk) (more := #[rawInt pos.line, rawInt pos.col, .ref c']) (h' := h') I hP1 (fun b o hb e => hx b o hb (k0 b o e)) htb.2 hge' ⟨oc, vs, t, hoc, hd, hv⟩
      have eL : (ps ++ #[rawInt pos.line, rawInt pos.col, .ref c']).toList = ps.toList ++ [rawInt pos.line, rawInt pos.col, .ref c'] := by simp
      have hFc := om.freeF nC
      have nPc : P ≠ c' := ne_of_none hP1 nC
      have o1 : OkM X.K F0 (upd F c' (LamX.CodeO c' (X.env.qual ++ "<lambda>"))) M (upd (upd H P (.tbl (ps ++ #[rawInt pos.line, rawInt pos.col, .ref c']))) c' (LamX.CodeO c' (X.env.qual ++ "<lambda>"))) := by
        refine ⟨om.base.trans (Ex.new hFc), fun a u ha => ?_, fun p u hp => ?_⟩
        · by_cases e : a = c'
          · subst e
            rw [upd_same] at ha ⊢
            exact ha
          · rw [upd_ne e] at ha ⊢
            have e2 : a ≠ P := fun z => by
              rw [z, hFP] at ha
              cases ha
            rw [upd_ne e2]
            exact om.sub a u ha
        · obtain ⟨f1, v, f2, f3⟩ := om.mem p u hp
          have e : p ≠ c' := ne_of_none f2 nC
          refine ⟨by rw [upd_ne e]; exact f1, ?_⟩
          by_cases e2 : p = P
          · subst e2
            rw [hP] at hp
            cases hp
            refine ⟨.tbl (ps ++ #[rawInt pos.line, rawInt pos.col, .ref c']), by rw [upd_ne e, upd_same], _, rfl, by rw [eL]; exact PySem.TriplesOk_snoc _ _ _ _ ht, fun pos' cv hcv => ?_⟩
            rw [eL] at hcv
            rcases LamX.among_app _ ht hcv with z | z
            · obtain ⟨c0, g1, g2⟩ := ha pos' cv z
              exact ⟨c0, g1, Ex.new hFc _ _ g2⟩
            · exact ⟨c', z, upd_same⟩
          · exact ⟨v, by rw [upd_ne e, upd_ne e2]; exact f2, f3.mono (Ex.new hFc)⟩
      exact lay h' tk c' ct _ _ s I1 (Ex.new hFc) o1 upd_same
    | some cv =>
      obtain ⟨c', e, hco⟩ := ha pos cv hc
      subst e
      refine wpAny_bind (wpAny_functionCode_hit hcode (C0.code hP0 ht) hc ?_)
      refine wpAny_bind (wpAny_builtinsFor hg0 hbm hne0 (k0 _ _ hbo) hcls hdict hdata ?_)
      refine wpAny_bind (wpAny_nsGet hg0 ?_)
      refine wpAny_bind (wpAny_pure (wpAny_newObj_type ?_ (by size_fits)))
      exact lay h0 tk0 c' ct F H s (I.kept k0) (Ex.refl F) om hco
  cases hcs : cloFrom X.env.cells sc.names [] with
  | nil =>
    simp only [List.isEmpty_nil, if_true]
    refine wpAny_bind (wpAny_pure ?_)
    have m := main s.heap s.toks .none (fun _ _ e => e) (Nat.le_refl _)
    rw [hcs] at m
    exact m
  | cons q r =>
    simp only [List.isEmpty_cons, Bool.false_eq_true, if_false]
    refine wpAny_bind (wpAny_newTextTuple ?_)
    have m := main _ s.toks (.ref s.heap.objs.size) (fun _ _ e => Heap.get?_push_of_some { cls := .type "tuple", data := .seq (List.map (fun x => Value.ref x.2) ((q :: r).mergeSort fun a b => a.1.cps.toList ≤ b.1.cps.toList)).toArray } e) (by rw [Heap.size_push]; omega)
    rw [hcs] at m
    exact m
end
end DL
/-! DX8: lambda expressions; the end of a law that makes lambdas -/
namespace DL
open PySem PySem.Spec PyProof.Rows L2
section
variable {X : Cx} {F0 : Hp} {ρ : DEnv} {M : Mem} {pa : Arguments} {b : Expr} {sc : Scope} {pos : Pos} {c P : Addr} {q : DK}
theorem de_lam0 (TB : LamX.TabB X.base X.mg c P) (hcode : X.env.code = .ref c) (hP : M P = some (.tbl (X.env.qual ++ "<lambda>"))) (O : outB X.env.scope.names sc.names = true) (hdef : defaultsOf pa X.env = ([], [])) (ha : pa.args.length = 0) (h : q (lamOf X pa b sc) M) : DE X F0 (.Lambda pa b sc pos) ρ M q := by
  refine ⟨fun pins s σ H Q I ⟨F, om, ol, kq⟩ => ?_⟩
  have hfree : ∀ y ∈ sc.names, y.2 = .free → ∃ c, X.env.cells.lookup y.1 = some c := fun y hy e => I.ok.has y.1 (.inl (outB_ok O y hy e))
  refine PySem.W.kla_eval hdef ?_
  rw [makeFunction_eq]
  simp only [List.zip_nil_right, List.filterMap_nil, List.isEmpty_nil, if_true, pure_bind]
  exact lam_tail I om TB hcode hP hfree (.inl ⟨ha, rfl⟩) fun f F1 H1 s' I1 e1 o1 r1 => ⟨.ref f, H1, I1, rfl, kq F1 H1 _ _ M e1 o1 r1 h⟩
theorem de_lam1 {k : Nat} {cp : Pos} {z : Int} (TB : LamX.TabB X.base X.mg c P) (hcode : X.env.code = .ref c) (hP : M P = some (.tbl (X.env.qual ++ "<lambda>"))) (O : outB X.env.scope.names sc.names = true) (hdef : defaultsOf pa X.env = ([eval (.Constant (.int z) k cp) X.env], [])) (ha : pa.args.length = 1) (h : q (lamOf X pa b sc) M) : DE X F0 (.Lambda pa b sc pos) ρ M q := by
  refine ⟨fun pins s σ H Q I ⟨F, om, ol, kq⟩ => ?_⟩
  have hfree : ∀ y ∈ sc.names, y.2 = .free → ∃ c, X.env.cells.lookup y.1 = some c := fun y hy e => I.ok.has y.1 (.inl (outB_ok O y hy e))
  rw [arm_eval_Lambda, hdef]
  show wpAny _ _ (do let dv ← evalAll [eval (.Constant (.int z) k cp) X.env]; let kdv ← holding dv (evalAllOpt []); makeFunction "<lambda>" (X.env.qual ++ "<lambda>") pa (.expr b) sc X.env dv kdv [] pos pos.line) _ _ _
  refine wpAny_bind ?_
  show wpAny _ _ (do let v ← eval (.Constant (.int z) k cp) X.env; return v :: (← holding [v] (evalAll []))) _ _ _
  refine wpAny_bind (thn ((pe_int (X := X)).run pins s σ H (fun v H1 => v = .int z ∧ H1 = H) I ⟨rfl, rfl⟩) fun u s1 ⟨v, H1, I1, r1, ev, eH⟩ => ?_)
  subst ev
  rw [eH] at I1
  refine wpAny_bind (wpAny_holding (wpAny_pure (wpAny_pure (wpAny_bind (wpAny_holding (wpAny_pure ?_))))))
  rw [makeFunction_eq]
  simp only [List.zip_nil_right, List.filterMap_nil, List.isEmpty_nil, List.isEmpty_cons, Bool.false_eq_true, if_false, if_true, pure_bind]
  refine wpAny_bind (wpAny_newTextTuple ?_)
  have nF : H s1.heap.objs.size = none := I1.hok.fresh (Nat.le_refl _)
  have I2 := I1.laid (t' := s1.toks) (a := s1.heap.objs.size) (o := .tup [.int z]) (h' := s1.heap.push { cls := .type "tuple", data := .seq [u].toArray }) (fun _ _ e => Heap.get?_push_of_some _ e) (Nat.le_refl _)
    ⟨by size_fits, [u], .cons r1 .nil, ⟨_, Heap.get?_push_size _ rfl, rfl, _, rfl⟩⟩
  have hFn := om.freeF nF
  exact lam_tail I2 (om.new nF) TB hcode hP hfree (.inr ⟨by rw [ha]; decide, _, [.int z], rfl, by rw [ha]; rfl, upd_same⟩) fun f F1 H1 s' I3 e1 o1 r3 => ⟨.ref f, H1, I3, rfl, kq F1 H1 _ _ M ((Ex.new hFn).trans e1) ⟨om.base.trans ((Ex.new hFn).trans e1), o1.sub, o1.mem⟩ r3 h⟩
end
section
variable {P : Program} {w : World} {K : PySem.W.Frag} {mg : Str → Option Value} {base : Heap}
theorem FunD.okGc {x qual : Str} {st : Stmt} {f : Addr} {fd : FuncData} {N ps : List Str} {k : Nat} {S : DSpec} {cv : Value} (F : FunD K x qual st f fd) (hcv : fd.code = cv) (sc : FnScope N ps (defScope st)) (len : ∀ ds M q x, S ds M q x → ds.length = ps.length)
    (body : ∀ (A : Around) (outer : List PySem.Env) (s : Shared) (H : Hp) (E : XK), A.guards = some [] → Room k (A.deeper (envOfC qual (defScope st) s.heap.objs.size f cv)) → ∀ F0 ds M q x, S ds M q x → XOk (bodyX P w K mg base N qual st f cv A outer s H E) F0 x →
      DSs (bodyX P w K mg base N qual st f cv A outer s H E) F0 (defBody st) (startD N ds) M { nx := fun _ M' => q .non M', rt := q }) : FnG P w K mg base (k + 1) f fd ps (LSp K S) := by
  obtain ⟨oc, od, dV, kV, doc, pm, an, cdv, ct, osl, rfl, lk, hcd⟩ := F.ex
  obtain rfl : cdv = cv := hcv
  exact fnG_of rfl lk hcd sc (lsp_len len) fun A outer s H vs Q E hg hr hs => body_ok (ps := ps) hs (body A outer s H E hg hr)
end
/-- what a law that makes lambdas is asked -/
def SLawT (P : Addr) (qn : Str) : DSpec := fun ds M q _ => ∃ ns, ds = [.scr ns] ∧ ns.length ≤ 63 ∧ (∀ z ∈ ns, IB 1048576 z) ∧ M P = some (.tbl qn) ∧ ∀ M', q (.bl true) M'
theorem lawGT {P : Program} {w : World} {K : PySem.W.Frag} {mg mb : Str → Option Value} {k : Nat} {fa a c T : Addr} {fd : FuncData} {x qn : Str} {s1 : Shared} {vs : List Value} {ns : List Int}
    (inK : K.In s1.heap) (nsM : s1.heap.Ns mainGlobals mg) (nsB : s1.heap.Ns builtinsNs mb) (boot : ∀ y : Str, y ≠ "__name__" → mb y = bootBuiltins y) (lim : s1.heap.NoLimit) (nog : s1.gens = #[])
    (hT : s1.heap.get? T = some { cls := .none, data := .fields #[] }) (nT : K.lookup T = none) (C : PySem.W.CodeHd s1.heap c T)
    (hbm : ∃ (bm : Addr) (ob : Obj), mg "__builtins__" = some (.ref bm) ∧ bm ≠ builtinsNs ∧ s1.heap.get? bm = some ob ∧ ob.cls = .type "module" ∧ ob.dict = some builtinsNs ∧ ob.data = .plain)
    (script : s1.heap.get? a = some { cls := .type "list", data := .seq vs.toArray }) (hints : IntsAre vs ns) (short : ns.length ≤ 63) (bits : ∀ z ∈ ns, IB 1048576 z) (room : Room k callerA)
    (def_ : ∀ base : Heap, K.In base → base.Ns mainGlobals mg → LamX.TabB base mg c T → FnG P w K mg base k fa fd [x] (LSp K (SLawT T qn))) (binds : ∀ (s : Shared) (u : Value), BindsTo s fd ⟨[u], []⟩ [(x, u)]) :
    codeAny (model P w) callerA (.call (.ref fa) ⟨[.ref a], []⟩) (fun r s' => r = .ok (.ret (.bool true)) ∧ OldK s1.heap s'.heap ∧ s'.os = s1.os ∧ AllBare s'.gens) s1 := by
  have rv := vals_ints hints
  have lenV := hints.length
  have short' : ns.length ≤ sizeLine := Nat.le_trans short (by decide)
  have aT : a ≠ T := fun z => by
    rw [z, hT] at script
    have z' : Data.fields #[] = Data.seq vs.toArray _ := congrArg Obj.data (Option.some.inj script)
    cases z'
  have core : ∀ H : Hp, H T = some (.tbl #[]) → (∀ b, H b = none ∨ b = T ∨ ∃ o xs, H b = some (.frz o (.lst xs))) → SqL K H a (ns.map V.int) → HOk P w H s1.heap → (∀ b, H b ≠ none → b = a ∨ b = T) → (H a ≠ none → K.lookup a = none) →
      codeAny (model P w) callerA (.call (.ref fa) ⟨[.ref a], []⟩) (fun r s' => r = .ok (.ret (.bool true)) ∧ OldK s1.heap s'.heap ∧ s'.os = s1.os ∧ AllBare s'.gens) s1 := by
    intro H hH hO hS hok hA hK
    have base_of : ∀ {b : Addr} {o : Obj}, s1.heap.get? b = some o → H b = none → (hidT s1.heap H).get? b = some o := fun e n => hidT_get e n
    have noD : ∀ {b : Addr} {o : Obj}, s1.heap.get? b = some o → (∀ vs n, o.data ≠ .seq vs n) → o.data ≠ .fields #[] → H b = none := fun {b o} e h1 h2 => by
      cases q : H b with
      | none => rfl
      | some u =>
        rcases hA b (by rw [q]; simp) with e' | e'
        · rw [e', script] at e
          cases e
          exact (h1 _ _ rfl).elim
        · rw [e', hT] at e
          cases e
          exact (h2 rfl).elim
    have noA : ∀ {b : Addr} {o : Obj} {es : Array DictEntry} {ep : Nat}, s1.heap.get? b = some o → o.data = .dict es ep → H b = none := fun {b o es ep} e d => by
      refine noD e (fun vs n z => ?_) fun z => ?_
      · rw [d] at z
        cases z
      · rw [d] at z
        cases z
    have nsK : ∀ {b : Addr} {m : Str → Option Value}, s1.heap.Ns b m → (hidT s1.heap H).Ns b m := fun {b m} ⟨o, es, ep, e, d, r⟩ => ⟨o, es, ep, base_of e (noA e d), d, r⟩
    have hKb : K.In (hidT s1.heap H) := fun b o e => base_of (inK b o e) (by
      cases q : H b with
      | none => rfl
      | some u =>
        rcases hA b (by rw [q]; simp) with e' | e'
        · rw [e'] at e q
          rw [hK (by rw [q]; simp)] at e
          cases e
        · rw [e', nT] at e
          cases e)
    have hM : L2.Mod K mg (hidT s1.heap H) := ⟨hKb, nsK nsM, ⟨mb, nsK nsB, boot⟩, let ⟨mc, h1, h2⟩ := lim; ⟨mc, nsK h1, h2⟩⟩
    have TB : LamX.TabB (hidT s1.heap H) mg c T := by
      refine ⟨?_, ?_, fun z => ?_⟩
      · obtain ⟨o, us, file, tf, flags, tg, inF, text, tt, e1, r1, r2, r3, r4, r5, r6, r7, r8, hne⟩ := C
        refine ⟨o, us, file, tf, flags, tg, inF, text, tt, base_of e1 (noD e1 (fun vs n z => ?_) fun z => ?_), r1, r2, r3, r4, r5, r6, r7, r8, hne⟩
        · rw [r2] at z
          cases z
        · rw [r2] at z
          cases z
          simp at r3
      · obtain ⟨bm, ob, b1, b2, b3, b4, b5, b6⟩ := hbm
        have nG : bm ≠ mainGlobals := fun q => by
          obtain ⟨o, es, ep, e, hd, _⟩ := nsM
          rw [q, e] at b3
          cases b3
          rw [hd] at b6
          cases b6
        have nP : bm ≠ T := fun q => by
          rw [q, hT] at b3
          cases b3
          cases b6
        refine ⟨bm, ob, b1, b2, nG, nP, base_of b3 (noD b3 (fun vs n z => ?_) fun z => ?_), b4, b5, b6⟩
        · rw [b6] at z
          cases z
        · rw [b6] at z
          cases z
      · obtain ⟨o, es, ep, e, hd, _⟩ := nsM
        rw [z, hT] at e
        cases e
        cases hd
    have e0 : Env0 P w K mg (hidT s1.heap H) callerA [] s1 H := ⟨rfl, hM, fun b o e => of_hidT e, Nat.le_of_eq (hidT_size _ _), trivial, fun b hb => absurd (show b ∈ ([] : List Addr) from hb) (by simp), hok, .of_eq nog⟩
    -- what never changes: all but the table
    have om : OkM K (fun b => if b = T then none else H b) (fun b => if b = T then none else H b) (fun b => if b = T then some (.tbl qn) else none) H := by
      refine ⟨Ex.refl _, fun b u e => ?_, fun p u e => ?_⟩
      · by_cases hb : b = T
        · have e' : (none : Option HO) = some u := by rw [← e, if_pos hb]
          cases e'
        · rw [← e, if_neg hb]
      · by_cases hb : p = T
        · rw [if_pos hb] at e
          cases e
          refine ⟨if_pos hb, _, by rw [hb]; exact hH, #[], rfl, True.intro, fun pos cv hc => ?_⟩
          have z : codeAmong pos [] = some cv := hc
          simp [codeAmong] at z
        · rw [if_neg hb] at e
          cases e
    have sq : SqL K (fun b => if b = T then none else H b) a (ns.map V.int) := by
      have nk : ∀ u, H a = some u → (if a = T then none else H a) = some u := fun u e => by rw [if_neg aT]; exact e
      rcases hS with (h | ⟨o, h⟩) | h
      · exact .inl (.inl (nk _ h))
      · exact .inl (.inr ⟨o, nk _ h⟩)
      · exact .inr h
    have sp : LSp K (SLawT T qn) [.ref a] H (fun v _ => v = .bl true) (fun _ _ _ => False) :=
      ⟨_, [.scr ns], _, _, fun _ _ => False, om, ⟨.ref a, [], rfl, ⟨a, rfl, sq⟩, rfl⟩, ⟨ns, rfl, short, bits, if_pos rfl, fun M' => (rfl : (fun d (_ : Mem) => d = Dat.bl true) (.bl true) M')⟩, fun F' H' v d M' _ _ r hd => by
        have hd' : d = .bl true := hd
        subst hd'
        exact r, fun _ _ _ _ _ _ _ _ _ z => z⟩
    refine codeAny_mono ((def_ _ hKb (nsK nsM) TB).go callerA [] s1 H ⟨[.ref a], []⟩ [.ref a] [.ref a] _ _ rfl room e0 (binds s1 (.ref a)) (.cons rfl .nil) sp) fun r s' h => ?_
    cases r with
    | error e =>
      obtain ⟨_, _, _, _, _, _, _, _, _, _, _, _, z⟩ := h
      exact z.elim
    | ok fl =>
      cases fl with
      | next => exact False.elim h
      | brk => exact False.elim h
      | cont => exact False.elim h
      | ret u =>
        obtain ⟨v, H', os, bare, un, hok', r', q⟩ := h
        have q' : v = .bl true := q
        subst q'
        obtain rfl : u = Value.bool true := r'
        have key : ∀ b o, b ≠ T → s1.heap.get? b = some o → s'.heap.get? b = some o := fun b o nb e => by
          cases q : H b with
          | none => exact un.keep b o e q (by intro z; exact absurd (show b ∈ ([] : List Addr) from z) (by simp)) (by simp)
          | some u =>
            rcases hO b with z | z | ⟨ob, xs, z⟩
            · rw [q] at z; cases z
            · exact absurd z nb
            · have z2 := un.frzs b ob _ z
              obtain ⟨e1, _⟩ := hok b _ z
              obtain ⟨e2, _⟩ := hok' b _ z2
              rw [e] at e1; cases e1
              exact e2
        obtain ⟨more, hm⟩ : ∃ more : Array Value, s'.heap.get? T = some { cls := .none, data := .fields more } := by
          obtain ⟨more, z⟩ := un.tbls T #[] hH
          exact ⟨_, hok' T _ z⟩
        refine ⟨rfl, ⟨fun b o e => ?_, fun b o e => ?_⟩, os, bare⟩
        · by_cases hb : b = T
          · rw [hb] at e ⊢
            rw [hT] at e
            cases e
            exact .inr (.inl ⟨(C.tab hT).isCodeTable, rfl, #[], more, rfl, by rw [Array.empty_append]; exact hm⟩)
          · exact .inl (key b o hb e)
        · by_cases hb : b = T
          · rw [hb]
            exact ⟨_, hm⟩
          · exact ⟨o, key b o hb e⟩
  cases hk : K.lookup a with
  | some o =>
    have e := inK a o hk
    rw [script] at e
    cases e
    refine core (fun b => if b = T then some (.tbl #[]) else none) (if_pos rfl) (fun b => ?_) (.inr ⟨_, vs.toArray, _, hk, rfl, rfl, rfl, by rw [List.size_toArray, lenV]; exact short', by simpa using rv⟩) (fun b u z => ?_) (fun b z => ?_) fun z => absurd (show (if a = T then some (HO.tbl #[]) else none) = none from if_neg aT) z
    · by_cases hb : b = T
      · exact .inr (.inl hb)
      · exact .inl (if_neg hb)
    · by_cases hb : b = T
      · have z' := (if_pos hb).symm.trans z
        cases z'
        rw [hb]
        exact hT
      · have z' := (if_neg hb).symm.trans z
        cases z'
    · by_cases hb : b = T
      · exact .inr hb
      · exact absurd (if_neg hb) z
  | none =>
    refine core (fun b => if b = a then some (.frz { cls := .type "list", data := .seq vs.toArray } (.lst (ns.map V.int))) else if b = T then some (.tbl #[]) else none) ((if_neg (Ne.symm aT)).trans (if_pos rfl)) (fun b => ?_)
      (.inl (.inr ⟨{ cls := .type "list", data := .seq vs.toArray }, if_pos rfl⟩)) (fun b u z => ?_) (fun b z => ?_) fun _ => hk
    · by_cases hb : b = a
      · exact .inr (.inr ⟨_, _, if_pos hb⟩)
      · by_cases hb2 : b = T
        · exact .inr (.inl hb2)
        · exact .inl ((if_neg hb).trans (if_neg hb2))
    · by_cases hb : b = a
      · have z' := (if_pos hb).symm.trans z
        cases z'
        rw [hb]
        exact ⟨script, by rw [List.length_map]; exact short', vs, _, rv, script⟩
      · have z1 := (if_neg hb).symm.trans z
        by_cases hb2 : b = T
        · have z' := (if_pos hb2).symm.trans z1
          cases z'
          rw [hb2]
          exact hT
        · have z' := (if_neg hb2).symm.trans z1
          cases z'
    · by_cases hb : b = a
      · exact .inl hb
      · by_cases hb2 : b = T
        · exact .inr hb2
        · exact absurd ((if_neg hb).trans (if_neg hb2)) z
theorem walkGT {l : PySem.W.OpenLaw} {k : Nat} {p : Program} {loose : List Str} {XP : (Str → Option Value) → Heap → Prop} {YP : World → Heap → Prop} {d : DefRec} {K : Params → PySem.W.Frag} {x qn : Str}
    (hn : l.most = some 63) (hdf : d.params.defaults = []) (hr : Room k callerA) (hY : ∀ (w : World) (h : Heap), YP w h → (K w.params).In h) (hd : (recsOf p).find? (fun e => e.name == d.name) = some d) (hK : ∀ w : World, PySem.W.noTabs (K w.params) = true)
    (F : ∀ (w : World) (mg : Str → Option Value) (fa : Addr) (h : Heap), (K w.params).In h → h.Ns mainGlobals mg → mg d.name = some (.ref fa) →
      ∃ fd : FuncData, (∃ oc od osl, (K w.params).lookup fa = some ⟨oc, od, .func fd, osl⟩) ∧ (∀ (s : Shared) (u : Value), BindsTo s fd ⟨[u], []⟩ [(x, u)]) ∧ ∀ (base : Heap) (c T : Addr), (K w.params).In base → base.Ns mainGlobals mg → LamX.TabB base mg c T → fd.code = .ref c → FnG l.prog w (K w.params) mg base k fa fd [x] (LSp (K w.params) (SLawT T qn))) :
    PySem.W.WalkO p loose XP YP l.row.toRowW d [] (fun f vs => PySem.call f vs) := by
  refine Att.attach_callB hn hdf ?_
  intro w s0 s1 mg mb fa o pm cd doc a vs ns G Y ho hdt hcd hmg hobj hints hlen hbits hg
  have KX := hY w _ Y
  obtain ⟨fd, ⟨oc, od, osl, lk⟩, hb, hF⟩ := F w mg fa _ KX G.T.g hmg
  obtain ⟨a2, o2, fd2, c, T, e1, e2, e3, e4, ic, it⟩ := G.T.tab d (List.mem_of_find?_eq_some hd)
  rw [hmg] at e1
  cases e1
  have e5 := KX _ _ lk
  rw [e2] at e5
  cases e5
  cases e3
  have CH := PySem.W.CodeHd.of ic it
  have hT : s1.heap.get? T = some { cls := .none, data := .fields #[] } := it.2
  have nT : (K w.params).lookup T = none := by
    cases q : (K w.params).lookup T with
    | none => rfl
    | some u =>
      have e6 := KX _ _ q
      have e7 := hT.symm.trans e6
      obtain rfl := Option.some.inj e7
      have h2 := List.all_eq_true.mp (hK w) (T, _) (PySem.W.mem_of_lookupK q)
      exact absurd (show false = true from h2) Bool.false_ne_true
  exact lawGT KX G.T.g G.T.b G.T.builtins G.T.nolimit hg hT nT CH G.T.bmain hobj hints hlen (fun z hz => bits_ib (hbits z hz)) hr (fun base h1 h2 h3 => hF base c T h1 h2 h3 e4) hb
end DL
/-! DX9: try .. except (A, B, C) as e; the caught exception's attributes; a def that is handed it -/
namespace L2
open PySem PySem.Spec PyProof.Rows HotX
theorem flying_keeps {B h h' : Heap} {l : List Env} {a : Addr} {Z : Obj → Prop} (x : HandSPX.FlyingZ B l a Z h) (k : ∀ b o, h.get? b = some o → h'.get? b = some o) : HandSPX.FlyingZ B l a Z h' := by
  obtain ⟨f1, f2, f3, oe, vs, T, oT, ts, he, hz, hd, h1, hnT, hTe, hT, hdT, h3⟩ := x
  exact ⟨fun b o e => k b o (f1 b o e), f2, Heap.FunFrames.of_keeps (fun b o e _ => ⟨o, k b o e, rfl⟩) f3, oe, vs, T, oT, ts, k _ _ he, hz, hd, h1, hnT, hTe, k _ _ hT, hdT, h3⟩
/-- what the clause 'except (A, B, C) as n' wishes of an exception of the body; every one is caught -/
def wTup (K : PySem.W.Frag) (cs : List Value) (i : Nat) (ts : Addr → Value → Option Addr → TS) (D : Ends) : WX := fun cls d σ H => PySem.W.exmAny K cls cs = some true ∧ ∀ a, H a = none → ts a cls d { nx := fun σ' H' => D.nx (σ'.set i none) H', rt := D.rt, bk := fun σ' H' => D.bk (σ'.set i none) H', ct := fun σ' H' => D.ct (σ'.set i none) H' } (σ.set i (some (.ref a))) H
section
variable {X : Cx} {x1 x2 x3 n : Str} {c1 c2 c3 : Value} {i kk : Nat} {body suite : List Stmt} {b₀ : Stmt} {p1 p2 p3 tpos pos pos' : Pos} {tb : WX → TS} {ts : Addr → Value → Option Addr → TS}
theorem ps_try_tup (hs : X.stack = X.env :: X.outer) (hf : X.env.frame = some X.env.locals) (hN : X.N.Nodup) (hi : X.N[i]? = some n) (hln : X.env.kindOf n = some .local) (n1 : Names X x1 c1) (n2 : Names X x2 c2) (n3 : Names X x3 c3)
    (hb : ∀ (W : WX) (pn : List (Addr × Obj)) (xe : Value → Shared → Prop), Takes (X.tr pn xe) W → PSs (X.tr pn xe) body (tb W))
    (hsu : ∀ (a : Addr) (oe : Obj) (cls : Value) (d : Option Addr) (pn : List (Addr × Obj)), Zc cls d oe → (∃ vs, oe.data = .fields vs) → PSs (X.suite a ((a, oe) :: pn)) (b₀ :: suite) (ts a cls d)) :
    PS X (.Try body [.ExceptHandler (some (.Tuple [.Name x1 p1, .Name x2 p2, .Name x3 p3] kk tpos)) (some n) (b₀ :: suite) pos'] [] [] pos) (fun D σ H => tb (wTup X.K [c1, c2, c3] i ts D) D σ H) := by
  refine ⟨fun pins s σ H D I h => ?_⟩
  have ok := I.ok
  have hfr : X.A.frames = some (X.env :: X.outer) := by rw [ok.frames, hs]
  have hloc : Loc X.env.scope n := .inl hln
  refine wpAny_Try_except ?_
  refine wpAny_mono ((hb (wTup X.K [c1, c2, c3] i ts D) (X.pn ++ pins) (fun e s₁ => wpAny (model X.prog X.w) X.A (noteFrame e X.env) (fun _ s₂ => wpAny (model X.prog X.w) X.A (setFlight e none) (fun _ s₃ =>
    wpAny (model X.prog X.w) X.A (handleBy e X.env [.ExceptHandler (some (.Tuple [.Name x1 p1, .Name x2 p2, .Name x3 p3] kk tpos)) (some n) (b₀ :: suite) pos']) (SP X pins D) X.xe s₃) X.xe s₂) X.xe s₁) (fun u s' xx => ?_)).run [] s σ H D (I.toTry _) h) (fun f s1 hsp => ?_) (fun e s1 he => he)
  · obtain ⟨a, B, sI, pins', σ', H', cls, d, rfl, J', nb, up, sky, na, os, ag, hb1, hyes⟩ := xx
    have J : Inv X pins σ' H' sI := J'.ofTry ok
    have sky' : Sky B (X.env :: X.outer) a (Zc cls d) X.env.locals s'.heap := by rw [← hs]; exact sky
    show wpAny _ X.A (noteFrame (.ref a) X.env) _ _ _
    refine Sky.land Zc.steady hfr hf sky' fun h3 fl3 up3 => ?_
    have J3 : Inv X pins σ' H' { s' with heap := h3 } := J.landed nb fl3.1 (up.trans up3) os ag
    obtain ⟨oe3, vs3, he3, hz3, hd3⟩ := fl3.there
    have notFr : ∀ {h : Heap} {o : Obj} {vs : Array Value}, h.FunFrames B (X.env :: X.outer) → h.get? a = some o → o.data = .fields vs → a ∉ frs (X.env :: X.outer) := fun {h o vs} ff e dd hm => by
      obtain ⟨_, o', e', hnf⟩ := ff.mem hm
      rw [e] at e'; cases e'
      exact hnf _ dd
    have nfr := notFr fl3.2.2.1 he3 hd3
    have nL : a ≠ X.env.locals := fun z => nfr (List.mem_filterMap.mpr ⟨X.env, List.mem_cons_self, by rw [hf, z]⟩)
    have nF : a ∉ X.fs := fun hm => by
      obtain ⟨e, he, q⟩ := List.mem_filterMap.mp hm
      exact nfr (List.mem_filterMap.mpr ⟨e, List.mem_cons_of_mem _ he, q⟩)
    have S3 := J3.suite he3 hd3 na nL nF
    refine wpAny_handleBy_cons (codeAny_handlers_test ?_) (by intro q; cases q)
    have nm : ∀ {x : Str} {c : Value} {np : Pos} {Q : Value → Shared → Prop} {E : Value → Shared → Prop}, Names X x c → Q c { s' with heap := h3 } → wpAny (model X.prog X.w) (X.A.mark (some (.ref a))) (eval (.Name x np) X.env) Q E { s' with heap := h3 } := fun {x c np Q E} hc q => by
      obtain ⟨hg, hdbg, hm | ⟨hm, hv, hnn⟩⟩ := hc
      · exact ld_glob (X := X.suite a ((a, oe3) :: (X.pn ++ pins))) S3 hg hm q hdbg
      · exact ld_blt (X := X.suite a ((a, oe3) :: (X.pn ++ pins))) S3 hg hm hv q hnn hdbg
    refine wpAny_Tuple ?_
    refine wpAny_items_cons (nm n1 ?_)
    refine wpAny_items_cons (nm n2 ?_)
    refine wpAny_items_cons (nm n3 ?_)
    refine wpAny_items_nil ⟨by size_fits, ?_⟩
    have kp : ∀ b o, h3.get? b = some o → (h3.push { cls := .type "tuple", data := .seq [c1, c2, c3].toArray }).get? b = some o := fun _ _ z => Heap.get?_push_of_some _ z
    have LT : PySem.W.Looks (model X.prog X.w) (h3.push { cls := .type "tuple", data := .seq [c1, c2, c3].toArray }) (typeOf (.ref a)) cls := fun A Q E s k q => wpAny_typeOf_ref (k _ _ (kp _ _ he3)) (by rw [hz3.1]; exact q)
    have fl5 : HandSPX.FlyingZ B (X.env :: X.outer) a (Zc cls d) (h3.push { cls := .type "tuple", data := .seq [c1, c2, c3].toArray }) := flying_keeps fl3 kp
    have up5 : s'.heap.UpToSlots (h3.push { cls := .type "tuple", data := .seq [c1, c2, c3].toArray }) := up3.trans (Heap.UpToSlots.of_keeps kp)
    refine (PySem.W.exm_tup3 (M := model X.prog X.w) (J3.kIn.keeps kp) LT (Heap.get?_push_size h3 rfl) hb1).here ?_
    refine codeAny_handlers_suite_as ?_
    refine HandSPX.lands_againZ fl5 fun h4 fl4 up4 => ?_
    have J4 : Inv X pins σ' H' { s' with heap := h4 } := J.landed nb fl4.1 ((up.trans up5).trans up4) os ag
    obtain ⟨oe4, vs4, he4, hz4, hd4⟩ := fl4.there
    have S4 := J4.suite he4 hd4 na nL nF
    refine store_ok (X := X.suite a ((a, oe4) :: (X.pn ++ pins))) (v := .ref a) S4 hN hi hloc rfl (fun s5 S5 => ?_) (.inr hln)
    refine wpAny_mono ((hsu a oe4 cls d (X.pn ++ pins) hz4 ⟨_, hd4⟩).run [] s5 _ H' _ S5 (hyes a na)) (fun f s6 hsp => ?_) (fun _ _ z => False.elim z)
    have end_ : ∀ {σ6 : St} {H6 : Hp} {Q : Shared → Prop}, Inv (X.suite a ((a, oe4) :: (X.pn ++ pins))) [] σ6 H6 s6 → (∀ s7, Inv X pins (σ6.set i none) H6 s7 → Q s7) →
        wpAny (model X.prog X.w) X.A (do bindName X.env n .none; unbindBehindTheSuite X.env n pos') (fun _ s7 => Q s7) X.xe s6 := fun {σ6 H6 Q} S6 hq => gone_ok (S6.unsuite ok) hN hi hln hq
    cases f with
    | next =>
      obtain ⟨σ6, H6, S6, q6⟩ := hsp
      exact end_ S6 fun s7 J7 => ⟨_, _, J7, q6⟩
    | brk =>
      obtain ⟨σ6, H6, S6, q6⟩ := hsp
      exact end_ S6 fun s7 J7 => ⟨_, _, J7, q6⟩
    | cont =>
      obtain ⟨σ6, H6, S6, q6⟩ := hsp
      exact end_ S6 fun s7 J7 => ⟨_, _, J7, q6⟩
    | ret u =>
      obtain ⟨v6, σ6, H6, S6, r6, q6⟩ := hsp
      exact end_ S6 fun s7 J7 => ⟨_, _, _, J7, r6, q6⟩
  · cases f with
    | next =>
      obtain ⟨σ', H', J', q⟩ := hsp
      exact wpAny_execs_nil ⟨σ', H', J'.ofTry ok, q⟩
    | brk =>
      obtain ⟨σ', H', J', q⟩ := hsp
      exact ⟨σ', H', J'.ofTry ok, q⟩
    | cont =>
      obtain ⟨σ', H', J', q⟩ := hsp
      exact ⟨σ', H', J'.ofTry ok, q⟩
    | ret u =>
      obtain ⟨v, σ', H', J', r, q⟩ := hsp
      exact ⟨v, σ', H', J'.ofTry ok, r, q⟩
end
end L2
namespace DL
open PySem PySem.Spec PyProof.Rows L2
/-- the exception that is held: at a, its dict in F -/
structure Held (K : PySem.W.Frag) (F : Hp) (pn : List (Addr × Obj)) (a : Addr) (e : Exn) : Prop where
  at_ : ∃ (oe : Obj) (dd : Addr) (xs : List V), (a, oe) ∈ pn ∧ Zc (.ref e.C) (some dd) oe ∧ (∃ vs, oe.data = .fields vs) ∧ F dd = some (.xd (e.ns.zip xs)) ∧ e.ns.length = xs.length ∧ Reps K F e.ds xs
section
variable {X : Cx} {F0 : Hp} {ρ : DEnv} {M : Mem} {a : Addr} {e : Exn} {ex : Expr} {n : Str} {pos : Pos} {d : Dat} {q : DK}
theorem de_xattr (T : XfC X.K e.C) (hno : PySem.W.findIn X.K (.ref e.C) n = some none) (hh : Held X.K F0 X.pn a e) (hl : (e.ns.zip e.ds).lookup n = some d) (h : DE X F0 ex ρ M fun v M1 => v = .ptr a ∧ q d M1) (hb : attributeBase ex n X.env (eval ex X.env) = eval ex X.env := by rfl) : DE X F0 (.Attribute ex n pos) ρ M q := by
  obtain ⟨oe, dd, xs, hp, hz, ⟨vs, hd⟩, hF, hlen, hreps⟩ := hh.at_
  refine ⟨fun pins s σ H Q I h0 => ?_⟩
  obtain ⟨F, om, ol, kq⟩ := h0
  refine attr_of hb (thn ((show PE X ex _ from h).run pins s σ H (fun v H1 => ∃ F1 d1 M1, Ex F F1 ∧ OkM X.K F0 F1 M1 H1 ∧ Rep X.K F1 d1 v ∧ d1 = .ptr a ∧ q d M1) I ⟨F, om, ol, fun F1 H1 v d M1 e1 o1 r1 h1 => ⟨F1, d, M1, e1, o1, r1, h1.1, h1.2⟩⟩) fun u s1 hh => ?_)
  obtain ⟨x, H1, I1, rx, F1, d1, M1, e1, o1, r1, rfl, q1⟩ := hh
  obtain rfl : x = .ref a := r1
  obtain rfl : u = Value.ref a := rx
  obtain ⟨ha, _⟩ := I1.pin (a, oe) (List.mem_append_left _ hp)
  have hF1 : F1 dd = some (.xd (e.ns.zip xs)) := o1.base _ _ hF
  have hx : ObjOk X.prog X.w H1 s1.heap dd (.xd (e.ns.zip xs)) := I1.hok dd _ (o1.sub _ _ hF1)
  obtain ⟨mA, hns, hr⟩ := hx
  obtain ⟨od, ho, hlk⟩ := lookIn_ns hns
  obtain ⟨v, hv, rv⟩ := hreps.lookup hl
  obtain ⟨u, hu, ru⟩ := RelO.some_of (v := v) (o := mA n) (by rw [← hv]; exact hr n)
  have J : PySem.W.InstAt s1.heap a oe e.C (some od) := ⟨ha, hz.1, by unfold PySem.W.notCls; rw [hd] <;> rfl, by rw [hz.2]; exact ho⟩
  exact HandSPX.exc_get I1.kIn J T.ga T.gg T.exC (PySem.W.findObj_own T.hdC hno rfl (by rw [hlk, hu])) (handed_of ru) ⟨v, H1, I1.tok _, ru, kq F1 H1 v d M1 e1 o1 (rv.mono o1.base) q1⟩
end
/-! ### a def that is handed the exception -/
def HotFn (P : Program) (w : World) (K : PySem.W.Frag) (mg : Str → Option Value) (base : Heap) (k : Nat) (f : Addr) (S : Exn → Dat → Prop) : Prop :=
  ∀ (A : Around) (outer : List Env) (s : Shared) (H F : Hp) (M : Mem) (e : Exn) (r : Dat) (a : Addr) (oe : Obj) (Q : VK), A.guards = some [] → L2H.RoomH k A → L2H.PinOk outer H s (a, oe) → Env0 P w K mg base A outer s H → OkM K F F M H → Held K F [(a, oe)] a e → S e r →
    kV K F F (fun d M' => d = r ∧ M' = M) Q → codeAny (model P w) A (.call (.ref f) ⟨[.ref a], []⟩) (CR (L2.CX P w) outer P w H s Q (fun _ _ _ => False)) s
section
variable {P : Program} {w : World} {K : PySem.W.Frag} {mg : Str → Option Value} {base : Heap}
theorem hotFn_of {x qual : Str} {st : Stmt} {f : Addr} {fd : FuncData} {N : List Str} {p : Str} {k : Nat} {S : Exn → Dat → Prop} (F : FunD K x qual st f fd) (sc : FnScope N [p] (defScope st)) (hb : ∀ (s : Shared) (us : List Value), us.length = [p].length → BindsTo s fd ⟨us, []⟩ ([p].zip us))
    (body : ∀ (cdv : Value) (A : Around) (outer : List PySem.Env) (s : Shared) (H : Hp) (a : Addr) (oe : Obj) (e : Exn) (r : Dat) (F0 : Hp) (M : Mem), (A.deeper (envOfC qual (defScope st) s.heap.objs.size f cdv)).guards = some [] → S e r → Held K F0 [(a, oe)] a e →
      DSs (L2H.cxH (L2.CX P w) P w K mg base N qual (defScope st) f cdv A outer s H (fun _ _ _ => False) (a, oe)) F0 (defBody st) (startD N [.ptr a]) M { nx := fun _ _ => False, rt := fun d M' => d = r ∧ M' = M }) : HotFn P w K mg base (k + 1) f S := by
  obtain ⟨oc, od, dV, kV', doc, pm, an, cdv, ct, osl, rfl, lk, hcd⟩ := F.ex
  intro A outer s H F0 M e r a oe Q hgd hr hpin e0 om hh hS kq
  have KX : K.In s.heap := e0.mod.kin.keeps fun b o e => (e0.bs b o e).1
  have lim : s.heap.NoLimit := e0.mod.nolimit.keeps fun b o e => (e0.bs b o e).1
  have hkind : ∀ y ∈ [p].zip [Value.ref a], (defScope st).names.lookup y.1 = some .local ∨ ((defScope st).names.lookup y.1 = some .cell ∧ ((cellsFrom (s.heap.objs.size + 1) (defScope st).names []).lookup y.1).isSome = true) := fun ⟨n, v⟩ hy => by
    rcases sc.par n (List.of_mem_zip hy).1 with q | q
    · exact .inl q
    · exact .inr ⟨q, PySem.W.cellsFrom_some _ _ _ (.inl q)⟩
  refine codeAny_call_function hr.depth (KX _ _ lk) rfl sc.co sc.gen rfl (PySem.W.codeRec_of KX hcd) (hb s [.ref a] rfl _ _ _ _ ?_)
  refine wpAny_newFunctionEnv_cells sc.kind hkind fun env he s1 x => ?_
  subst he
  refine ⟨lim.keeps x.toInCall.keep, codeAny_func ?_⟩
  have I : Inv (L2H.cxH (L2.CX P w) P w K mg base N qual (defScope st) f cdv A outer s H (fun _ _ _ => False) (a, oe)) [] (L2.start N [.ref a]) H s1 := L2H.inv_startH sc hpin e0 rfl (.cons rfl .nil) x
  have B := body cdv A outer s H a oe e r F0 M hgd hS hh
  have hst : OkL K F0 (startD N [.ptr a]) (L2.start N [.ref a]) := OkL.start (Reps.cons rfl Reps.nil)
  refine wpAny_mono ((show PSs _ (defBody st) _ from B).run [] s1 (L2.start N [.ref a]) H { nx := fun _ _ => False, rt := Q } I ⟨F0, om, hst, ⟨fun _ _ _ _ _ _ _ _ z => z.elim, kq, fun _ _ _ _ _ _ _ _ z => z.elim, fun _ _ _ _ _ _ _ _ z => z.elim⟩⟩) (fun fl s' hs => ?_) fun e s' hs => hs
  cases fl with
  | ret u =>
    obtain ⟨v, σ', H', J, rv, q⟩ := hs
    exact ⟨v, H', J.os, J.bare, J.base, J.hok, rv, q⟩
  | next =>
    obtain ⟨_, _, _, q⟩ := hs
    exact False.elim q
  | brk =>
    obtain ⟨_, _, _, q⟩ := hs
    exact False.elim q
  | cont =>
    obtain ⟨_, _, _, q⟩ := hs
    exact False.elim q
end
section
variable {X : Cx} {F0 : Hp} {ρ : DEnv} {M : Mem} {a : Addr} {e : Exn} {ex : Expr} {x : Str} {f : Addr} {k k' : Nat} {S : Exn → Dat → Prop} {r : Dat} {p pos : Pos} {q : DK}
theorem Held.mono {K : PySem.W.Frag} {F F' : Hp} {pn : List (Addr × Obj)} (h : Held K F pn a e) (x : Ex F F') : Held K F' pn a e := by
  obtain ⟨oe, dd, xs, h1, h2, h3, h4, h5, h6⟩ := h.at_
  exact ⟨oe, dd, xs, h1, h2, h3, x _ _ h4, h5, h6.mono x⟩
theorem de_hot (C : HotFn X.prog X.w X.K X.mg X.base k f S) (hg : Gl X x) (hm : X.mg x = some (.ref f)) (hkp : PySem.W.keepIn X.K (.ref f) = true) (hr : L2H.RoomH k' X.A) (hk : k ≤ k') (hgd : X.A.guards = some []) (hh : Held X.K F0 X.pn a e) (hS : S e r)
    (h : DE X F0 ex ρ M fun v M1 => v = .ptr a ∧ q r M1)
    (hdb : (x == ("__debug__" : Str)) = false := by decide) (he : starEach [ex] X.env = (false, eval ex X.env) :: starEach [] X.env := by rfl) (hpl : (backTo pos (starEach [] X.env)).any (·.1) = false := by rfl) :
    DE X F0 (.Call (.Name x p) [ex] [] pos) ρ M q := by
  obtain ⟨oe, dd, xs, hp, hz, hfd, hF, hlen, hreps⟩ := hh.at_
  refine ⟨fun pins s σ H Q I h0 => ?_⟩
  obtain ⟨F, om, ol, kq⟩ := h0
  refine wpAny_Call_Name_kw (ld_glob I hg hm ?_ hdb)
  refine PySem.W.callWith_K (h₀ := X.base) I.ok.mod.kin hkp ?_ he hpl
  rw [he]
  refine Calls.spliced_cons (thn ((show PE X ex _ from h).run pins s σ H (fun v H1 => ∃ F1 d1 M1, Ex F F1 ∧ OkM X.K F0 F1 M1 H1 ∧ Rep X.K F1 d1 v ∧ d1 = .ptr a ∧ q r M1) I ⟨F, om, ol, fun F1 H1 v d M1 e1 o1 r1 h1 => ⟨F1, d, M1, e1, o1, r1, h1.1, h1.2⟩⟩) fun u s1 ⟨v, H1, I1, ru, F1, d, M1, e1, om1, r1, hd, h1⟩ => Calls.spliced_nil ⟨I1.kIn, ?_⟩)
  subst hd
  obtain rfl : v = .ref a := r1
  obtain rfl : u = Value.ref a := ru
  have P1 := I1.pin (a, oe) (List.mem_append_left _ hp)
  have hpin : L2H.PinOk X.stack H1 s1 (a, oe) := ⟨P1.1, P1.2.1, fun hm => (List.mem_cons.mp (I1.stkSub a hm)).elim P1.2.2.1 P1.2.2.2.1, P1.2.2.2.2⟩
  have rm : L2H.RoomH k X.A := hr.mono hk
  show wpAny _ _ (call (.ref f) [Value.ref a]) _ _ _
  refine wpAny_call (codeAny_mono (C X.A X.stack s1 H1 F1 M1 e r a oe Q hgd rm hpin I1.env0 om1.entry ⟨oe, dd, xs, List.mem_singleton.mpr rfl, hz, hfd, om1.base _ _ hF, hlen, hreps.mono om1.base⟩ hS (fun F' H' v' d' M' ex' o' r' hq => ?_)) fun res s2 hres => ?_)
  · obtain ⟨rfl, rfl⟩ := hq
    exact kq F' H' v' d' M' (e1.trans ex') ⟨om1.base.trans ex', o'.sub, o'.mem⟩ r' h1
  · cases res with
    | error ee =>
      obtain ⟨_, _, _, _, _, _, _, _, _, _, _, _, z⟩ := hres
      exact z.elim
    | ok fl =>
      cases fl with
      | ret u => exact I1.after hres
      | next => exact False.elim hres
      | brk => exact False.elim hres
      | cont => exact False.elim hres
end
/-! ### the try statement in data -/
section
variable {X : Cx} {F0 : Hp} {ρ : DEnv} {M : Mem} {x1 x2 x3 n : Str} {c1 c2 c3 : Value} {i kk : Nat} {body suite : List Stmt} {b₀ : Stmt} {p1 p2 p3 tpos pos pos' : Pos} {D : DEnds} {xq : XQ}
theorem ds_tryT (hs : X.stack = X.env :: X.outer) (hf : X.env.frame = some X.env.locals) (hN : X.N.Nodup) (hi : X.N[i]? = some n) (hln : X.env.kindOf n = some .local) (n1 : Names X x1 c1) (n2 : Names X x2 c2) (n3 : Names X x3 c3)
    (hb : ∀ (F1 : Hp) (pn : List (Addr × Obj)) (xe : Value → Shared → Prop), XOk (X.tr pn xe) F1 xq → DSs (X.tr pn xe) F1 body ρ M D)
    (hx : ∀ e M', xq e M' → PySem.W.exmAny X.K (.ref e.C) [c1, c2, c3] = some true)
    (hsu : ∀ (a : Addr) (oe : Obj) (pn : List (Addr × Obj)) (e : Exn) (M' : Mem) (F1 : Hp), xq e M' → Held X.K F1 ((a, oe) :: pn) a e →
      DSs (X.suite a ((a, oe) :: pn)) F1 (b₀ :: suite) ((X.N.map fun _ => (none : Option Dat)).set i (some (.ptr a))) M' { nx := fun _ _ => False, rt := D.rt }) :
    DS X F0 (.Try body [.ExceptHandler (some (.Tuple [.Name x1 p1, .Name x2 p2, .Name x3 p3] kk tpos)) (some n) (b₀ :: suite) pos'] [] [] pos) ρ M D := by
  let ts : Addr → Value → Option Addr → TS := fun a cls d E σ H => ∃ (e : Exn) (M' : Mem) (F1 : Hp) (dd : Addr) (xs : List V), xq e M' ∧ cls = .ref e.C ∧ d = some dd ∧ F1 dd = some (.xd (e.ns.zip xs)) ∧ e.ns.length = xs.length ∧ Reps X.K F1 e.ds xs ∧
    tDS X.K F1 ((X.N.map fun _ => (none : Option Dat)).set i (some (.ptr a))) M' { nx := fun _ _ => False, rt := D.rt } E σ H
  refine PS.wk (ps_try_tup (ts := ts) (tb := fun W E σ H => ∃ F1, (∀ cls d σ' H', σ'.length = X.N.length → wX X.K F1 xq cls d H' → W cls d σ' H') ∧ tDS X.K F1 ρ M D E σ H) hs hf hN hi hln n1 n2 n3 (fun W pn xe tk => ?_) (fun a oe cls d pn hz hfd => ?_)) fun E σ H ⟨F, om, ol, ke⟩ => ⟨F, fun cls d σ' H' hl hw => ?_, F, om.entry, ol, ⟨fun F' H' σ' ρ' M' e o l q => ke.nx F' H' σ' ρ' M' e ⟨om.base.trans e, o.sub, o.mem⟩ l q, fun F' H' v d M' e o r q => ke.rt F' H' v d M' e ⟨om.base.trans e, o.sub, o.mem⟩ r q, fun F' H' σ' ρ' M' e o l q => ke.bk F' H' σ' ρ' M' e ⟨om.base.trans e, o.sub, o.mem⟩ l q, fun F' H' σ' ρ' M' e o l q => ke.ct F' H' σ' ρ' M' e ⟨om.base.trans e, o.sub, o.mem⟩ l q⟩⟩
  · refine ⟨fun pins s σ H E I ⟨F1, hw, h⟩ => ?_⟩
    have tk' : XOk (X.tr pn xe) F1 xq := fun u s' ⟨a, B, sI, pins, σ, H, cls, d, e, I, nb, up, sky, na, os, ag, w⟩ => tk u s' ⟨a, B, sI, pins, σ, H, cls, d, e, I, nb, up, sky, na, os, ag, hw cls d σ H I.len w⟩
    exact (show PSs _ body _ from hb F1 pn xe tk').run pins s σ H E I h
  · refine ⟨fun pins s σ H E I ⟨e, M', F1, dd, xs, h1, h2, h3, h4, h5, h6, h7⟩ => ?_⟩
    subst h2
    subst h3
    exact (show PSs _ (b₀ :: suite) _ from hsu a oe pn e M' F1 h1 ⟨oe, dd, xs, List.mem_cons_self, hz, hfd, h4, h5, h6⟩).run pins s σ H E I h7
  · obtain ⟨F', M', e, o', ⟨hcls, dd, xs, hd, hF, hlen, hreps⟩, hxq⟩ := hw
    refine ⟨by rw [hcls]; exact hx e M' hxq, fun a na => ⟨e, M', F', dd, xs, hxq, hcls, hd, hF, hlen, hreps, F', o'.entry, ⟨by rw [List.length_set, List.length_set, List.length_map, hl], fun j dj hj => ?_⟩, ⟨fun _ _ _ _ _ _ _ _ z => z.elim, fun F2 H2 v d2 M2 e2 o2 r2 hq => ?_, fun _ _ _ _ _ _ _ _ z => z.elim, fun _ _ _ _ _ _ _ _ z => z.elim⟩⟩⟩
    · by_cases hij : i = j
      · subst hij
        have hlt : i < X.N.length := (List.getElem?_eq_some_iff.mp hi).1
        rw [List.getElem?_set_self (by rw [List.length_map]; exact hlt)] at hj
        cases hj
        exact ⟨.ref a, List.getElem?_set_self (by rw [hl]; exact hlt), rfl⟩
      · rw [List.getElem?_set_ne hij, List.getElem?_map] at hj
        cases e3 : X.N[j]? with
        | none =>
          rw [e3] at hj
          cases hj
        | some y =>
          rw [e3] at hj
          cases hj
    · exact ke.rt F2 H2 v d2 M2 (o'.base.trans e2) ⟨om.base.trans (o'.base.trans e2), o2.sub, o2.mem⟩ r2 hq
end
end DL
/-! DX10: _law_fields, _law_why -/
open PySem PySem.Spec PyProof.Rows L2 DL
local macro_rules | `(tactic| walk_at "side") => `(tactic| first
  | assumption
  | rfl
  | omega
  | decide)
local macro_rules | `(tactic| walk_at "ib") => `(tactic| first
  | assumption
  | exact IB.small (by omega) (by omega)
  | exact IB.mono (by assumption) (by decide))
local macro_rules | `(tactic| walk_at "mem") => `(tactic| first
  | assumption
  | exact updM_same
  | (refine DL.Same.at (by assumption) (by first | assumption | exact Ne.symm (by assumption)) ?_; walk_at "mem")
  | (rw [updM_ne (by assumption)]; walk_at "mem")
  | (rw [updM_ne (Ne.symm (by assumption))]; walk_at "mem"))
local macro_rules | `(tactic| walk_at "br") => `(tactic| first
  | (with_reducible refine br_t ?_)
  | (with_reducible refine br_f ?_)
  | (with_reducible refine br_bb ?_)
  | (with_reducible refine br_n ?_)
  | ((with_reducible refine br_dT ?hp ?_); (case hp => first | assumption | omega | rfl))
  | ((with_reducible refine br_dF ?hp ?_); (case hp => first | assumption | omega | decide | (simp; done)))
  | ((with_reducible refine br_d ?_ ?_) <;> intro _hb)
  | ((with_reducible refine br_b ?_ ?_) <;> intro _hb))
local macro_rules | `(tactic| walk_at "op") => `(tactic| first
  | (with_reducible refine dop_add ?_)
  | (with_reducible refine dop_sub ?_)
  | ((with_reducible refine dop_mulx ?ha ?hb ?k); (case ha => walk_at "ib"); (case hb => walk_at "ib"))
  | ((with_reducible refine dop_mod ?h0 ?k); (case h0 => walk_at "side"))
  | ((with_reducible refine dop_fdivx ?h0 ?hb ?k); (case h0 => walk_at "side"); (case hb => walk_at "ib"))
  | (with_reducible refine dop_lt ?_)
  | (with_reducible refine dop_le ?_)
  | (with_reducible refine dop_gt ?_)
  | (with_reducible refine dop_ge ?_)
  | (with_reducible refine dop_eqI ?_)
  | (with_reducible refine dop_neI ?_)
  | (with_reducible refine dop_eqT ?_)
  | (with_reducible refine dop_neT ?_)
  | (with_reducible refine dop_eqB ?_)
  | (with_reducible refine dop_neB ?_)
  | ((with_reducible refine dop_mulT ?ok ?k); (case ok => exact mulT_ok (by omega) (by decide) (by decide)))
  | (with_reducible refine dop_isN ?_)
  | (with_reducible refine dop_notN ?_)
  | (with_reducible refine dop_isT ?_)
  | (with_reducible refine dop_isF ?_)
  | (with_reducible refine dop_ntT ?_)
  | (with_reducible refine dop_ntF ?_)
  | (with_reducible refine dop_isB ?_)
  | (with_reducible refine dop_notB ?_)
  | (with_reducible refine dop_p9 ?_)
  | (with_reducible refine dop_p18 ?_)
  | (with_reducible refine dop_p6 ?_)
  | (with_reducible refine dop_p14 ?_)
  | (with_reducible refine dop_inS ?_)
  | ((with_reducible refine dop_addT ?hz ?k); (case hz => walk_at "sz"))
  | ((with_reducible refine dop_cat ?hz ?k); (case hz => walk_at "sz"))
  | ((with_reducible refine dop_catU ?hz ?k); (case hz => walk_at "sz"))
  | ((with_reducible refine dop_rep ?hn ?hz ?k); (case hn => decide); (case hz => walk_at "sz"))
  | ((with_reducible refine dop_pow ?h0 ?k); (case h0 => decide))
  | ((with_reducible show DOp _ _ (compareOp CmpOp.Eq) (Dat.lst _) (Dat.lst _) _ _); refine dop_eqD (by assumption) ?_)
  | ((with_reducible show DOp _ _ (compareOp CmpOp.NotEq) (Dat.lst _) (Dat.lst _) _ _); refine dop_neD (by assumption) ?_))
local macro_rules | `(tactic| walk_at "sz") => `(tactic| first
  | assumption
  | omega
  | decide
  | exact Nat.le_of_ble_eq_true rfl
  | exact Nat.le_trans (Nat.add_le_add (by assumption) (by decide : _ ≤ 1000)) (by decide)
  | exact Nat.le_trans (Nat.add_le_add (by decide : _ ≤ 1000) (by assumption)) (by decide)
  | (simp; done)
  | (simp; omega))
local macro_rules | `(tactic| walk_at "cl") => `(tactic| first
  | (with_reducible refine dcl_lenL ?_)
  | (with_reducible refine dcl_lenU ?_)
  | ((with_reducible refine dcl_lenC (ds := ?ds) ?hM ?k); (case hM => walk_at "mem"))
  | ((with_reducible refine dcl_lenT ?hz ?k); (case hz => walk_at "sz"))
  | ((with_reducible refine dcl_strIx ?hi ?k); (case hi => walk_at "ib"))
  | ((with_reducible refine dcl_dictS ?hc ?k); (case hc => rfl))
  | (with_reducible refine dcl_intI ?_)
  | (with_reducible refine dcl_intB ?_)
  | (with_reducible refine dcl_listL ?_)
  | (with_reducible refine dcl_listU ?_)
  | (with_reducible refine dcl_tupL ?_)
  | (with_reducible refine dcl_tupU ?_)
  | (with_reducible refine dcl_abs ?_)
  | ((with_reducible refine dcl_isiX ?_); walk_at "isi")
  | walk_at "isc")
local macro_rules | `(tactic| walk_at "isc") => `(tactic| first
  | ((with_reducible show DCl _ _ _ [(Dat.int _), Dat.ptr _] _ _); refine dcl_isiC rfl (by exact CT.tI (by assumption)) ?_)
  | ((with_reducible show DCl _ _ _ [(Dat.bl _), Dat.ptr _] _ _); refine dcl_isiC rfl (by exact CT.tB (by assumption)) ?_)
  | ((with_reducible show DCl _ _ _ [(Dat.str _), Dat.ptr _] _ _); refine dcl_isiC rfl (by exact CT.tS (by assumption)) ?_)
  | ((with_reducible show DCl _ _ _ [Dat.non, Dat.ptr _] _ _); refine dcl_isiC rfl (by exact CT.tN (by assumption)) ?_)
  | ((with_reducible show DCl _ _ _ [(Dat.lst _), Dat.ptr _] _ _); refine dcl_isiC rfl (by exact CT.tL (by assumption)) ?_)
  | ((with_reducible show DCl _ _ _ [(Dat.tup _), Dat.ptr _] _ _); refine dcl_isiC rfl (by exact CT.tU (by assumption)) ?_)
  | ((with_reducible show DCl _ _ _ [Dat.obj _ _ _, Dat.ty "int"] _ _); refine dcl_isiO (by exact CT.ok (by assumption)) (by exact CT.cI (by assumption)) ?_)
  | ((with_reducible show DCl _ _ _ [Dat.obj _ _ _, Dat.ty "bool"] _ _); refine dcl_isiO (by exact CT.ok (by assumption)) (by exact CT.cB (by assumption)) ?_)
  | ((with_reducible show DCl _ _ _ [Dat.obj _ _ _, Dat.ty "str"] _ _); refine dcl_isiO (by exact CT.ok (by assumption)) (by exact CT.cS (by assumption)) ?_)
  | ((with_reducible show DCl _ _ _ [Dat.obj _ _ _, Dat.ty "list"] _ _); refine dcl_isiO (by exact CT.ok (by assumption)) (by exact CT.cL (by assumption)) ?_)
  | ((with_reducible show DCl _ _ _ [Dat.obj _ _ _, Dat.ty "tuple"] _ _); refine dcl_isiO (by exact CT.ok (by assumption)) (by exact CT.cU (by assumption)) ?_)
  | ((with_reducible show DCl _ _ _ [Dat.obj _ _ _, Dat.ptr _] _ _); first | (refine dcl_isiOC (by exact CT.ok (by assumption)) (by exact CT.own (by assumption)) ?_) | (refine dcl_isiOC (by exact CT.ok (by assumption)) (by assumption) ?_)))
local macro_rules | `(tactic| walk_at "isi") => `(tactic| first
  | ((with_reducible show ∃ _, isiD Dat.non _ = _ ∧ _); first | (with_reducible refine ⟨_, isi_non_int, ?_⟩) | (with_reducible refine ⟨_, isi_non_str, ?_⟩) | (with_reducible refine ⟨_, isi_non_bool, ?_⟩) | (with_reducible refine ⟨_, isi_non_list, ?_⟩) | (with_reducible refine ⟨_, isi_non_tuple, ?_⟩) | (with_reducible refine ⟨_, isi_non_dict, ?_⟩))
  | ((with_reducible show ∃ _, isiL Dat.non _ = _ ∧ _); first | (with_reducible refine ⟨_, isi_non_list_tuple, by decide, ?_⟩) | (with_reducible refine ⟨_, isi_non_int_str, by decide, ?_⟩) | (with_reducible refine ⟨_, isi_non_str_int, by decide, ?_⟩) | (with_reducible refine ⟨_, isi_non_tuple_list, by decide, ?_⟩))
  | ((with_reducible show ∃ _, isiD (Dat.bl _) _ = _ ∧ _); first | (with_reducible refine ⟨_, isi_bl_int, ?_⟩) | (with_reducible refine ⟨_, isi_bl_str, ?_⟩) | (with_reducible refine ⟨_, isi_bl_bool, ?_⟩) | (with_reducible refine ⟨_, isi_bl_list, ?_⟩) | (with_reducible refine ⟨_, isi_bl_tuple, ?_⟩) | (with_reducible refine ⟨_, isi_bl_dict, ?_⟩))
  | ((with_reducible show ∃ _, isiL (Dat.bl _) _ = _ ∧ _); first | (with_reducible refine ⟨_, isi_bl_list_tuple, by decide, ?_⟩) | (with_reducible refine ⟨_, isi_bl_int_str, by decide, ?_⟩) | (with_reducible refine ⟨_, isi_bl_str_int, by decide, ?_⟩) | (with_reducible refine ⟨_, isi_bl_tuple_list, by decide, ?_⟩))
  | ((with_reducible show ∃ _, isiD (Dat.int _) _ = _ ∧ _); first | (with_reducible refine ⟨_, isi_int_int, ?_⟩) | (with_reducible refine ⟨_, isi_int_str, ?_⟩) | (with_reducible refine ⟨_, isi_int_bool, ?_⟩) | (with_reducible refine ⟨_, isi_int_list, ?_⟩) | (with_reducible refine ⟨_, isi_int_tuple, ?_⟩) | (with_reducible refine ⟨_, isi_int_dict, ?_⟩))
  | ((with_reducible show ∃ _, isiL (Dat.int _) _ = _ ∧ _); first | (with_reducible refine ⟨_, isi_int_list_tuple, by decide, ?_⟩) | (with_reducible refine ⟨_, isi_int_int_str, by decide, ?_⟩) | (with_reducible refine ⟨_, isi_int_str_int, by decide, ?_⟩) | (with_reducible refine ⟨_, isi_int_tuple_list, by decide, ?_⟩))
  | ((with_reducible show ∃ _, isiD (Dat.str _) _ = _ ∧ _); first | (with_reducible refine ⟨_, isi_str_int, ?_⟩) | (with_reducible refine ⟨_, isi_str_str, ?_⟩) | (with_reducible refine ⟨_, isi_str_bool, ?_⟩) | (with_reducible refine ⟨_, isi_str_list, ?_⟩) | (with_reducible refine ⟨_, isi_str_tuple, ?_⟩) | (with_reducible refine ⟨_, isi_str_dict, ?_⟩))
  | ((with_reducible show ∃ _, isiL (Dat.str _) _ = _ ∧ _); first | (with_reducible refine ⟨_, isi_str_list_tuple, by decide, ?_⟩) | (with_reducible refine ⟨_, isi_str_int_str, by decide, ?_⟩) | (with_reducible refine ⟨_, isi_str_str_int, by decide, ?_⟩) | (with_reducible refine ⟨_, isi_str_tuple_list, by decide, ?_⟩))
  | ((with_reducible show ∃ _, isiD (Dat.lst _) _ = _ ∧ _); first | (with_reducible refine ⟨_, isi_lst_int, ?_⟩) | (with_reducible refine ⟨_, isi_lst_str, ?_⟩) | (with_reducible refine ⟨_, isi_lst_bool, ?_⟩) | (with_reducible refine ⟨_, isi_lst_list, ?_⟩) | (with_reducible refine ⟨_, isi_lst_tuple, ?_⟩) | (with_reducible refine ⟨_, isi_lst_dict, ?_⟩))
  | ((with_reducible show ∃ _, isiL (Dat.lst _) _ = _ ∧ _); first | (with_reducible refine ⟨_, isi_lst_list_tuple, by decide, ?_⟩) | (with_reducible refine ⟨_, isi_lst_int_str, by decide, ?_⟩) | (with_reducible refine ⟨_, isi_lst_str_int, by decide, ?_⟩) | (with_reducible refine ⟨_, isi_lst_tuple_list, by decide, ?_⟩))
  | ((with_reducible show ∃ _, isiD (Dat.tup _) _ = _ ∧ _); first | (with_reducible refine ⟨_, isi_tup_int, ?_⟩) | (with_reducible refine ⟨_, isi_tup_str, ?_⟩) | (with_reducible refine ⟨_, isi_tup_bool, ?_⟩) | (with_reducible refine ⟨_, isi_tup_list, ?_⟩) | (with_reducible refine ⟨_, isi_tup_tuple, ?_⟩) | (with_reducible refine ⟨_, isi_tup_dict, ?_⟩))
  | ((with_reducible show ∃ _, isiL (Dat.tup _) _ = _ ∧ _); first | (with_reducible refine ⟨_, isi_tup_list_tuple, by decide, ?_⟩) | (with_reducible refine ⟨_, isi_tup_int_str, by decide, ?_⟩) | (with_reducible refine ⟨_, isi_tup_str_int, by decide, ?_⟩) | (with_reducible refine ⟨_, isi_tup_tuple_list, by decide, ?_⟩))
  | ((with_reducible show ∃ _, isiD (Dat.dct _ _) _ = _ ∧ _); first | (with_reducible refine ⟨_, isi_dct_int, ?_⟩) | (with_reducible refine ⟨_, isi_dct_str, ?_⟩) | (with_reducible refine ⟨_, isi_dct_bool, ?_⟩) | (with_reducible refine ⟨_, isi_dct_list, ?_⟩) | (with_reducible refine ⟨_, isi_dct_tuple, ?_⟩) | (with_reducible refine ⟨_, isi_dct_dict, ?_⟩))
  | ((with_reducible show ∃ _, isiL (Dat.dct _ _) _ = _ ∧ _); first | (with_reducible refine ⟨_, isi_dct_list_tuple, by decide, ?_⟩) | (with_reducible refine ⟨_, isi_dct_int_str, by decide, ?_⟩) | (with_reducible refine ⟨_, isi_dct_str_int, by decide, ?_⟩) | (with_reducible refine ⟨_, isi_dct_tuple_list, by decide, ?_⟩))
  | ((with_reducible show ∃ _, isiD (Dat.scr _) _ = _ ∧ _); first | (with_reducible refine ⟨_, isi_scr_int, ?_⟩) | (with_reducible refine ⟨_, isi_scr_str, ?_⟩) | (with_reducible refine ⟨_, isi_scr_bool, ?_⟩) | (with_reducible refine ⟨_, isi_scr_list, ?_⟩) | (with_reducible refine ⟨_, isi_scr_tuple, ?_⟩) | (with_reducible refine ⟨_, isi_scr_dict, ?_⟩))
  | ((with_reducible show ∃ _, isiL (Dat.scr _) _ = _ ∧ _); first | (with_reducible refine ⟨_, isi_scr_list_tuple, by decide, ?_⟩) | (with_reducible refine ⟨_, isi_scr_int_str, by decide, ?_⟩) | (with_reducible refine ⟨_, isi_scr_str_int, by decide, ?_⟩) | (with_reducible refine ⟨_, isi_scr_tuple_list, by decide, ?_⟩)))
local macro_rules | `(tactic| walk_at "isn") => `(tactic| first
  | refine ⟨["list", "tuple"], rfl, ?_⟩
  | refine ⟨["tuple", "list"], rfl, ?_⟩
  | refine ⟨["int", "str"], rfl, ?_⟩
  | refine ⟨["str", "int"], rfl, ?_⟩)
local macro_rules | `(tactic| walk_at "ix") => `(tactic| first
  | ((with_reducible refine dix_cell (ds := ?ds) (d := ?d) ?hM ?hd ?k); (case hM => walk_at "mem"); (case hd => rfl))
  | ((with_reducible refine dix_lst (d := ?d) ?hd ?k); (case hd => rfl))
  | ((with_reducible refine dix_tup (d := ?d) ?hd ?k); (case hd => rfl)))
local macro_rules | `(tactic| walk_at "sl") => `(tactic| first
  | (with_reducible refine dsl_lst ?_)
  | (with_reducible refine dsl_scr ?_)
  | (with_reducible refine dsl_tup ?_)
  | ((with_reducible refine dsl_cell (ds := ?ds) ?hM ?k); (case hM => walk_at "mem"))
  | ((with_reducible refine dsl_str ?hz ?k); (case hz => walk_at "sz")))
local macro_rules | `(tactic| walk_at "bln") => `(tactic| first
  | ((with_reducible show DE _ _ (Expr.Call (Expr.Name "len" _) _ _ _) _ _ _); refine de_callB (x := "len") rfl (by assumption) b_len ?_)
  | ((with_reducible show DE _ _ (Expr.Call (Expr.Name "abs" _) _ _ _) _ _ _); refine de_callB (x := "abs") rfl (by assumption) b_abs ?_)
  | ((with_reducible show DE _ _ (Expr.Call (Expr.Name "all" _) _ _ _) _ _ _); refine de_callB (x := "all") rfl (by assumption) b_all ?_)
  | ((with_reducible show DE _ _ (Expr.Call (Expr.Name "any" _) _ _ _) _ _ _); refine de_callB (x := "any") rfl (by assumption) b_any ?_)
  | ((with_reducible show DE _ _ (Expr.Call (Expr.Name "sum" _) _ _ _) _ _ _); refine de_callB (x := "sum") rfl (by assumption) b_sum ?_)
  | ((with_reducible show DE _ _ (Expr.Call (Expr.Name "isinstance" _) _ _ _) _ _ _); first | refine de_isiX rfl (by assumption) ?_ | refine de_callB (x := "isinstance") rfl (by assumption) b_isinstance ?_)
  | ((with_reducible show DE _ _ (Expr.Call (Expr.Name "sorted" _) _ _ _) _ _ _); refine de_callB (x := "sorted") rfl (by assumption) b_sorted ?_)
  | ((with_reducible show DE _ _ (Expr.Call (Expr.Name "repr" _) _ _ _) _ _ _); refine de_callB (x := "repr") rfl (by assumption) b_repr ?_)
  | ((with_reducible show DE _ _ (Expr.Call (Expr.Name "int" _) _ _ _) _ _ _); refine de_callTy (x := "int") rfl (by assumption) b_int ?_)
  | ((with_reducible show DE _ _ (Expr.Call (Expr.Name "str" _) _ _ _) _ _ _); refine de_callTy (x := "str") rfl (by assumption) b_str ?_)
  | ((with_reducible show DE _ _ (Expr.Call (Expr.Name "list" _) _ _ _) _ _ _); refine de_callTy (x := "list") rfl (by assumption) b_list ?_)
  | ((with_reducible show DE _ _ (Expr.Call (Expr.Name "tuple" _) _ _ _) _ _ _); refine de_callTy (x := "tuple") rfl (by assumption) b_tuple ?_)
  | ((with_reducible show DE _ _ (Expr.Call (Expr.Name "bool" _) _ _ _) _ _ _); refine de_callTy (x := "bool") rfl (by assumption) b_bool ?_)
  | ((with_reducible show DE _ _ (Expr.Call (Expr.Name "dict" _) _ _ _) _ _ _); refine de_callTy (x := "dict") rfl (by assumption) b_dict ?_))
local macro_rules | `(tactic| walk_at "e") => `(tactic| first
  | (with_reducible refine de_int ?_)
  | (with_reducible refine de_str ?_)
  | (with_reducible refine de_bl ?_)
  | (with_reducible refine de_non ?_)
  | ((with_reducible show DE _ _ (Expr.Name _ _) _ _ _); first | walk_at "var" | walk_at "glob" | ((with_reducible show DE _ _ (Expr.Name "int" _) _ _ _); refine de_bltn rfl (by assumption) b_int ?_) | ((with_reducible show DE _ _ (Expr.Name "str" _) _ _ _); refine de_bltn rfl (by assumption) b_str ?_) | ((with_reducible show DE _ _ (Expr.Name "bool" _) _ _ _); refine de_bltn rfl (by assumption) b_bool ?_) | ((with_reducible show DE _ _ (Expr.Name "list" _) _ _ _); refine de_bltn rfl (by assumption) b_list ?_) | ((with_reducible show DE _ _ (Expr.Name "tuple" _) _ _ _); refine de_bltn rfl (by assumption) b_tuple ?_) | ((with_reducible show DE _ _ (Expr.Name "dict" _) _ _ _); refine de_bltn rfl (by assumption) b_dict ?_))
  | (with_reducible refine de_op ?_)
  | ((with_reducible refine de_cmp ?k ?m); (case m => first | rfl | exact nomark _))
  | walk_at "dix"
  | (with_reducible refine de_rev ?_)
  | (with_reducible refine de_sl ?_)
  | ((with_reducible refine de_ix ?k ?p); (case p => exact fun _ _ => rfl))
  | ((with_reducible refine de_chain ?k ?m); (case m => with_unfolding_all rfl))
  | (with_reducible refine de_tup ?_)
  | ((with_reducible show DE _ _ (Expr.List _ _) _ _ _); first | walk_at "cell" | refine de_lst ?_)
  | (with_reducible refine de_if ?_)
  | (with_reducible refine de_not ?_)
  | (with_reducible refine de_un ?_)
  | (with_reducible refine de_and ?_)
  | (with_reducible refine de_or ?_)
  | (with_reducible refine de_and1 ?_)
  | ((with_reducible show DE _ _ (Expr.Call (Expr.Name _ _) _ _ _) _ _ _); first | walk_at "call" | walk_at "bln")
  | ((with_reducible show DE _ _ (Expr.Call (Expr.Attribute _ _ _) _ _ _) _ _ _); first | walk_at "mcall" | walk_at "meth")
  | ((with_reducible show DE _ _ (Expr.ListComp _ _ _ _) _ _ _); walk_at "comp")
  | ((with_reducible show DE _ _ (Expr.DictComp _ _ _ _ _) _ _ _); walk_at "comp")
  | ((with_reducible show DE _ _ (Expr.JoinedStr (_ :: _ :: _) _) _ _ _); refine de_js ?_)
  | ((with_reducible show DE _ _ (Expr.JoinedStr [_] _) _ _ _); refine de_js1 ?_)
  | ((with_reducible show DE _ _ (Expr.FormattedValue _ _ _ _) _ _ _); refine de_fmt ?_)
  | ((with_reducible show DE _ _ (Expr.Dict [] [] _) _ _ _); (refine de_dnew ?_; intro _p _hp))
  | ((with_reducible show DE _ _ (Expr.Attribute _ _ _) _ _ _); refine de_at ?_))
local macro_rules | `(tactic| walk_at "mcall") => `(tactic| first
  | fail)
local macro_rules | `(tactic| walk_at "dmc") => `(tactic| first
  | fail)
local macro_rules | `(tactic| walk_at "own") => `(tactic| first
  | fail)
local macro_rules | `(tactic| walk_at "comp") => `(tactic| first
  | fail)
local macro_rules | `(tactic| walk_at "setc") => `(tactic| first
  | fail)
local macro_rules | `(tactic| walk_at "tgtc") => `(tactic| first
  | fail)
local macro_rules | `(tactic| walk_at "attr") => `(tactic| first
  | fail)
local macro_rules | `(tactic| walk_at "dat0") => `(tactic| first
  | refine DAt.fld (by first | exact Or.inl rfl | exact Or.inr ⟨_, rfl, by walk_at "mem"⟩) (by assumption) (by assumption) rfl ?_)
local macro_rules | `(tactic| walk_at "slen") => `(tactic| first
  | assumption
  | omega
  | (rw [strLen_append]; omega)
  | (rw [strLen_append, strLen_append]; omega)
  | (rw [strLen_append, strLen_append, strLen_append]; omega)
  | (rw [strLen_append, strLen_append, strLen_append, strLen_append]; omega))
local macro_rules | `(tactic| walk_at "dat") => `(tactic| first
  | fail)
local macro_rules | `(tactic| walk_at "dix") => `(tactic| first
  | fail)
local macro_rules | `(tactic| walk_at "dput") => `(tactic| first
  | fail)
local macro_rules | `(tactic| walk_at "meth") => `(tactic| first
  | ((with_reducible show DE _ _ (Expr.Call (Expr.Attribute _ "append" _) _ _ _) _ _ _); refine de_mt F.plainAttrs_list F.slot_list_append F.type_list_append ?_)
  | ((with_reducible show DE _ _ (Expr.Call (Expr.Attribute _ "extend" _) _ _ _) _ _ _); refine de_mt F.plainAttrs_list F.slot_list_extend F.type_list_extend ?_)
  | ((with_reducible show DE _ _ (Expr.Call (Expr.Attribute _ "insert" _) _ _ _) _ _ _); refine de_mt F.plainAttrs_list F.slot_list_insert F.type_list_insert ?_)
  | ((with_reducible show DE _ _ (Expr.Call (Expr.Attribute _ "clear" _) _ _ _) _ _ _); refine de_mt0 F.plainAttrs_list F.slot_list_clear F.type_list_clear ?_)
  | ((with_reducible show DE _ _ (Expr.Call (Expr.Attribute _ "index" _) _ _ _) _ _ _); refine de_mt F.plainAttrs_list F.slot_list_index F.type_list_index ?_)
  | ((with_reducible show DE _ _ (Expr.Call (Expr.Attribute _ "join" _) _ _ _) _ _ _); refine de_mt F.plainAttrs_str F.slot_str_join F.type_str_join ?_)
  | ((with_reducible show DE _ _ (Expr.Call (Expr.Attribute _ "startswith" _) _ _ _) _ _ _); refine de_mt F.plainAttrs_str F.slot_str_startswith F.type_str_startswith ?_)
  | ((with_reducible show DE _ _ (Expr.Call (Expr.Attribute _ "split" _) _ _ _) _ _ _); refine de_mt F.plainAttrs_str F.slot_str_split F.type_str_split ?_)
  | ((with_reducible show DE _ _ (Expr.Call (Expr.Attribute _ "partition" _) _ _ _) _ _ _); refine de_mt F.plainAttrs_str F.slot_str_partition F.type_str_partition ?_)
  | ((with_reducible show DE _ _ (Expr.Call (Expr.Attribute _ "lstrip" _) _ _ _) _ _ _); refine de_mt F.plainAttrs_str F.slot_str_lstrip F.type_str_lstrip ?_))
local macro_rules | `(tactic| walk_at "dmt") => `(tactic| first
  | ((with_reducible refine dmt_append (ds := ?ds) ?hM ?hz ?k); (case hM => walk_at "mem"); (case hz => walk_at "sz"))
  | ((with_reducible refine dmt_extend (ds := ?ds) ?hM ?hz ?k); (case hM => walk_at "mem"); (case hz => walk_at "sz"))
  | ((with_reducible refine dmt_insert (ds := ?ds) ?hM ?hz ?hi ?k); (case hM => walk_at "mem"); (case hz => walk_at "sz"); (case hi => omega))
  | ((with_reducible refine dmt_clear (ds := ?ds) ?hM ?k); (case hM => walk_at "mem"))
  | ((with_reducible refine dmt_join ?hz ?k); (case hz => walk_at "sz"))
  | (with_reducible refine dmt_startswith ?k)
  | ((with_reducible refine dmt_split ?hb ?ha ?k); (case hb => rfl); (case ha => walk_at "sz"))
  | ((with_reducible refine dmt_partition ?hb ?ha ?k); (case hb => rfl); (case ha => walk_at "sz"))
  | ((with_reducible refine dmt_lstripC ?ha ?k); (case ha => walk_at "sz")))
local macro_rules | `(tactic| walk_at "glob") => `(tactic| first
  | fail)
local macro_rules | `(tactic| walk_at "cell") => `(tactic| first
  | fail)
local macro_rules | `(tactic| walk_at "call") => `(tactic| first
  | fail)
local macro_rules | `(tactic| walk_at "same") => `(tactic| first
  | assumption
  | exact DL.Same.refl _ _
  | (refine DL.Same.upd ?_; walk_at "same")
  | (refine DL.Same.trans ?_ (by assumption); walk_at "same"))
local macro_rules | `(tactic| walk_at "take") => `(tactic| first
  | (refine ⟨_, _, _, rfl, by assumption, by omega, by omega, by omega, ?_⟩; intro _dv _Mv _h0 _h1 _hB _hS))
local macro_rules | `(tactic| walk_at "of") => `(tactic| first
  | (refine ⟨_, _, _, rfl, by assumption, by omega, (by intro _z; cases _z), Nat.le_of_ble_eq_true rfl, ?_⟩; intro _dv _Mv _hd _hB _hS))
local macro_rules | `(tactic| walk_at "bag") => `(tactic| first
  | (refine ⟨_, rfl, by assumption, by assumption, ?_⟩; intro _p _Mv _hp _hB _hS))
local macro_rules | `(tactic| walk_at "names") => `(tactic| first
  | (refine ⟨_, 1, _, rfl, by assumption, by omega, by decide, ?_⟩; intro _xs _Mv _hl _hnd _hnm _hB _hS)
  | (refine ⟨_, _, _, rfl, by assumption, by omega, by omega, ?_⟩; intro _xs _Mv _hl _hnd _hnm _hB _hS))
local macro_rules | `(tactic| walk_at "spec") => `(tactic| first
  | fail)
local macro_rules | `(tactic| walk_at "sp") => `(tactic| first
  | ((with_reducible show S_take _ _ _ _); walk_at "take"))
local macro_rules | `(tactic| walk_at "t") => `(tactic| first
  | (with_reducible refine dt_not ?_)
  | ((with_reducible refine dt_cmp ?k ?m); (case m => first | rfl | exact nomark _))
  | (with_reducible refine dt_w (dw_and ?_))
  | (with_reducible refine dt_w (dw_or ?_))
  | ((with_reducible refine dt_chain ?k ?m); (case m => with_unfolding_all rfl))
  | ((with_reducible refine dt_val ?k ?h); (case h => intro _; rfl)))
local macro_rules | `(tactic| walk_at "w") => `(tactic| first
  | (with_reducible refine dw_and ?_)
  | (with_reducible refine dw_or ?_)
  | (with_reducible refine dw_and1 ?_)
  | (with_reducible refine dw_or1 ?_))
local macro_rules | `(tactic| walk_at "s") => `(tactic| first
  | (with_reducible refine ds_ret ?_)
  | (with_reducible refine ds_if ?_)
  | ((with_reducible show DS _ _ (Stmt.Assign [Expr.Name _ _] _ _) _ _ _); first | walk_at "setc" | walk_at "set")
  | ((with_reducible show DS _ _ (Stmt.Assign [Expr.Tuple _ _ _] (Expr.Tuple _ _ _) _) _ _ _); walk_at "par")
  | ((with_reducible show DS _ _ (Stmt.Assign [Expr.Tuple _ _ _] _ _) _ _ _); refine ds_asg ?_)
  | ((with_reducible show DS _ _ (Stmt.Assign [Expr.Subscript _ _ _] _ _) _ _ _); first | walk_at "dput" | refine ds_asg ?_)
  | ((with_reducible show DS _ _ (Stmt.Assign [Expr.Attribute _ _ _] _ _) _ _ _); refine ds_fld ?_)
  | ((with_reducible show DS _ _ (Stmt.Expr _ _) _ _ _); refine ds_expr ?_)
  | (with_reducible refine ds_pass ?_)
  | (with_reducible refine ds_break ?_)
  | (with_reducible refine ds_continue ?_)
  | (with_reducible refine ds_retN ?_))
local macro_rules | `(tactic| walk_at "one") => `(tactic| first
  | ((with_reducible show DE _ _ _ _ _ _); walk_at "e")
  | ((with_reducible show DT _ _ _ _ _ _); walk_at "t")
  | ((with_reducible show DOp _ _ _ _ _ _ _); first | walk_at "op" | walk_at "own")
  | ((with_reducible show DA _ _ _ _ _ _); first | (with_reducible refine da_nil ?_) | ((with_reducible show DA _ _ (Expr.Starred _ _ :: _) _ _ _); refine da_star ?_) | (refine da_cons ?_))
  | ((with_reducible show DCl _ _ _ _ _ _); first | walk_at "cl" | walk_at "own")
  | ((with_reducible show DIx _ _ _ _ _ _); walk_at "ix")
  | ((with_reducible show (_ = true → _) ∧ (_ = false → _)); walk_at "br")
  | ((with_reducible show DS _ _ _ _ _ _); walk_at "s")
  | ((with_reducible show DSs _ _ _ _ _ _); first | (with_reducible refine dss_cons ?_) | (with_reducible refine dss_nil ?_))
  | ((with_reducible show DG _ _ _ _ _ _ _ _); first | walk_at "tgtc" | walk_at "tgt" | ((with_reducible show DG _ _ _ (Expr.Tuple _ _ _) (Dat.tup _) _ _ _); refine dg_tup rfl rfl ?_) | ((with_reducible show DG _ _ _ (Expr.Subscript _ _ _) _ _ _ _); refine dg_sub ?_))
  | ((with_reducible show DGs _ _ _ _ _ _ _ _); first | (with_reducible refine dgs_nil ?_) | refine dgs_cons ?_)
  | ((with_reducible show DW _ _ _ _ _ _); walk_at "w")
  | ((with_reducible show DO _ _ _ _ _ _); first | (with_reducible refine do_some ?_) | (with_reducible refine do_none ?_))
  | ((with_reducible show DSl _ _ _ _ _ _ _); walk_at "sl")
  | ((with_reducible show DUn _ _ _ _ _ _); first | (with_reducible refine dun_neg ?_) | walk_at "own")
  | ((with_reducible show DKw _ _ _ _ _ _); first | (with_reducible refine dk_cons ?_) | (with_reducible refine dk_nil ?_))
  | ((with_reducible show S_take _ _ _ _); walk_at "take")
  | ((with_reducible show S_of _ _ _ _); walk_at "of")
  | ((with_reducible show S_bag _ _ _ _); walk_at "bag")
  | ((with_reducible show S_names _ _ _ _); walk_at "names")
  | ((with_reducible show DMt _ _ _ _ _ _ _); walk_at "dmt")
  | ((with_reducible show DMC _ _ _ _ _ _ _ _ _); walk_at "dmc")
  | ((with_reducible show DAt _ _ _ _ _); first | walk_at "dat0" | walk_at "dat")
  | ((with_reducible show DJ _ _ _ _ _ _ _); first | (with_reducible refine dj_cons ?_) | (with_reducible refine dj_nil ?_))
  | ((with_reducible show _ ∨ ∃ _, _ = Dat.int _ ∧ IB _ _ ∧ _); first | refine Or.inl ⟨_, rfl, by walk_at "slen", ?_⟩ | refine Or.inr ⟨_, rfl, by walk_at "ib", ?_⟩)
  | ((with_reducible show ∃ _, starD _ _ _ ∧ _); first | refine ⟨_, Or.inl rfl, ?_⟩ | refine ⟨_, Or.inr (Or.inl rfl), ?_⟩ | refine ⟨_, Or.inr (Or.inr ⟨_, rfl, by walk_at "mem"⟩), ?_⟩)
  | ((with_reducible show Str.length _ ≤ _ ∧ _); refine And.intro (by walk_at "slen") ?_)
  | ((with_reducible show ∃ _ _ _, DctAt _ _ _ _ ∧ _); first | refine ⟨_, _, _, Or.inl rfl, keyD_s, ?_⟩ | refine ⟨_, _, _, Or.inl rfl, keyD_i, ?_⟩ | refine ⟨_, _, _, Or.inr ⟨_, rfl, by walk_at "mem"⟩, keyD_s, ?_⟩ | refine ⟨_, _, _, Or.inr ⟨_, rfl, by walk_at "mem"⟩, keyD_i, ?_⟩)
  | ((with_reducible show DMC0 _ _ _ _ _ _ _ _); walk_at "dmc")
  | ((with_reducible show TyD _ _ _ _ ∧ _); refine And.intro (by first | exact rfl | exact Or.inl ⟨_, by walk_at "mem", rfl⟩) ?_)
  | ((with_reducible show List.length _ ≤ _ ∧ _); refine And.intro (by walk_at "sz") ?_)
  | ((with_reducible refine ⟨_, ?ds, _, ?j, rfl, rfl, ?hM, ?hj, ?_⟩); (case hM => walk_at "mem"); (case hj => rfl))
  | ((with_reducible show ∃ _, isiD _ _ = _ ∧ _); walk_at "isi")
  | ((with_reducible show ∃ _ _ _ _, _ = Dat.ptr _ ∧ _ = some (MO.obj _ _ _) ∧ _); refine ⟨_, _, _, _, rfl, by walk_at "mem", by assumption, by assumption, Nat.le_of_ble_eq_true rfl, ?_⟩)
  | ((with_reducible show ∃ _ _ _, Ins _ _ _ _ _ ∧ _); first | refine ⟨_, _, _, Or.inl rfl, by assumption, by assumption, _, rfl, ?_⟩ | refine ⟨_, _, _, Or.inr ⟨_, rfl, by walk_at "mem"⟩, by assumption, by assumption, _, rfl, ?_⟩)
  | ((with_reducible show ∃ _, isiL _ _ = _ ∧ _); walk_at "isi")
  | ((with_reducible show ∃ _, _ = List.map Dat.ty _ ∧ _); walk_at "isn")
  | ((with_reducible show ∃ _ _, [_, _] = [_, _] ∧ _); refine ⟨_, _, rfl, ?_⟩)
  | ((with_reducible show ∃ _ _ _, [_, _, _] = [_, _, _] ∧ _); refine ⟨_, _, _, rfl, ?_⟩)
  | ((with_reducible show ∀ _ : Addr, _ = none → _); intro _p _hp)
  | ((with_reducible show ∃ _ _, _ = sqD _ _ ∧ _); first | refine ⟨_, _, rfl, ?_⟩ | refine ⟨true, _, rfl, ?_⟩ | refine ⟨false, _, rfl, ?_⟩)
  | ((with_reducible show ∃ _ _ _ _, [_, _] = [sqD _ _, sqD _ _] ∧ _); first | refine ⟨_, _, _, _, rfl, ?_⟩ | refine ⟨true, _, _, _, rfl, ?_⟩ | refine ⟨true, true, _, _, rfl, ?_⟩ | refine ⟨true, false, _, _, rfl, ?_⟩ | refine ⟨false, true, _, _, rfl, ?_⟩ | refine ⟨false, false, _, _, rfl, ?_⟩)
  | ((with_reducible show ∃ _, _ = _ ∧ _); refine ⟨_, rfl, ?_⟩)
  | ((with_reducible show List.length _ = List.length _ ∧ _); refine And.intro rfl ?_)
  | ((with_reducible show Dat.ptr _ = Dat.ptr _ ∧ _); refine ⟨rfl, ?_⟩)
  | ((with_reducible show _ ≤ List.length _ ∧ List.length _ ≤ _ ∧ List.length _ = _ ∧ _); refine ⟨Nat.le_of_ble_eq_true rfl, Nat.le_of_ble_eq_true rfl, rfl, ?_⟩)
  | ((with_reducible show _ ≤ List.length _ ∧ List.length _ ≤ _ ∧ _); refine ⟨Nat.le_of_ble_eq_true rfl, Nat.le_of_ble_eq_true rfl, ?_⟩)
  | walk_at "spec")

namespace DL
open PySem PySem.Spec PyProof.Rows L2
def atL : List Str := ["InvalidJob", "InvalidTerm", "InvalidText", "InvalidDeed"]
def nameL : List Str := ["Ring", "DuplicateName", "NotReady", "UnknownName"]
def noneL : List Str := ["ZeroBottom", "InvalidValues", "NoTerms", "JobsDiffer", "NothingFits", "NotSure", "NothingLeft"]
/-- the attribute of an error beside its code -/
def attrOf (c : Str) : Option Str := if c ∈ atL then some "at" else if c ∈ nameL then some "name" else if c = "InvalidPage" then some "line" else if c = "TooMany" then some "limit" else if c ∈ noneL then none else some "given"
/-- what _law_fields makes of an exception -/
def S_lfields (K : PySem.W.Frag) : Exn → Dat → Prop := fun e r => XfC K e.C ∧ PySem.W.findIn K (.ref e.C) "code" = some none ∧ ∃ c, (e.ns.zip e.ds).lookup ("code" : Str) = some (.str c) ∧ c.length ≤ 100000 ∧ match attrOf c with
  | some a => PySem.W.findIn K (.ref e.C) a = some none ∧ ∃ d, (e.ns.zip e.ds).lookup a = some d ∧ r = .tup [d]
  | none => r = .tup []
section
variable {X : Cx} {F0 : Hp} {ρ : DEnv} {M : Mem} {a : Addr} {e : Exn} {r : Dat} {p1 p2 p3 p4 p5 p6 p7 p8 p9 p10 p11 p12 p13 p14 p15 p16 p17 p18 p19 p20 p21 p22 p23 p24 p25 p26 p27 p28 p29 p30 p31 p32 p33 p34 p35 p36 p37 p38 p39 p40 p41 p42 p43 p44 p45 p46 p47 p48 p49 p50 p51 p52 p53 p54 p55 p56 p57 p58 p59 p60 p61 p62 : Pos} {j1 j2 j3 j4 j5 j6 j7 j8 j9 j10 j11 j12 j13 j14 j15 j16 j17 j18 j19 j20 j21 j22 j23 : Nat}
theorem dop_inStr {X : Cx} {F0 : Hp} {M : Mem} {q : DK} {c : Str} (ys : List Str) {ds : List Dat} (e : ds = ys.map Dat.str) (h : q (.bl (decide (c ∈ ys))) M) : DOp X F0 (compareOp .In) (.str c) (.lst ds) M q := by
  subst e
  refine dop_inL rfl (List.all_eq_true.mpr fun d hd => ?_) ?_
  · obtain ⟨y, _, rfl⟩ := List.mem_map.mp hd
    rfl
  · rw [inD_str]
    exact h
local macro_rules | `(tactic| walk_at "e") => `(tactic| first
  | ((with_reducible show DE _ _ (Expr.Attribute _ _ _) _ _ _); refine de_xattr (by assumption) (by assumption) (by assumption) (by assumption) ?_))
local macro_rules | `(tactic| walk_at "op") => `(tactic| first
  | refine dop_inStr atL rfl ?_
  | refine dop_inStr nameL rfl ?_
  | refine dop_inStr noneL rfl ?_)
local macro_rules | `(tactic| walk_at "one") => `(tactic| first
  | ((with_reducible show _ = _ ∧ _); refine ⟨rfl, ?_⟩))
local macro_rules | `(tactic| walk_at "var") => `(tactic| refine de_var (i := 0) (by assumption) (by assumption) (by assumption) ?_)
abbrev fieldsB (p1 p2 p3 p4 p5 p6 p7 p8 p9 p10 p11 p12 p13 p14 p15 p16 p17 p18 p19 p20 p21 p22 p23 p24 p25 p26 p27 p28 p29 p30 p31 p32 p33 p34 p35 p36 p37 p38 p39 p40 p41 p42 p43 p44 p45 p46 p47 p48 p49 p50 p51 p52 p53 p54 p55 p56 p57 p58 p59 p60 p61 p62 : Pos) (j1 j2 j3 j4 j5 j6 j7 j8 j9 j10 j11 j12 j13 j14 j15 j16 j17 j18 j19 j20 j21 j22 j23 : Nat) : List Stmt := [.If (.Compare (.Attribute (.Name "_law_e" p1) "code" p2) [.In] [(.List [(.Constant (.str "InvalidJob") j1 p3), (.Constant (.str "InvalidTerm") j2 p4), (.Constant (.str "InvalidText") j3 p5), (.Constant (.str "InvalidDeed") j4 p6)] p7)] p8) [.Return (some (.Tuple [(.Attribute (.Name "_law_e" p9) "at" p10)] j5 p11)) p12] [] p13, .If (.Compare (.Attribute (.Name "_law_e" p14) "code" p15) [.In] [(.List [(.Constant (.str "Ring") j6 p16), (.Constant (.str "DuplicateName") j7 p17), (.Constant (.str "NotReady") j8 p18), (.Constant (.str "UnknownName") j9 p19)] p20)] p21) [.Return (some (.Tuple [(.Attribute (.Name "_law_e" p22) "name" p23)] j10 p24)) p25] [] p26, .If (.Compare (.Attribute (.Name "_law_e" p27) "code" p28) [.Eq] [(.Constant (.str "InvalidPage") j11 p29)] p30) [.Return (some (.Tuple [(.Attribute (.Name "_law_e" p31) "line" p32)] j12 p33)) p34] [] p35, .If (.Compare (.Attribute (.Name "_law_e" p36) "code" p37) [.Eq] [(.Constant (.str "TooMany") j13 p38)] p39) [.Return (some (.Tuple [(.Attribute (.Name "_law_e" p40) "limit" p41)] j14 p42)) p43] [] p44, .If (.Compare (.Attribute (.Name "_law_e" p45) "code" p46) [.In] [(.List [(.Constant (.str "ZeroBottom") j15 p47), (.Constant (.str "InvalidValues") j16 p48), (.Constant (.str "NoTerms") j17 p49), (.Constant (.str "JobsDiffer") j18 p50), (.Constant (.str "NothingFits") j19 p51), (.Constant (.str "NotSure") j20 p52), (.Constant (.str "NothingLeft") j21 p53)] p54)] p55) [.Return (some (.Tuple [] j22 p56)) p57] [] p58, .Return (some (.Tuple [(.Attribute (.Name "_law_e" p59) "given" p60)] j23 p61)) p62]
theorem fields_dss (h0 : X.N[0]? = some ("_law_e" : Str)) (hv : Vis X.env.scope ("_law_e" : Str)) (ha : ρ[0]? = some (some (.ptr a))) (hh : Held X.K F0 X.pn a e) (hS : S_lfields X.K e r) :
    DSs X F0 (fieldsB p1 p2 p3 p4 p5 p6 p7 p8 p9 p10 p11 p12 p13 p14 p15 p16 p17 p18 p19 p20 p21 p22 p23 p24 p25 p26 p27 p28 p29 p30 p31 p32 p33 p34 p35 p36 p37 p38 p39 p40 p41 p42 p43 p44 p45 p46 p47 p48 p49 p50 p51 p52 p53 p54 p55 p56 p57 p58 p59 p60 p61 p62 j1 j2 j3 j4 j5 j6 j7 j8 j9 j10 j11 j12 j13 j14 j15 j16 j17 j18 j19 j20 j21 j22 j23) ρ M { nx := fun _ _ => False, rt := fun d M' => d = r ∧ M' = M } := by
  obtain ⟨T, hc, c, hl, hcl, hm⟩ := hS
  unfold attrOf at hm
  by_cases h1 : c ∈ atL
  · rw [if_pos h1] at hm
    obtain ⟨hno, d, hd, rfl⟩ := hm
    repeat' walk_at "one"
    all_goals rfl
  rw [if_neg h1] at hm
  by_cases h2 : c ∈ nameL
  · rw [if_pos h2] at hm
    obtain ⟨hno, d, hd, rfl⟩ := hm
    repeat' walk_at "one"
    all_goals rfl
  rw [if_neg h2] at hm
  by_cases h3 : c = "InvalidPage"
  · rw [if_pos h3] at hm
    obtain ⟨hno, d, hd, rfl⟩ := hm
    repeat' walk_at "one"
    all_goals rfl
  rw [if_neg h3] at hm
  by_cases h4 : c = "TooMany"
  · rw [if_pos h4] at hm
    obtain ⟨hno, d, hd, rfl⟩ := hm
    repeat' walk_at "one"
    all_goals rfl
  rw [if_neg h4] at hm
  by_cases h5 : c ∈ noneL
  · rw [if_pos h5] at hm
    obtain rfl := hm
    repeat' walk_at "one"
    all_goals rfl
  · rw [if_neg h5] at hm
    obtain ⟨hno, d, hd, rfl⟩ := hm
    repeat' walk_at "one"
    all_goals rfl
end
/-! ### _law_why -/
def okWhy : Dat := .tup [.str "", .tup []]
def SubM (M M' : Mem) : Prop := ∀ p u, M p = some u → M' p = some u
theorem SubM.refl (M : Mem) : SubM M M := fun _ _ h => h
theorem SubM.trans {M M1 M2 : Mem} (a : SubM M M1) (b : SubM M1 M2) : SubM M M2 := fun p u h => b p u (a p u h)
theorem dss_sub {X : Cx} {F0 : Hp} {ρ : DEnv} {M M' : Mem} {D : DEnds} {sts : List Stmt} (s : SubM M M') (h : DSs X F0 sts ρ M D) : DSs X F0 sts ρ M' D := PSs.wk h fun E σ H ⟨F, om, ol, k⟩ => ⟨F, om.weak s, ol, k⟩
theorem de_sub {X : Cx} {F0 : Hp} {ρ : DEnv} {M M' : Mem} {q : DK} {e : Expr} (s : SubM M M') (h : DE X F0 e ρ M q) : DE X F0 e ρ M' q := PE.wk h fun σ H Q ⟨F, om, ol, k⟩ => ⟨F, om.weak s, ol, k⟩
/-- what _law_why makes of an exception; cs: the classes of its clause -/
def WhyOf (K : PySem.W.Frag) (cs : List Value) (e : Exn) (r : Dat) : Prop := PySem.W.exmAny K (.ref e.C) cs = some true ∧ ∃ c fr, (e.ns.zip e.ds).lookup ("code" : Str) = some (.str c) ∧ S_lfields K e fr ∧ r = .tup [.str c, fr]
/-- the lambda l, called in M, shows r -/
def LamR (P : Program) (w : World) (K : PySem.W.Frag) (mg : Str → Option Value) (base : Heap) (k : Nat) (cs : List Value) (l : Dat) (M : Mem) (r : Dat) : Prop :=
  ∃ cl qn pa b sc, l = .lam cl qn pa b sc ∧ ∀ M1, SubM M M1 → LamRun P w K mg base k cl qn pa b sc M1 (fun _ M' => SubM M1 M' ∧ r = okWhy) (fun e M' => SubM M1 M' ∧ WhyOf K cs e r)
theorem LamR.mono {P : Program} {w : World} {K : PySem.W.Frag} {mg : Str → Option Value} {base : Heap} {k : Nat} {cs : List Value} {l r : Dat} {M M' : Mem} (h : LamR P w K mg base k cs l M r) (s : SubM M M') : LamR P w K mg base k cs l M' r := by
  obtain ⟨cl, qn, pa, b, sc, e, h⟩ := h
  exact ⟨cl, qn, pa, b, sc, e, fun M1 h1 => h M1 (s.trans h1)⟩
def S_lwhy (P : Program) (w : World) (K : PySem.W.Frag) (mg : Str → Option Value) (base : Heap) (k : Nat) (cs : List Value) : DSpec := fun ds M q _ => ∃ l r, ds = [l] ∧ LamR P w K mg base k cs l M r ∧ q r M
def S_lwhys (P : Program) (w : World) (K : PySem.W.Frag) (mg : Str → Option Value) (base : Heap) (k : Nat) (cs : List Value) : DSpec := fun ds M q _ => ∃ ls rs, ds = [.lst ls] ∧ ls.length ≤ 1000 ∧ Paired (fun l r => LamR P w K mg base k cs l M r) ls rs ∧ q (.lst rs) M
section
variable {X : Cx} {F0 : Hp} {M : Mem} {l r : Dat} {k k' : Nat} {cs : List Value} {c1 c2 c3 : Value} {f : Addr} {p1 p2 p3 p4 p5 p6 p7 p8 p9 p10 p11 p12 p13 p14 p15 p16 p17 p18 p19 p20 : Pos} {j1 j2 j3 j4 j5 : Nat} {D : DEnds}
abbrev whyB (p1 p2 p3 p4 p5 p6 p7 p8 p9 p10 p11 p12 p13 p14 p15 p16 p17 p18 p19 p20 : Pos) (j1 j2 j3 j4 j5 : Nat) : List Stmt := [.Try [.Expr (.Call (.Name "_law_ask" p1) [] [] p2) p3] [.ExceptHandler (some (.Tuple [(.Name "ShareError" p4), (.Name "Missing" p5), (.Name "NothingLeft" p6)] j1 p7)) (some "_law_e") [.Return (some (.Tuple [(.Attribute (.Name "_law_e" p8) "code" p9), (.Call (.Name "_law_fields" p10) [(.Name "_law_e" p11)] [] p12)] j2 p13)) p14] p15] [] [] p16, .Return (some (.Tuple [(.Constant (.str "") j3 p17), (.Tuple [] j4 p18)] j5 p19)) p20]
theorem why_dss (hN : X.N = (["_law_ask", "_law_e"] : List Str)) (hv : Vis X.env.scope "_law_ask") (hs : X.stack = X.env :: X.outer) (hf : X.env.frame = some X.env.locals) (hln : X.env.kindOf ("_law_e" : Str) = some .local) (n1 : Names X "ShareError" c1) (n2 : Names X "Missing" c2) (n3 : Names X "NothingLeft" c3)
    (hr : Room k' X.A) (hgd : X.A.guards = some []) (hk : k ≤ k') (hk1 : 1 ≤ k') (C : HotFn X.prog X.w X.K X.mg X.base 1 f (S_lfields X.K)) (hg : Gl X "_law_fields") (hm : X.mg "_law_fields" = some (.ref f)) (hkp : PySem.W.keepIn X.K (.ref f) = true)
    (L : LamR X.prog X.w X.K X.mg X.base k [c1, c2, c3] l M r) (q : D.rt r M) : DSs X F0 (whyB p1 p2 p3 p4 p5 p6 p7 p8 p9 p10 p11 p12 p13 p14 p15 p16 p17 p18 p19 p20 j1 j2 j3 j4 j5) [some l, none] M D := by
  obtain ⟨cl, qn, pa, b, sc, rfl, L⟩ := L
  have L := L M (SubM.refl M)
  have nd : X.N.Nodup := by rw [hN]; decide +kernel
  have h0 : X.N[0]? = some ("_law_ask" : Str) := by rw [hN]; rfl
  have h1 : X.N[1]? = some ("_law_e" : Str) := by rw [hN]; rfl
  have hve : Vis X.env.scope "_law_e" := .inl hln
  refine dss_cons (ds_tryT (i := 1) (xq := fun e M' => SubM M M' ∧ WhyOf X.K [c1, c2, c3] e r) hs hf nd h1 hln n1 n2 n3 (fun F1 pn xe tk => ?_) (fun e M' h => h.2.1) (fun a oe pn e M' F1 hx hh => ?_))
  · have z : DE (X.tr pn xe) F1 (.Call (.Name "_law_ask" p1) [] [] p2) [some (.lam cl qn pa b sc), none] M fun _ M' => SubM M M' ∧ r = okWhy := de_lamcall (X := X.tr pn xe) (i := 0) L h0 hv rfl hr hgd hk tk
    refine dss_cons (ds_expr (PE.wk z fun σ H Q ⟨F, om, ol, kq⟩ => ⟨F, om, ol, fun F' H' v d M' e' o' r' hq => kq F' H' v d M' e' o' r' ?_⟩))
    obtain ⟨sub, rfl⟩ := hq
    refine dss_nil (dss_sub sub ?_)
    refine dss_cons (ds_ret ?_)
    refine de_tup (da_cons (de_str (da_cons (de_tup (da_nil ⟨by decide, da_nil ⟨by decide, q⟩⟩)))))
  · obtain ⟨sub, _, c, fr, hl, hS, hr'⟩ := hx
    have hd : ((X.N.map fun _ => (none : Option Dat)).set 1 (some (.ptr a)))[1]? = some (some (.ptr a)) := by rw [hN]; rfl
    obtain ⟨T, hno, _⟩ := id hS
    refine dss_sub sub (dss_cons (ds_ret (de_tup (da_cons (de_xattr T hno hh hl (de_var (i := 1) h1 hve hd ⟨rfl, da_cons (de_hot (X := X.suite a ((a, oe) :: pn)) C hg hm hkp (show L2H.RoomH k' (X.suite a ((a, oe) :: pn)).A from ⟨hr.dp, hr.un⟩) hk1 hgd hh hS (de_var (i := 1) h1 hve hd ⟨rfl, da_nil ⟨(by show 2 ≤ 100000; decide), ?_⟩⟩))⟩))))))
    rw [← hr']
    exact q
end
/-! ### comprehensions whose items are told by a relation -/
section
variable {X : Cx} {F0 : Hp} {scope : Scope} {own : List (Str × Nat)} {tg elt : Expr} {ρ : DEnv} {ds : List Dat} {M1 : Mem} {q : Addr → List Dat → Mem → Prop}
theorem lck_mapR (rs : List Dat) (R : Dat → Dat → Prop) (h1 : ds.length ≤ 100000) (hp : Paired R ds rs) (h2 : ∀ d y, R d y → ∀ M', ExM M1 M' → CpE X F0 scope own tg elt ρ d M' fun q2 => q2 y M') (h3 : ∀ D, M1 D = none → q D rs (updM M1 D (.lst rs))) : LcK X F0 scope own tg [] elt ρ q ds M1 := by
  refine ⟨h1, fun D hD => ?_⟩
  have main : ∀ {r ys : List Dat}, Paired R r ys → ∀ acc : List Dat, acc ++ ys = rs → DCp X F0 scope (own.map (·.2)) tg [] elt (wipeD ρ (own.map (·.2))) D (q D) r acc (updM M1 D (.lst acc)) := by
    intro r ys hp
    induction hp with
    | nil =>
      intro acc e
      rw [List.append_nil] at e
      subst e
      exact h3 D hD
    | cons hd hp ih =>
      rename_i d y r ys
      intro acc e
      intro s H C cl fp
      refine PG.imp (h2 d y hd _ (ExM.upd hD) s H C cl fp) fun ρ2 M2 ⟨hm, hb⟩ => ?_
      subst hm
      refine fun s H C cl fp => dts_nil ⟨fun _ => fun s H C cl fp => hb s H C cl fp _ ⟨updM_same, by
        rw [updM_updM]
        exact ih (acc ++ [y]) (by rw [List.append_assoc]; exact e)⟩, fun z => by cases z⟩
  exact main hp [] (List.nil_append _)

end
end DL
/-! DX11: bits for the printed texts -/
namespace DL
open PySem PySem.Spec PyProof.Rows L2
theorem cellsFrom_in : ∀ (names : List (Str × NameKind)) (n : Nat) (acc : List (Str × Addr)) {x : Str} {c : Addr}, (cellsFrom n names acc).lookup x = some c → (x, NameKind.cell) ∈ names ∨ acc.lookup x = some c
  | [], _, _, _, _, h => .inr h
  | (y, k) :: r, n, acc, x, c, h => by
    unfold cellsFrom at h
    by_cases hk : (k == NameKind.cell) = true
    · rw [if_pos hk] at h
      have hk' : k = .cell := by simpa using hk
      subst hk'
      rcases cellsFrom_in r (n + 1) ((y, n) :: acc) h with h1 | h1
      · exact .inl (List.mem_cons_of_mem _ h1)
      · rw [List.lookup_cons] at h1
        cases e : x == y with
        | true =>
          have e' : x = y := by simpa using e
          subst e'
          exact .inl List.mem_cons_self
        | false =>
          rw [e] at h1
          exact .inr h1
    · rw [if_neg hk] at h
      rcases cellsFrom_in r n acc h with h1 | h1
      · exact .inl (List.mem_cons_of_mem _ h1)
      · exact .inr h1
theorem lookup_nodup {α : Type} : ∀ {l : List (Str × α)} {x : Str} {v : α}, (l.map (·.1)).Nodup → (x, v) ∈ l → l.lookup x = some v
  | (y, w) :: r, x, v, nd, h => by
    rw [List.lookup_cons]
    rw [List.map_cons, List.nodup_cons] at nd
    rcases List.mem_cons.mp h with e | h
    · cases e
      rw [beq_self_eq_true]
    · have ne : x ≠ y := fun e => nd.1 (List.mem_map.mpr ⟨(x, v), h, e⟩)
      rw [show (x == y) = false from beq_false_of_ne ne]
      exact lookup_nodup nd.2 h
theorem cells_cell {names : List (Str × NameKind)} {n : Nat} (nd : (names.map (·.1)).Nodup) {x : Str} {c : Addr} (h : (cellsFrom n names []).lookup x = some c) : names.lookup x = some .cell := by
  rcases cellsFrom_in names n [] h with h | h
  · exact lookup_nodup nd h
  · cases h
/-- the def that is handed a caught exception -/
structure CalH (P : Program) (w : World) (K : PySem.W.Frag) (mg : Str → Option Value) (base : Heap) (x : Str) (k : Nat) (f : Addr) (S : Exn → Dat → Prop) : Prop where
  at_ : mg x = some (.ref f)
  kp : PySem.W.keepIn K (.ref f) = true
  ok : HotFn P w K mg base k f S
/-- an own exception class, as the clause of _law_why sees it -/
structure XcA (K : PySem.W.Frag) (cs : List Value) (C : Addr) : Prop where
  ex : PySem.W.exmAny K (.ref C) cs = some true
  xf : XfC K C
  cd : PySem.W.findIn K (.ref C) "code" = some none
theorem why1 {K : PySem.W.Frag} {cs : List Value} {C : Addr} {attr code : Str} {d : Dat} (T : XcA K cs C) (ha : PySem.W.findIn K (.ref C) attr = some none) (hc : attrOf code = some attr) (hn : attr ≠ "code") (hl : code.length ≤ 100000) : WhyOf K cs ⟨C, [attr, "code"], [d, .str code]⟩ (.tup [.str code, .tup [d]]) := by
  have l1 : (([attr, "code"] : List Str).zip [d, .str code]).lookup ("code" : Str) = some (.str code) := by
    show List.lookup ("code" : Str) [(attr, d), ("code", .str code)] = _
    rw [List.lookup_cons, show ((("code" : Str)) == attr) = false from beq_false_of_ne (Ne.symm hn), List.lookup_cons, show (("code" : Str) == "code") = true from beq_self_eq_true _]
  have l2 : (([attr, "code"] : List Str).zip [d, .str code]).lookup attr = some d := by
    show List.lookup attr [(attr, d), ("code", .str code)] = _
    rw [List.lookup_cons, show (attr == attr) = true from beq_self_eq_true _]
  refine ⟨T.ex, code, .tup [d], l1, ⟨T.xf, T.cd, code, l1, hl, ?_⟩, rfl⟩
  rw [hc]
  exact ⟨ha, d, l2, rfl⟩
theorem why0 {K : PySem.W.Frag} {cs : List Value} {C : Addr} {code : Str} (T : XcA K cs C) (hc : attrOf code = none) (hl : code.length ≤ 100000) : WhyOf K cs ⟨C, ["code"], [.str code]⟩ (.tup [.str code, .tup []]) := by
  have l1 : ((["code"] : List Str).zip [Dat.str code]).lookup ("code" : Str) = some (.str code) := by
    show List.lookup ("code" : Str) [("code", Dat.str code)] = _
    rw [List.lookup_cons, show (("code" : Str) == "code") = true from beq_self_eq_true _]
  refine ⟨T.ex, code, .tup [], l1, ⟨T.xf, T.cd, code, l1, hl, ?_⟩, rfl⟩
  rw [hc]
/-- a lambda of a def, told by its body -/
theorem lamR_law {X : Cx} {ρ : DEnv} {M : Mem} {L : Cells} {sc : Scope} {pa : Arguments} {b : Expr} {k : Nat} {r : Dat} {cs : List Value} (ps : List Str) (lx : LoanX X ρ M L) (S : lamScB sc ps = true) (O : outB X.env.scope.names sc.names = true) (hc : capB sc.names X.N ρ = true) (hl : ρ.length = X.N.length)
    (bind0 : pa.args.length = 0 → ∀ q cl pm cdv ct, bindArgs (lamFn cl q pa b sc pm cdv ct .none) ⟨[], []⟩ = pure [])
    (bind1 : pa.args.length ≠ 0 → ∀ q cl (T : Addr) (pm cdv ct : Value) (its : List Value), its.length = pa.args.length → ∃ k, bindArgs (lamFn cl q pa b sc pm cdv ct (.ref T)) ⟨[], []⟩ = seqItems? (.ref T) >>= k ∧ k (some its.toArray) = pure (ps.zip its))
    (walk : ∀ M2, SubM M M2 → ∀ (A : Around) (outer : List PySem.Env) (s : Shared) (H : Hp) (E : XK) (F0 : Hp) (f c : Addr), Room k (lamZ X.prog X.w X.K X.mg X.base X.N (X.env.qual ++ "<lambda>") sc f c (cloFrom X.env.cells sc.names []) A outer s H E).A → (lamZ X.prog X.w X.K X.mg X.base X.N (X.env.qual ++ "<lambda>") sc f c (cloFrom X.env.cells sc.names []) A outer s H E).A.guards = some [] →
      XOk (lamZ X.prog X.w X.K X.mg X.base X.N (X.env.qual ++ "<lambda>") sc f c (cloFrom X.env.cells sc.names []) A outer s H E) F0 (fun e M' => SubM M2 M' ∧ WhyOf X.K cs e r) →
      DE (lamZ X.prog X.w X.K X.mg X.base X.N (X.env.qual ++ "<lambda>") sc f c (cloFrom X.env.cells sc.names []) A outer s H E) F0 b (maskD sc.names X.N ρ) M2 fun _ M' => SubM M2 M' ∧ r = okWhy) :
    LamR X.prog X.w X.K X.mg X.base (k + 1) cs (lamOf X pa b sc) (addM M L) r := by
  refine ⟨_, _, _, _, _, rfl, fun M1 h1 => ?_⟩
  obtain ⟨M2, hM2, rfl, hs⟩ : ∃ M2, (∀ c p, L c = some p → M2 c = none) ∧ M1 = addM M2 L ∧ SubM M M2 := by
    refine ⟨fun b => match L b with | some _ => none | none => M1 b, fun c p e => by simp only [e], funext fun b => ?_, fun p u hp => ?_⟩
    · cases e : L b with
      | none => rw [addM_out e]; simp only [e]
      | some q => rw [addM_in e]; exact h1 b _ (addM_in e)
    · have e : L p = none := out_of (q := fun c => M c = some u) (fun c q z w => by rw [lx.free c q z] at w; cases w) hp
      simp only [e]
      exact h1 p u (by rw [addM_out e]; exact hp)
  have up : ∀ M', SubM M2 M' → SubM (addM M2 L) (addM M' L) := fun M' h p u hp => by
    cases e : L p with
    | none => rw [addM_out e] at hp ⊢; exact h p u hp
    | some q => rw [addM_in e] at hp ⊢; exact hp
  exact lamR_of (ps := ps) ⟨lx.cov, lx.inj, lx.has, hM2⟩ S O hc hl bind0 bind1 fun A outer s H E F0 f c Z _ hr hg tk => PE.wk (walk M2 hs A outer s H E F0 f c hr hg (tk.imp fun e M' h => ⟨up M' h.1, h.2⟩)) fun σ H Q ⟨F, om, ol, kq⟩ => ⟨F, om, ol, fun F' H' v d M' e' o' r' hq => kq F' H' v d M' e' o' r' ⟨up M' hq.1, hq.2⟩⟩
theorem lamR_args {X : Cx} {ρ : DEnv} {M : Mem} {L : Cells} {sc : Scope} {pa : Arguments} {b : Expr} {k : Nat} {r : Dat} {cs : List Value} (lx : LoanX X ρ M L) (S : lamScB sc (pa.args.map (·.arg)) = true) (O : outB X.env.scope.names sc.names = true) (hc : capB sc.names X.N ρ = true) (hl : ρ.length = X.N.length)
    (bind0 : pa.args.length = 0 → ∀ q cl pm cdv ct, bindArgs (lamFn cl q pa b sc pm cdv ct .none) ⟨[], []⟩ = pure [])
    (bind1 : pa.args.length ≠ 0 → ∀ q cl (T : Addr) (pm cdv ct : Value) (its : List Value), its.length = pa.args.length → ∃ k, bindArgs (lamFn cl q pa b sc pm cdv ct (.ref T)) ⟨[], []⟩ = seqItems? (.ref T) >>= k ∧ k (some its.toArray) = pure ((pa.args.map (·.arg)).zip its))
    (walk : ∀ M2, SubM M M2 → ∀ (A : Around) (outer : List PySem.Env) (s : Shared) (H : Hp) (E : XK) (F0 : Hp) (f c : Addr), Room k (lamZ X.prog X.w X.K X.mg X.base X.N (X.env.qual ++ "<lambda>") sc f c (cloFrom X.env.cells sc.names []) A outer s H E).A → (lamZ X.prog X.w X.K X.mg X.base X.N (X.env.qual ++ "<lambda>") sc f c (cloFrom X.env.cells sc.names []) A outer s H E).A.guards = some [] →
      XOk (lamZ X.prog X.w X.K X.mg X.base X.N (X.env.qual ++ "<lambda>") sc f c (cloFrom X.env.cells sc.names []) A outer s H E) F0 (fun e M' => SubM M2 M' ∧ WhyOf X.K cs e r) →
      DE (lamZ X.prog X.w X.K X.mg X.base X.N (X.env.qual ++ "<lambda>") sc f c (cloFrom X.env.cells sc.names []) A outer s H E) F0 b (maskD sc.names X.N ρ) M2 fun _ M' => SubM M2 M' ∧ r = okWhy) :
    LamR X.prog X.w X.K X.mg X.base (k + 1) cs (lamOf X pa b sc) (addM M L) r := lamR_law _ lx S O hc hl bind0 bind1 walk
end DL
/-! DX12: own exception classes told by facts of the head -/
namespace PySem.DX
open PySem PySem.W PySem.Calls PyProof.Rows PySem.HandSPX L2
/-- the class object -/
def xlB (K : Frag) (C : Addr) (tl : List Value) (newId initId : String) : Bool := match K.lookup C with
  | some ⟨.type "type", _, .cls cd, sl⟩ => (match cd.mro, sl.toList with
    | .ref C' :: bm, [_, _, _, _, some (.builtin n), _] => C' == C && n == newId && !cd.hasDel && cd.hasDict && refsX tl bm && decide (alongIn K "__init__" bm = some (some (.builtin initId)))
    | _, _ => false)
  | _ => false
theorem xlB_ok {K : Frag} {C : Addr} {tl : List Value} {newId initId : String} (q : xlB K C tl newId initId = true) :
    ∃ nm q N bs bm sn sub ab col dd k0 k1 k2 k3 k5, K.lookup C = some (excClassObj nm q C N bs bm true sn sub ab col dd k0 k1 k2 k3 k5 newId) ∧ refsX tl bm = true ∧ alongIn K "__init__" bm = some (some (.builtin initId)) := by
  unfold xlB at q
  split at q
  · rename_i dd cd sl ho
    split at q
    · rename_i C' bm k0 k1 k2 k3 n k5 hm hs
      simp only [Bool.and_eq_true, beq_iff_eq, Bool.not_eq_true', decide_eq_true_eq] at q
      obtain ⟨⟨⟨⟨⟨rfl, rfl⟩, hdel⟩, hdict⟩, hr⟩, ha⟩ := q
      obtain ⟨nm, bs, mro, ns, qn, hd, sn, sub, ab, col, del⟩ := cd
      dsimp only at hm hdel hdict
      subst hm hdel hdict
      have hsl : sl = #[k0, k1, k2, k3, some (.builtin n), k5] := by
        obtain ⟨l⟩ := sl
        simp only at hs
        rw [hs]
      subst hsl
      exact ⟨nm, qn, ns, bs, bm, sn, sub, ab, col, dd, k0, k1, k2, k3, k5, ho, hr, ha⟩
    · cases q
  · cases q
/-- the code object's file -/
def cdoB (K : Frag) (cda : Addr) (file : Str) : Bool := match K.lookup cda with
  | some ⟨_, _, .fields vs, _⟩ => (match (vs[2]? : Option Value) with
    | some (.str f _) => file == f
    | _ => false)
  | _ => false
theorem cdoB_ok {K : Frag} {cda : Addr} {m : Str} (q : cdoB K cda m = true) : ∃ ccl cdd vs ccs file tf, K.lookup cda = some ⟨ccl, cdd, .fields vs, ccs⟩ ∧ vs[2]? = some (.str file tf) ∧ (m == file) = true := by
  unfold cdoB at q
  split at q
  · rename_i a b vs c hk
    split at q
    · rename_i f t hv
      exact ⟨_, _, vs, _, f, t, hk, hv, q⟩
    · cases q
  · cases q
/-- the __init__'s scope -/
def xscB (sc : Scope) (ps : List Str) : Bool :=
  decide (sc.kind = .function) && !sc.isCoroutine && !sc.isGenerator && (sc.names.all fun x => !decide (x.2 = .cell)) && decide (sc.names.lookup ("super" : Str) = some .globalImplicit) && decide (sc.names.lookup ("__class__" : Str) = some .free) && decide (sc.names.lookup ("self" : Str) = some .local) &&
    ps.all fun x => decide (sc.names.lookup x = some .local) && !decide (x = "self")
section
variable {P : Program} {K : Frag} {mg : Str → Option Value} {x code attr prm : Str} {C fI cc cda : Addr} {B newId initId : String} {tl : List Value} {qual : Str} {st : Stmt} {msg : Str} {j j2 : Nat} {p0 p1 p2 p3 p4 p5 p6 p7 p8 p9 q6 q7 q8 q9 : Pos}
  {kV doc pm ct oc : Value} {an od : Option Addr} {osl csl : Array (Option Value)} {cl : Value} {cld : Option Addr} {ps : List Str}
theorem xcls_mk (xb : XB B newId initId tl) (xl : xlB K C tl newId initId = true) (xs : findIn K (.ref C) "__setattr__" = some (some (.builtin "object.__setattr__"))) (xi : findIn K (.ref C) "__init__" = some (some (.ref fI))) (xt : typeIn K (.ref fI) = some (.type "function"))
    (xe : subIn K (.ref C) (.type "BaseException") = some true) (xb2 : subIn K (.ref C) (.type B) = some true) (xy : typeIn K (.ref C) = some (.type "type")) (xk : keepIn K (.ref C) = true) (xo : mroIn K C (.ref C) = some true) (xop : nsIn K cStatics "thirdparty.any" = some none)
    (xf : K.lookup fI = some ⟨oc, od, .func (ksFn "__init__" qual (defArgs st) (defBody st) (defScope st) .none kV doc pm an (.ref cda) ct cc), osl⟩) (xc : codeIn K (.ref cda) qual = true) (xcl : K.lookup cc = some ⟨cl, cld, .cell (some (.ref C)), csl⟩) (xcd : cdoB K cda P.main.file = true)
    (top : (P.main.scope.names.lookup ("super" : Str)).isSome = false) (msu : mg "super" = none) (sc : xscB (defScope st) ps = true) (par : ∃ ar, ((defArgs st).posonlyargs ++ (defArgs st).args).head? = some ar ∧ ar.arg = "self")
    (bind : ∀ (kV doc pm : Value) (an : Option Addr) (cdv ct : Value) (cc : Addr) (s : Shared) (a : Addr) (us : List Value), us.length = ps.length → BindsTo s (ksFn "__init__" qual (defArgs st) (defBody st) (defScope st) .none kV doc pm an cdv ct cc) ⟨.ref a :: us, []⟩ (("self", .ref a) :: ps.zip us)) :
    XCls P K mg initId newId B tl C fI cc cda qual (defArgs st) (defBody st) (defScope st) ps := by
  unfold xscB at sc
  simp only [Bool.and_eq_true, Bool.not_eq_true', decide_eq_true_eq, decide_eq_false_iff_not, List.all_eq_true] at sc
  obtain ⟨⟨⟨⟨⟨⟨⟨s1, s2⟩, s3⟩, s4⟩, s5⟩, s6⟩, s7⟩, s8⟩ := sc
  exact { xb := xb, cls := xlB_ok xl, sa := xs, iC := xi, tI := xt, exC := xe, exB := xb2, tyC := xy, kC := xk, own := xo, op := xop, fn := ⟨.none, kV, doc, pm, ct, oc, an, od, osl, xf, fun s a us h => bind _ _ _ _ _ _ _ s a us h⟩, cod := xc, cel := ⟨cl, cld, csl, xcl⟩, cdo := cdoB_ok xcd, top := top, msu := msu, kind := s1, co := s2, gen := s3, nocell := s4, sSup := s5, sCls := s6, sSelf := s7, sPar := s8, par := par }
theorem xn1_mk (hm : mg x = some (.ref C)) (T : XCls P K mg initId newId B tl C fI cc cda qual (defArgs st) (defBody st) (defScope st) [prm]) (hb : defBody st = [supSt msg j p0 p1 p2 p3 p4 p5, codSt code j2 p6 p7 p8 p9, attSt attr prm q6 q7 q8 q9])
    (sv : ∀ L, SupEv (ksEnv qual (defScope st) L fI (.ref cda) cc) msg j p0 p1 p2 p3 p4) (hcode : findIn K (.ref C) "code" = some none) (hattr : findIn K (.ref C) attr = some none) (hpd : (prm == ("__debug__" : Str)) = false) (hac : attr ≠ "code") : L2.Xn1 P K mg x C attr code :=
  ⟨hm, _, _, _, _, _, _, _, _, _, _, _, prm, msg, j, j2, p0, p1, p2, p3, p4, p5, p6, p7, p8, p9, q6, q7, q8, q9, T, hb, sv, hcode, hattr, hpd, hac⟩
theorem xn0_mk (hm : mg x = some (.ref C)) (T : XCls P K mg initId newId B tl C fI cc cda qual (defArgs st) (defBody st) (defScope st) []) (hb : defBody st = [supSt msg j p0 p1 p2 p3 p4 p5, codSt code j2 p6 p7 p8 p9])
    (sv : ∀ L, SupEv (ksEnv qual (defScope st) L fI (.ref cda) cc) msg j p0 p1 p2 p3 p4) (hcode : findIn K (.ref C) "code" = some none) : L2.Xn0 P K mg x C code :=
  ⟨hm, _, _, _, _, _, _, _, _, _, _, _, msg, j, j2, p0, p1, p2, p3, p4, p5, p6, p7, p8, p9, T, hb, sv, hcode⟩
end
end PySem.DX
/-! DL36: list(range(n)) -/
namespace DL
open PySem PySem.Spec PyProof.Rows L2
abbrev intsTo (n : Nat) : List Int := (List.range n).map fun i : Nat => (i : Int)
section
variable {X : Cx} {F0 : Hp} {ρ : DEnv} {M : Mem} {e : Expr} {q : DK} {p p2 pos pos2 : Pos}
theorem de_listRg (hc : X.calm = true) (hgl : Gl X "list") (hml : X.mg "list" = none) (hgr : Gl X "range") (hmr : X.mg "range" = none) (h : DE X F0 e ρ M fun d M1 => ∃ n : Nat, d = .int (n : Int) ∧ n ≤ 100000 ∧ q (.lst ((intsTo n).map Dat.int)) M1) (na : starEach [e] X.env = (false, eval e X.env) :: starEach [] X.env := by rfl) :
    DE X F0 (.Call (.Name "list" p) [.Call (.Name "range" p2) [e] [] pos2] [] pos) ρ M q :=
  PE.wk (pe_listRg hc hgl hml (prg_1 hgr hmr (uE (F0 := F0)) na)) fun σ H Q ⟨F, om, ol, k⟩ => tU.go h om ol fun F1 H1 v d M1 e1 om1 r1 ⟨n, hd, hn, hq⟩ => by
    subst hd
    refine ⟨(n : Int), r1, RgOk.of_le (by omega) (by omega) (by omega) (by omega), fun l hl => ?_⟩
    have e2 : rgV 0 (n : Int) = (intsTo n).map V.int := by
      unfold rgV intsTo
      rw [List.map_map, show ((n : Int) - 0).toNat = n by omega]
      refine List.map_congr_left fun i _ => ?_
      show V.int (0 + (i : Nat)) = V.int (i : Int)
      rw [Int.zero_add]
    rw [e2]
    exact (k.mono e1).lst om1 (Reps.ofInts _) hq hl
end
end DL
/-! DL37: d == d -/
namespace DL
open PySem PySem.Spec PyProof.Rows L2
mutual
theorem eqv_self : ∀ {d : Dat} {p : PyData}, toPy d = some p → PyData.eqv p p = true
  | .non, p, h => by
    unfold toPy at h
    cases h
    rfl
  | .bl b, p, h => by
    unfold toPy at h
    cases h
    unfold PyData.eqv
    exact beq_self_eq_true b
  | .int i, p, h => by
    unfold toPy at h
    cases h
    unfold PyData.eqv
    exact beq_self_eq_true i
  | .str z, p, h => by
    unfold toPy at h
    cases h
    unfold PyData.eqv
    exact beq_self_eq_true z
  | .lst ds, p, h => by
    unfold toPy at h
    obtain ⟨ps, h4, rfl⟩ := Option.map_eq_some_iff.mp h
    unfold PyData.eqv
    exact eqvAll_self h4
  | .tup ds, p, h => by
    unfold toPy at h
    obtain ⟨ps, h4, rfl⟩ := Option.map_eq_some_iff.mp h
    unfold PyData.eqv
    exact eqvAll_self h4
  | .ty _, _, h => by
    unfold toPy at h
    cases h
  | .ptr _, _, h => by
    unfold toPy at h
    cases h
  | .scr _, _, h => by
    unfold toPy at h
    cases h
  | .obj _ _ _, _, h => by
    unfold toPy at h
    cases h
  | .dct _ _, _, h => by
    unfold toPy at h
    cases h
  | .tpx _, _, h => by
    unfold toPy at h
    cases h
  | .dcf _ _, _, h => by
    unfold toPy at h
    cases h
  | .lam _ _ _ _ _, _, h => by
    unfold toPy at h
    cases h
theorem eqvAll_self : ∀ {ds : List Dat} {ps : List PyData}, toPys ds = some ps → PyData.eqvAll ps ps = true
  | [], ps, h => by
    unfold toPys at h
    cases h
    rfl
  | d :: ds, ps, h => by
    unfold toPys at h
    cases h1 : toPy d with
    | none =>
      rw [h1] at h
      cases h
    | some p =>
      cases h2 : toPys ds with
      | none =>
        rw [h1, h2] at h
        cases h
      | some qs =>
        rw [h1, h2] at h
        cases h
        unfold PyData.eqvAll
        rw [eqv_self h1, eqvAll_self h2]
        rfl
end
def shapedD (d : Dat) : Bool := match toPy d with
  | some p => SeqAt.shaped p
  | none => false
theorem EqD.self {d : Dat} {q : Bool → Prop} (h : shapedD d = true) (hq : q true) : EqD d d q := by
  unfold shapedD at h
  cases e : toPy d with
  | none =>
    rw [e] at h
    cases h
  | some p =>
    rw [e] at h
    refine ⟨true, ?_, hq⟩
    have h' : SeqAt.shaped p = true := h
    unfold eqDD
    rw [e]
    show (if SeqAt.shaped p && SeqAt.shaped p then some (PyData.eqv p p) else none) = _
    rw [h', eqv_self e]
    rfl
end DL
/-! DL38: calls with *e and keywords -/
namespace DL
open PySem PySem.Spec PySem.Calls PyProof.Rows L2
section
variable {Mo : Model} {A : Around} {E : Value → Shared → Prop} {s : Shared}
/-- f(*e, k = v): e first, then the keywords, then what e gives -/
theorem lone_kw {f : Value} {x : Sem Value} {pos : Pos} {Q : Args → Shared → Prop} {kw : List (Option Str × Sem Value)} (hall : kw.all (·.1.isSome) = true)
    (h : wpAny Mo A x (fun v s1 => wpAny Mo A (evalAll (kw.map (·.2))) (fun ks s2 => PySem.W.StarOf Mo A E v (fun vs s3 => Q ⟨vs, (kw.filterMap (·.1)).zip ks⟩ s3) s2) E s1) E s) :
    wpAny Mo A (evalArgs f true [(true, (do let v ← x; standAt pos; pure v))] kw) Q E s := by
  unfold evalArgs
  refine wpAny_bind (wpAny_bind (wpAny_mono h (fun v s1 h1 => wpAny_bind (wpAny_standAt (wpAny_pure ?_))) fun _ _ x => x))
  refine wpAny_holding ?_
  simp only [hall, if_true]
  refine wpAny_bind (wpAny_mono h1 (fun ks s2 h2 => ?_) fun _ _ x => x)
  unfold PySem.W.StarOf at h2
  refine wpAny_bind ?_
  refine wpAny_bind (wpAny_mono h2 (fun b s3 h3 => ?_) fun _ _ x => x)
  obtain ⟨rfl, h3⟩ := h3
  simp only [Bool.false_eq_true, if_false]
  exact wpAny_holding (wpAny_mono h3 (fun vs s4 h4 => wpAny_pure h4) fun _ _ x => x)
/-- a call with a star among its arguments: what is asked of the arguments, then of the call -/
theorem star_call {g : Value} {fst : List Value} {pos : Pos} {Q : Value → Shared → Prop} {P : Heap → Prop} {as : List (Bool × Sem Value)} {kw : List (Option Str × Sem Value)} (hst : as.any (·.1) = true)
    (hk : ∀ h, P h → ∃ k, (k = Keeper.frame ∨ k = Keeper.machine ∨ k = Keeper.boundFrame) ∧ PySem.W.Looks Mo h (keeperOf g) k)
    (ha : wpAny Mo A (evalArgs g true as kw) (fun a t => P t.heap ∧ wpAny Mo A (call g (fst ++ a.pos) a.kw) Q E t) E s) : wpAny Mo A (callWith pos g fst as kw) Q E s := by
  unfold callWith
  apply wpAny_bind
  apply wpAny_holding
  refine wpAny_mono ha (fun a t ⟨hp, hc⟩ => ?_) fun _ _ z => z
  apply wpAny_bind
  apply wpAny_standAt
  obtain ⟨k, hkk, look⟩ := hk _ hp
  simp only [hst, Bool.true_or]
  apply wpAny_bind
  apply look.here
  have back : ∀ {m : Sem Value}, wpAny Mo A m Q E t → wpAny Mo A (m >>= fun r => holding [r] point >>= fun _ => pure r) Q E t := fun hm => by
    apply wpAny_bind
    refine wpAny_mono hm (fun r u hu => ?_) fun _ _ z => z
    exact wpAny_bind (wpAny_holding (wpAny_point (wpAny_pure hu)))
  obtain rfl | rfl | rfl := hkk
  · dsimp only
    apply back
    unfold callMarked
    exact Calls.wpAny_keep hc
  · dsimp only
    exact back (wpAny_operating hc)
  · dsimp only
    exact back (wpAny_operating hc)
end
section
variable {X : Cx} {F0 : Hp} {ρ : DEnv} {M : Mem} {q : DK} {x : Str} {u : Value} {p p2 pos : Pos} {e : Expr} {es : List Expr} {kws : List Keyword} {ks : List Str}
theorem starD_at {K : PySem.W.Frag} {F H : Hp} {d : Dat} {ds : List Dat} {v : V} (hd : starD M d ds) (om : OkM K F0 F M H) (r : Rep K F d v) : ∃ p xs, v = V.ref p ∧ (SqT K H p xs ∨ SqL K H p xs) ∧ Reps K F ds xs := by
  rcases hd with rfl | rfl | ⟨p, rfl, hM⟩
  · obtain ⟨p, xs, rfl, h2, h3⟩ := r
    exact ⟨p, xs, rfl, .inr (Or.inl (Or.inl (om.sub _ _ h2))), h3⟩
  · obtain ⟨p, xs, rfl, h2, h3⟩ := r
    exact ⟨p, xs, rfl, .inl (ex_t om.sub h2), h3⟩
  · obtain rfl : v = .ref p := r
    obtain ⟨_, u, hu, ru⟩ := om.mem p _ hM
    obtain ⟨xs, rfl, h3⟩ := ru
    exact ⟨p, xs, rfl, .inr (Or.inl (Or.inl hu)), h3⟩
theorem de_imp {q q' : DK} {e : Expr} (h : DE X F0 e ρ M q) (w : ∀ d M', q d M' → q' d M') : DE X F0 e ρ M q' :=
  PE.wk h fun σ H Q ⟨F, om, ol, kq⟩ => ⟨F, om, ol, fun F' H' v d M' e' o' r h' => kq F' H' v d M' e' o' r (w d M' h')⟩
/-- f(*e, k = v) -/
theorem de_callSK (hg : Gl X x) (hm : X.mg x = some u) (hk : PySem.W.keepIn X.K u = true) (hks : (backToKw pos (keywordEach kws X.env)).filterMap (·.1) = ks)
    (h : DE X F0 e ρ M fun d M1 => DKw X F0 kws ρ M1 fun zs M2 => ∃ ds, starD M2 d ds ∧ DRun X F0 u ks ds zs M2 q)
    (hall : (backToKw pos (keywordEach kws X.env)).all (·.1.isSome) = true := by rfl) (hdb : (x == ("__debug__" : Str)) = false := by decide) (he : starEach [.Starred e p2] X.env = [(true, eval e X.env)] := by rfl) :
    DE X F0 (.Call (.Name x p) [.Starred e p2] kws pos) ρ M q := by
  refine ⟨fun pins s σ H Q I ⟨F, om, ol, kq⟩ => wpAny_Call_Name_kw (ld_glob I hg hm ?_ hdb)⟩
  rw [he]
  have ha := (uE (X := X) (F0 := F0) (e := e)).run pins s σ H (fun v H1 => ∃ F1 d M1, Ex F F1 ∧ OkM X.K F0 F1 M1 H1 ∧ Rep X.K F1 d v ∧ DKw X F0 kws ρ M1 fun zs M2 => ∃ ds, starD M2 d ds ∧ DRun X F0 u ks ds zs M2 q) I
    (tU.go h om ol fun F1 H1 v d M1 e1 om1 r1 h1 => ⟨F1, d, M1, e1, om1, r1, h1⟩)
  refine star_call (P := X.K.In) rfl (PySem.W.keeps_K hk) (lone_kw hall (thn ha fun u1 s1 ⟨v, H1, I1, rv, F1, d, M1, e1, om1, r1, h1⟩ => ?_))
  have hb := (uK (X := X) (F0 := F0) (kws := kws)).run pos pins s1 σ H1 (fun zv H2 => ∃ F2 zs M2, Ex F1 F2 ∧ OkM X.K F0 F2 M2 H2 ∧ Reps X.K F2 zs zv ∧ ∃ ds, starD M2 d ds ∧ DRun X F0 u ks ds zs M2 q) I1
    (tUK.go h1 om1 (ol.mono e1) fun F2 H2 zv zs M2 e2 om2 r2 h2 => ⟨F2, zs, M2, e2, om2, r2, h2⟩)
  refine thn hb fun ws s2 ⟨zv, H2, I2, rz, F2, zs, M2, e2, om2, r2, ds, hd, h2⟩ => ?_
  obtain ⟨a, xs, rfl, hx, r3⟩ := starD_at hd om2 (r1.mono e2)
  obtain rfl : u1 = Value.ref a := rv
  refine StX.star_any I2 hx fun us s3 I3 rv3 => ⟨I3.kIn, ?_⟩
  rw [hks]
  exact h2 pins σ H2 s3 us ws F2 xs zv Q I3 om2 r3 r2 rv3 rz (kq.mono (e1.trans e2))
/-- f(e, .., *y, k = v) -/
theorem de_callS2K (hg : Gl X x) (hm : X.mg x = some u) (hk : PySem.W.keepIn X.K u = true) (hks : (backToKw pos (keywordEach kws X.env)).filterMap (·.1) = ks)
    (h : DA X F0 (e :: es) ρ M fun ds M1 => DKw X F0 kws ρ M1 fun zs M2 => DRun X F0 u ks ds zs M2 q)
    (hall : (backToKw pos (keywordEach kws X.env)).all (·.1.isSome) = true := by rfl) (hdb : (x == ("__debug__" : Str)) = false := by decide) (he : starEach (e :: es) X.env = (false, eval e X.env) :: starEach es X.env := by rfl)
    (hst : (backTo pos (starEach (e :: es) X.env)).any (·.1) = true := by rfl) :
    DE X F0 (.Call (.Name x p) (e :: es) kws pos) ρ M q := by
  refine ⟨fun pins s σ H Q I ⟨F, om, ol, kq⟩ => wpAny_Call_Name_kw (ld_glob I hg hm ?_ hdb)⟩
  have ha := (uA (X := X) (F0 := F0) (es := e :: es)).run pos pins s σ H (fun vs H1 => ∃ F1 ds M1, Ex F F1 ∧ OkM X.K F0 F1 M1 H1 ∧ Reps X.K F1 ds vs ∧ DKw X F0 kws ρ M1 fun zs M2 => DRun X F0 u ks ds zs M2 q) I
    (tUA.go h om ol fun F1 H1 vs ds M1 e1 om1 r1 h1 => ⟨F1, ds, M1, e1, om1, r1, h1⟩)
  refine star_call (P := X.K.In) hst (PySem.W.keeps_K hk) (evalArgs_kw2 hall (thn ha fun us s1 ⟨vs, H1, I1, rv, F1, ds, M1, e1, om1, r1, h1⟩ => ?_) he)
  have hb := (uK (X := X) (F0 := F0) (kws := kws)).run pos pins s1 σ H1 (fun zv H2 => ∃ F2 zs M2, Ex F1 F2 ∧ OkM X.K F0 F2 M2 H2 ∧ Reps X.K F2 zs zv ∧ DRun X F0 u ks ds zs M2 q) I1
    (tUK.go h1 om1 (ol.mono e1) fun F2 H2 zv zs M2 e2 om2 r2 h2 => ⟨F2, zs, M2, e2, om2, r2, h2⟩)
  refine thn hb fun ws s2 ⟨zv, H2, I2, rz, F2, zs, M2, e2, om2, r2, h2⟩ => ⟨I2.kIn, ?_⟩
  rw [hks]
  exact h2 pins σ H2 s2 us ws F2 vs zv Q I2 om2 (r1.mono e2) r2 rv rz (kq.mono (e1.trans e2))
/-- f(*e) -/
theorem de_callS (hg : Gl X x) (hm : X.mg x = some u) (hk : PySem.W.keepIn X.K u = true) (h : DE X F0 e ρ M fun d M1 => ∃ ds, starD M1 d ds ∧ DRun X F0 u [] ds [] M1 q)
    (hdb : (x == ("__debug__" : Str)) = false := by decide) (he : starEach [.Starred e p2] X.env = [(true, eval e X.env)] := by rfl) :
    DE X F0 (.Call (.Name x p) [.Starred e p2] [] pos) ρ M q := by
  refine ⟨fun pins s σ H Q I ⟨F, om, ol, kq⟩ => wpAny_Call_Name_kw (ld_glob I hg hm ?_ hdb)⟩
  have ha := (uE (X := X) (F0 := F0) (e := e)).run pins s σ H (fun v H1 => ∃ F1 d M1, Ex F F1 ∧ OkM X.K F0 F1 M1 H1 ∧ Rep X.K F1 d v ∧ ∃ ds, starD M1 d ds ∧ DRun X F0 u [] ds [] M1 q) I
    (tU.go h om ol fun F1 H1 v d M1 e1 om1 r1 h1 => ⟨F1, d, M1, e1, om1, r1, h1⟩)
  refine PySem.W.callWith_S (h₀ := X.base) I.ok.mod.kin hk (thn ha fun u1 s1 ⟨v, H1, I1, rv, F1, d, M1, e1, om1, r1, ds, hd, h1⟩ => ?_) he
  obtain ⟨a, xs, rfl, hx, r3⟩ := starD_at hd om1 r1
  obtain rfl : u1 = Value.ref a := rv
  exact StX.star_any I1 hx fun us s3 I3 rv3 => ⟨I3.kIn, h1 pins σ H1 s3 us [] F1 xs [] Q I3 om1 r3 Reps.nil rv3 .nil (kq.mono e1)⟩
end
section
variable {X : Cx} {F0 : Hp} {ρ : DEnv} {M : Mem} {q : DK} {k k' n : Nat} {f C : Addr} {fd : FuncData} {ps ks : List Str} {pv : Str} {S : DSpec} {e o : Expr} {es : List Expr} {kws : List Keyword} {pos p p2 : Pos} {xq : XQ} {x : Str} {dd : List Dat} {perm : List Nat}
/-- C(*e, k = v), C's __init__ with a star parameter -/
theorem de_newVSK (R : MkV X.prog X.w X.K X.mg X.base x C f fd k ps pv S) (b : BndV X.K fd ps pv (n + 1) ks dd perm) (hg : Gl X x) (hr : Room k' X.A) (hk : k + 1 ≤ k') (tk : XOk X F0 xq) (hks : (backToKw pos (keywordEach kws X.env)).filterMap (·.1) = ks)
    (h : DE X F0 e ρ M fun d M1 => DKw X F0 kws ρ M1 fun zs M2 => ∃ ds, starD M2 d ds ∧ n ≤ ds.length ∧ ds.length ≤ 100000 ∧ zs.length = ks.length ∧ NewV C S n dd perm ds zs M2 q xq)
    (hall : (backToKw pos (keywordEach kws X.env)).all (·.1.isSome) = true := by rfl) (hdb : (x == ("__debug__" : Str)) = false := by decide) (he : starEach [.Starred e p2] X.env = [(true, eval e X.env)] := by rfl) :
    DE X F0 (.Call (.Name x p) [.Starred e p2] kws pos) ρ M q :=
  de_callSK hg R.at_ R.mks.kp hks (de_imp h fun d M' h' => dk_imp h' fun zs M'' ⟨ds, hd, h1, h2, h3, h4⟩ => ⟨ds, hd, R.run b hr hk tk h1 h3 h2 h4⟩) hall hdb he
theorem de_newVS2K (R : MkV X.prog X.w X.K X.mg X.base x C f fd k ps pv S) (b : BndV X.K fd ps pv (n + 1) ks dd perm) (hg : Gl X x) (hr : Room k' X.A) (hk : k + 1 ≤ k') (tk : XOk X F0 xq) (hks : (backToKw pos (keywordEach kws X.env)).filterMap (·.1) = ks)
    (h : DA X F0 (e :: es) ρ M fun ds M1 => DKw X F0 kws ρ M1 fun zs M2 => n ≤ ds.length ∧ ds.length ≤ 100000 ∧ zs.length = ks.length ∧ NewV C S n dd perm ds zs M2 q xq)
    (hall : (backToKw pos (keywordEach kws X.env)).all (·.1.isSome) = true := by rfl) (hdb : (x == ("__debug__" : Str)) = false := by decide) (he : starEach (e :: es) X.env = (false, eval e X.env) :: starEach es X.env := by rfl)
    (hst : (backTo pos (starEach (e :: es) X.env)).any (·.1) = true := by rfl) :
    DE X F0 (.Call (.Name x p) (e :: es) kws pos) ρ M q :=
  de_callS2K hg R.at_ R.mks.kp hks (da_imp h fun ds M' h' => dk_imp h' fun zs M'' ⟨h1, h2, h3, h4⟩ => R.run b hr hk tk h1 h3 h2 h4) hall hdb he hst
end
end DL
/-! DL39: a list unpacked; the shapes of data -/
namespace DL
open PySem PySem.Spec PyProof.Rows L2
section
variable {X : Cx} {F0 : Hp} {ρ : DEnv} {M : Mem} {pos : Pos} {es : List Expr} {ds : List Dat} {o : Option (List Nat)} {q : DEnv → Mem → Prop}
theorem dg_lst {k : Nat} {n : Nat} (hc : X.calm = true) (hl : ds.length = n) (h : DGs X F0 o es ds ρ M q) (hn : (assignEach es X.env).length = n := by rfl) (hst : (assignEach es X.env).findIdx? (·.1) = none := by rfl) : DG X F0 o (.Tuple es k pos) (.lst ds) ρ M q :=
  PG.wk (pg_unl hc (uGs (F0 := F0)) hn hst) fun v σ H Q ⟨F, om, ol, r, kq⟩ => by
    obtain ⟨p, xs, rfl, h2, h3⟩ := r
    exact ⟨p, xs, rfl, SqL.of (om.sub _ _ h2), by rw [← h3.length]; exact hl, o, ds, ρ, M, q, h, F, om, ol, h3, kq⟩
end
def Shp (k : Nat) (d : Dat) : Prop := ∃ p, toPy d = some p ∧ p.canLay0 = true ∧ p.depth ≤ k
def Shps (k : Nat) (ds : List Dat) : Prop := ∃ ps, toPys ds = some ps ∧ PyData.canLayAll0 ps = true ∧ PyData.depthAll ps ≤ k
theorem Shp.non {k : Nat} : Shp k .non := ⟨_, rfl, rfl, Nat.zero_le _⟩
theorem Shp.bl {k : Nat} {b : Bool} : Shp k (.bl b) := ⟨_, rfl, rfl, Nat.zero_le _⟩
theorem Shp.int {k : Nat} {i : Int} : Shp k (.int i) := ⟨_, rfl, rfl, Nat.zero_le _⟩
theorem Shp.str {k : Nat} {z : Str} (h : StrG z) : Shp k (.str z) := ⟨_, rfl, h, Nat.zero_le _⟩
theorem Shp.strB {k : Nat} {z : Str} (h : PyData.strOk z = true) : Shp k (.str z) := Shp.str h
theorem Shps.nil {k : Nat} : Shps k [] := ⟨[], rfl, rfl, Nat.zero_le _⟩
theorem Shps.cons {k : Nat} {d : Dat} {ds : List Dat} (h : Shp k d) (t : Shps k ds) : Shps k (d :: ds) := by
  obtain ⟨p, h1, h2, h3⟩ := h
  obtain ⟨ps, t1, t2, t3⟩ := t
  refine ⟨p :: ps, ?_, ?_, ?_⟩
  · unfold toPys
    rw [h1, t1]
  · unfold PyData.canLayAll0
    rw [h2, t2]
    rfl
  · unfold PyData.depthAll
    omega
theorem Shp.tup {k : Nat} {ds : List Dat} (h : Shps k ds) : Shp (k + 1) (.tup ds) := by
  obtain ⟨ps, h1, h2, h3⟩ := h
  refine ⟨.tuple ps, by unfold toPy; rw [h1]; rfl, by unfold PyData.canLay0; exact h2, by unfold PyData.depth; omega⟩
theorem Shp.lst {k : Nat} {ds : List Dat} (h : Shps k ds) : Shp (k + 1) (.lst ds) := by
  obtain ⟨ps, h1, h2, h3⟩ := h
  refine ⟨.list ps, by unfold toPy; rw [h1]; rfl, by unfold PyData.canLay0; exact h2, by unfold PyData.depth; omega⟩
theorem Shps.map {α : Type} {k : Nat} {f : α → Dat} : ∀ {l : List α}, (∀ a ∈ l, Shp k (f a)) → Shps k (l.map f)
  | [], _ => Shps.nil
  | a :: l, h => Shps.cons (h a (List.mem_cons_self ..)) (Shps.map fun b hb => h b (List.mem_cons_of_mem _ hb))
theorem Shp.ok {d : Dat} (h : Shp 9 d) : shapedD d = true := by
  obtain ⟨p, h1, h2, h3⟩ := h
  unfold shapedD
  rw [h1]
  show (PyData.canLay0 p && decide _) = true
  rw [h2, Bool.true_and]
  exact decide_eq_true (by omega)
theorem EqD.shp {d : Dat} {q : Bool → Prop} (h : Shp 9 d) (hq : q true) : EqD d d q := EqD.self h.ok hq
theorem cutD_le {α : Type} {xs : List α} {lo hi : Option Int} : (cutD xs lo hi).length ≤ xs.length := by
  unfold cutD
  rw [List.length_take, List.length_drop]
  omega
/-- a name's text -/
theorem NmL.g {z : Str} (h : NmL z) : StrG z := strG_of h.1
/-! ### x op y, y of a built-in type, x's class has the method -/
section
open PySem.W
/-- at the machine: what is looked at, one after another -/
theorem binL {prog : Program} {w : World} {A : Around} {E : Value → Shared → Prop} {t : Shared} {K : PySem.W.Frag} {a C L g : Addr} {B : Heap} {mm : Str → Option Value} {oa : Obj} {oda : Option Obj} {T : String} {op : Operator} {y : Value} {fo ro rc : Option Value} {Q : Value → Shared → Prop}
    (F : Fr B L t.heap mm) (X0 : K.In B) (I : InstAt t.heap a oa C oda) (hy : Looks (model prog w) t.heap (typeOf y) (.type T)) (hc : selfFirst K C = true)
    (hs : findIn K (.ref C) (PySem.dunder op.info.2) = some (some (.ref g))) (hg : isFn K (.ref g) = true) (hrc : findIn K (.ref C) (dunderR op.info.2) = some rc) (hp : rc = none ∨ ∃ q : Addr, rc = some (.ref q))
    (h1 : findIn K (.type T) (PySem.dunder op.info.2) = some fo) (h2 : findIn K (.type T) (dunderR op.info.2) = some ro) (hsub : subIn K (.type T) (.ref C) = some false)
    (run : wpAny (model prog w) A (call (.ref g) [.ref a, y]) (PySem.W.CmpBack Q) E t) : wpAny (model prog w) A (binaryOp op (.ref a) y) Q E t := by
  have X := X0.keeps F.keep
  obtain ⟨cd, rest, hcd, hm⟩ := ksp_first hc
  rcases hi : op.info with ⟨sym, nm⟩
  rw [hi] at hs hrc h1 h2
  replace hs : findIn K (.ref C) (PySem.dunder nm) = some (some (.ref g)) := hs
  replace hrc : findIn K (.ref C) (dunderR nm) = some rc := hrc
  replace h1 : findIn K (.type T) (PySem.dunder nm) = some fo := h1
  replace h2 : findIn K (.type T) (dunderR nm) = some ro := h2
  have tried := ksp_try X I hs hg run
  cases t with
  | mk hh g1 d1 t1 o1 =>
    have ta : Looks (model prog w) hh (typeOf (.ref a)) (.ref C) := I.type
    have fa : Looks (model prog w) hh (fillsNumberSlot (.ref C) nm) true := fills_K X hcd hm hs
    have fy := ksp_fillsT (M := model prog w) X h1 h2
    have sy : Looks (model prog w) hh (isSubtype (.type T) (.ref C)) false := looks_subIn X hsub
    have pa : Looks (model prog w) hh (numberSlotInPython (.ref C) nm) true := ksp_inPy X hs hrc hp
    have py : Looks (model prog w) hh (numberSlotInPython (.type T) nm) false := Looks.of_pure rfl
    have ly : Looks (model prog w) hh (typeLookup (.type T) (dunderR nm)) ro := looks_findIn X h2
    generalize ((fo.isSome && !isSeqSlot fo) || (ro.isSome && !isSeqSlot ro)) = k at fy
    have apart : (Value.ref C == Value.type T) = false := Bool.eq_false_iff.mpr fun z => nomatch beq_iff_eq.mp z
    simp only [binaryOp, hi]
    apply wpAny_holding
    apply wpAny_bind
    unfold binaryOp1
    apply wpAny_bind
    apply ta.at
    apply wpAny_bind
    apply hy.at
    apply wpAny_bind
    apply fa.at
    simp only [apart, Bool.false_eq_true, if_false]
    cases k <;>
      (ksp_lk
       refine wpAny_mono tried (fun r u hr => ?_) fun _ _ z => z
       obtain ⟨v, hv, hq⟩ := hr
       subst hv
       ksp_lk
       exact hq)
end
section
variable {X : Cx} {F0 : Hp} {M : Mem} {q : DK} {k k' : Nat} {f C : Addr} {fd : FuncData} {ps : List Str} {S : DSpec} {xq : XQ}
/-- x op y: y of the built-in type T -/
theorem dop_binT {op : Operator} {x y : Dat} {T : String} {ns : List Str} {fs : List Dat} {fo ro rc : Option Value} (c : Met X.prog X.w X.K X.mg X.base C (PySem.dunder op.info.2) k f fd ps S) (hc : PySem.W.selfFirst X.K C = true)
    (h3 : PySem.W.findIn X.K (.ref C) (dunderR op.info.2) = some rc) (hp : rc = none ∨ ∃ g : Addr, rc = some (.ref g)) (h1 : PySem.W.findIn X.K (.type T) (PySem.dunder op.info.2) = some fo) (h2 : PySem.W.findIn X.K (.type T) (dunderR op.info.2) = some ro) (hsub : PySem.W.subIn X.K (.type T) (.ref C) = some false)
    (hr : Room k' X.A) (hk : k ≤ k') (tk : XOk X F0 xq) (hi : Ins M C ns fs x) (ht : tyName y = some T) (h : S [x, y] M q xq) : DOp X F0 (binaryOp op) x y M q :=
  dop_raw fun F H vx vy Q om rx ry kq pins σ s v u I rv ru => by
    obtain ⟨a, dx, xs, rfl, ha, _, _⟩ := hi.at om rx
    obtain rfl : v = .ref a := rv
    obtain ⟨od, J⟩ := inst_at I ha
    obtain ⟨mm, Fr⟩ := I.fr
    refine binL Fr I.ok.mod.kin J (TyV.look (.inl ⟨T, ht, rfl⟩) om ry I ru) hc c.at_ c.fn h3 hp h1 h2 hsub ?_
    exact wpAny_mono (c.run hr hk tk h pins σ H s [.ref a, u] [] F [.ref a, vy] [] Q I om (Reps.cons rx (Reps.cons ry Reps.nil)) Reps.nil (.cons rfl (.cons ru .nil)) .nil kq) (fun v s' z => ep_cmp z) fun _ _ z => z
end
end DL
/-! DH1: the head by one kernel run; what it leaves, read by a Hook -/
namespace DL
open PySem PySem.Spec PyProof.Rows L2
/-! ### the written part -/
def tabO (o : Obj) : Bool := match o.cls, o.data with
  | .none, .fields _ => true
  | _, _ => false
def frZ (n : Nat) (g : Addr → Option Obj) : PySem.W.Frag := (He.frG g (mainGlobals :: cStatics :: (List.range 1600).map (fun i => i + n))).filter fun p => !tabO p.2
theorem frZ_in {n : Nat} {h : Heap} : (frZ n h.get?).In h := fun a o e => by
  have m := (List.mem_filter.mp (PySem.W.mem_of_lookupK e)).1
  unfold He.frG at m
  obtain ⟨b, _, hb⟩ := List.mem_filterMap.mp m
  obtain ⟨u, hu, he⟩ := Option.map_eq_some_iff.mp hb
  cases he
  exact hu
theorem frZ_tabs {n : Nat} {g : Addr → Option Obj} : PySem.W.noTabs (frZ n g) = true := by
  unfold PySem.W.noTabs
  refine List.all_eq_true.mpr fun p hp => ?_
  have h := (List.mem_filter.mp hp).2
  unfold tabO at h
  revert h
  split <;> split <;> simp_all
/-! ### functions, as the head has them -/
abbrev FnZ : Type := Option (Str × Str × Arguments × FuncBody × Scope × Addr × List Str × Addr)
def fnZ (K : PySem.W.Frag) (a : Addr) : FnZ := match K.lookup a with
  | some ⟨_, _, .func fd, _⟩ => some (fd.name, fd.qualname, fd.params, fd.body, fd.scope, fd.globals, fd.closure.map (·.1), fd.builtins)
  | _ => none
def fnV (x qual : Str) (st : Stmt) : FnZ := some (x, qual, defArgs st, .stmts (defBody st), defScope st, mainGlobals, [], builtinsNs)
def codeZ (K : PySem.W.Frag) (a : Addr) (q : Str) : Bool := match K.lookup a with
  | some ⟨_, _, .func fd, _⟩ => PySem.W.codeIn K fd.code q
  | _ => false
def dflR (K : PySem.W.Frag) (a : Addr) : Value := match K.lookup a with
  | some ⟨_, _, .func fd, _⟩ => fd.defaults
  | _ => .none
def kwdR (K : PySem.W.Frag) (a : Addr) : Value := match K.lookup a with
  | some ⟨_, _, .func fd, _⟩ => fd.kwdefaults
  | _ => .none
def noneV : Value → Bool
  | .none => true
  | _ => false
def refA : Value → Addr
  | .ref a => a
  | _ => 0
def isRef : Value → Bool
  | .ref _ => true
  | _ => false
theorem noneV_ok {v : Value} (h : noneV v = true) : v = .none := by
  cases v <;> first | rfl | cases h
theorem isRef_ok {v : Value} (h : isRef v = true) : v = .ref (refA v) := by
  cases v <;> first | rfl | cases h
section
variable {K : PySem.W.Frag} {h : Heap} {mg : Str → Option Value} {x qual : Str} {st : Stmt} {a : Addr}
theorem fnZ_ok (e : fnZ K a = fnV x qual st) : ∃ (oc : Value) (od : Option Addr) (doc pm : Value) (an : Option Addr) (cdv ct : Value) (osl : Array (Option Value)),
    K.lookup a = some ⟨oc, od, .func (PySem.W.fnOf x qual (defArgs st) (defBody st) (defScope st) (dflR K a) (kwdR K a) doc pm an cdv ct), osl⟩ := by
  unfold fnZ fnV at e
  split at e
  · rename_i oc od fd sl hl
    obtain ⟨n1, n2, n3, n4, n5, n6, n7, n8, n9, n10, n11, n12, n13, n14, n15⟩ := fd
    simp only [Option.some.injEq, Prod.mk.injEq] at e
    obtain ⟨h1, h2, h3, h4, h5, h6, h7, h8⟩ := e
    have h7' : n7 = [] := List.map_eq_nil_iff.mp h7
    subst h1 h2 h3 h4 h5 h6 h7' h8
    have ed : dflR K a = n8 := by
      unfold dflR
      rw [hl]
    have ek : kwdR K a = n9 := by
      unfold kwdR
      rw [hl]
    rw [ed, ek]
    exact ⟨oc, od, _, _, _, _, _, sl, hl⟩
  · cases e
theorem codeZ_ok {oc : Value} {od : Option Addr} {fd : FuncData} {sl : Array (Option Value)} (hl : K.lookup a = some ⟨oc, od, .func fd, sl⟩) {q : Str} (c : codeZ K a q = true) : PySem.W.codeIn K fd.code q = true := by
  unfold codeZ at c
  rw [hl] at c
  exact c
theorem funN_of (e : fnZ K a = fnV x qual st) (c : codeZ K a qual = true) (d : noneV (dflR K a) = true) (k : PySem.W.keepIn K (.ref a) = true) : ∃ fd, FunN K x qual st a fd := by
  obtain ⟨oc, od, doc, pm, an, cdv, ct, osl, hl⟩ := fnZ_ok e
  rw [noneV_ok d] at hl
  exact ⟨_, FunN.mk' hl (codeZ_ok hl c) k⟩
theorem funK_of (e : fnZ K a = fnV x qual st) (c : codeZ K a qual = true) (d : noneV (dflR K a) = true) (kd : isRef (kwdR K a) = true) (k : PySem.W.keepIn K (.ref a) = true) : ∃ fd, FunK K x qual st a fd (refA (kwdR K a)) := by
  obtain ⟨oc, od, doc, pm, an, cdv, ct, osl, hl⟩ := fnZ_ok e
  rw [noneV_ok d, isRef_ok kd] at hl
  exact ⟨_, FunK.mk' hl (codeZ_ok hl c) k⟩
def dflZ (K : PySem.W.Frag) (a : Addr) (dvs : List V) : Bool := isRef (dflR K a) && match K.lookup (refA (dflR K a)) with
  | some ⟨_, _, .seq its _, _⟩ => He.relAll dvs its.toList
  | _ => false
theorem funDf_of {dvs : List V} (e : fnZ K a = fnV x qual st) (c : codeZ K a qual = true) (d : dflZ K a dvs = true) (k : PySem.W.keepIn K (.ref a) = true) : ∃ fd, FunDf K x qual st a fd dvs := by
  obtain ⟨oc, od, doc, pm, an, cdv, ct, osl, hl⟩ := fnZ_ok e
  obtain ⟨d1, d2⟩ := He.ba d
  rw [isRef_ok d1] at hl
  split at d2
  · rename_i oc2 od2 its n sl2 hT
    obtain ⟨its⟩ := its
    exact ⟨_, FunDf.mk' hl (codeZ_ok hl c) k hT (He.relAll_ok d2)⟩
  · cases d2
/-- a keyword's default -/
def kwZ (K : PySem.W.Frag) (D : Addr) (y : Str) (v : V) : Bool := match PySem.W.nsIn K D y with
  | some (some u) => He.relB v u
  | _ => false
theorem kwZ_ok {D : Addr} {y : Str} {v : V} (h : kwZ K D y v = true) : ∃ u, PySem.W.nsIn K D y = some (some u) ∧ RelV v u := by
  unfold kwZ at h
  split at h
  · rename_i u e
    exact ⟨u, e, He.relB_ok h⟩
  · cases h
/-- .. that is the empty tuple -/
def kwE (K : PySem.W.Frag) (D : Addr) (y : Str) : Bool := match PySem.W.nsIn K D y with
  | some (some (.ref a)) => (match K.lookup a with
    | some ⟨.type c, _, .seq its _, _⟩ => decide (c = "tuple") && its.toList.isEmpty
    | _ => false)
  | _ => false
theorem kwE_ok {D : Addr} {y : Str} (h : kwE K D y = true) : ∃ a, PySem.W.nsIn K D y = some (some (.ref a)) ∧ ∀ F, Rep K F (.tup []) (.ref a) := by
  unfold kwE at h
  split at h
  · rename_i a e
    split at h
    · rename_i c od its n sl hl
      obtain ⟨h1, h2⟩ := He.ba h
      obtain rfl := of_decide_eq_true h1
      obtain ⟨its⟩ := its
      obtain rfl : its = [] := List.isEmpty_iff.mp h2
      exact ⟨a, e, fun F => rep_unit hl⟩
    · cases h
  · cases h
/-! ### names of the module -/
theorem globZ_int (X : K.In h) (G : h.Ns mainGlobals mg) {i : Int} (c : (He.Fa.int x i).ok K = true) : GlobD K mg x (.int i) := by
  obtain ⟨t, e⟩ := He.int_ok X G c
  exact ⟨.int i, _, e, ⟨_, rfl⟩, fun _ => rfl⟩
theorem globZ_str (X : K.In h) (G : h.Ns mainGlobals mg) {z : Str} (c : (He.Fa.str x z).ok K = true) : GlobD K mg x (.str z) := by
  obtain ⟨t, e⟩ := He.str_ok X G c
  exact ⟨.str z, _, e, ⟨_, rfl⟩, fun _ => rfl⟩
def tupZ (K : PySem.W.Frag) (x : Str) (vs : List V) : Bool := match PySem.W.nsIn K mainGlobals x with
  | some (some (.ref a)) => (match K.lookup a with
    | some ⟨.type c, _, .seq its _, _⟩ => decide (c = "tuple") && (decide (its.size ≤ sizeLine) && He.relAll vs its.toList)
    | _ => false)
  | _ => false
theorem globZ_tup (X : K.In h) (G : h.Ns mainGlobals mg) {vs : List V} {ds : List Dat} (c : tupZ K x vs = true) (rr : ∀ F, Reps K F ds vs) : GlobD K mg x (.tup ds) := by
  unfold tupZ at c
  split at c
  · rename_i a e
    split at c
    · rename_i c2 od its n sl hl
      obtain ⟨h1, h2⟩ := He.ba c
      obtain ⟨h3, h4⟩ := He.ba h2
      obtain rfl := of_decide_eq_true h1
      exact glob_tup X G e hl (of_decide_eq_true h3) (He.relAll_ok h4) rr
    · cases c
  · cases c
/-! ### classes -/
def kitF (K : PySem.W.Frag) (t c : Value) : Bool := decide (PySem.W.kitOne K t c = some false)
def ctZ (K : PySem.W.Frag) (x : Str) : Bool := (He.Fa.glo x).ok K && (He.Fa.cls x).ok K && decide (PySem.W.findIn K (.ref (He.ga K x)) "__class__" = some (some (.builtin "object.__class__"))) &&
  decide (PySem.W.specialIn K (.builtin "object.__class__") "__get__" = some (some (.builtin "getset_descriptor.__get__"))) && decide (PySem.W.takesIn K (.builtin "object.__class__") = some true) && decide (PySem.W.mroIn K (He.ga K x) (.type "object") = some true) &&
  decide (PySem.W.kitOne K (.ref (He.ga K x)) (.ref (He.ga K x)) = some true) && kitF K (.type "int") (.ref (He.ga K x)) && kitF K (.type "bool") (.ref (He.ga K x)) && kitF K (.type "str") (.ref (He.ga K x)) && kitF K (.type "NoneType") (.ref (He.ga K x)) && kitF K (.type "list") (.ref (He.ga K x)) && kitF K (.type "tuple") (.ref (He.ga K x)) &&
  kitF K (.ref (He.ga K x)) (.type "int") && kitF K (.ref (He.ga K x)) (.type "bool") && kitF K (.ref (He.ga K x)) (.type "str") && kitF K (.ref (He.ga K x)) (.type "list") && kitF K (.ref (He.ga K x)) (.type "tuple") &&
  PySem.W.notFirst K (He.ga K x) (.type "int") && PySem.W.notFirst K (He.ga K x) (.type "bool") && PySem.W.notFirst K (He.ga K x) (.type "str") && PySem.W.notFirst K (He.ga K x) (.type "NoneType") && PySem.W.notFirst K (He.ga K x) (.type "list") && PySem.W.notFirst K (He.ga K x) (.type "tuple") &&
  decide (PySem.W.findIn K (.ref (He.ga K x)) "__ne__" = some (some (.builtin "object.__ne__")))
theorem kitF_ok {t c : Value} (h : kitF K t c = true) : PySem.W.kitOne K t c = some false := of_decide_eq_true h
theorem ctZ_ok (X : K.In h) (G : h.Ns mainGlobals mg) (c : ctZ K x = true) : CT K mg x (He.ga K x) := by
  unfold ctZ at c
  simp only [Bool.and_eq_true] at c
  obtain ⟨⟨⟨⟨⟨⟨⟨⟨⟨⟨⟨⟨⟨⟨⟨⟨⟨⟨⟨⟨⟨⟨⟨⟨c1, c2⟩, c3⟩, c4⟩, c5⟩, c6⟩, c7⟩, c8⟩, c9⟩, c10⟩, c11⟩, c12⟩, c13⟩, c14⟩, c15⟩, c16⟩, c17⟩, c18⟩, c19⟩, c20⟩, c21⟩, c22⟩, c23⟩, c24⟩, c25⟩ := c
  exact ⟨⟨He.cls_ok c2, of_decide_eq_true c3, of_decide_eq_true c4, of_decide_eq_true c5, of_decide_eq_true c6⟩, He.glo_ok X G c1, glob_cls X G (He.eqO_ok c1), of_decide_eq_true c7, kitF_ok c8, kitF_ok c9, kitF_ok c10, kitF_ok c11, kitF_ok c12, kitF_ok c13, kitF_ok c14, kitF_ok c15, kitF_ok c16, kitF_ok c17, kitF_ok c18, c19, c20, c21, c22, c23, c24, of_decide_eq_true c25⟩
def tyZ (K : PySem.W.Frag) (C : Addr) : Value := match PySem.W.typeIn K (.ref C) with
  | some v => v
  | none => .none
def readZ (K : PySem.W.Frag) (C : Addr) : Bool := PySem.W.readsIn K C (tyZ K C) && decide (PySem.W.specialIn K (.ref C) "__getattribute__" = some (some (.builtin "type.__getattribute__")))
/-- a constant of a class -/
def conZ (K : PySem.W.Frag) (C : Addr) (f : Str) (v : V) : Bool := readZ K C && match PySem.W.findCls K (.ref C) (tyZ K C) f with
  | some (.val u) => He.relB v u
  | _ => false
theorem conZ_ok {C : Addr} {f : Str} {v : V} {d : Dat} (h : conZ K C f v = true) (r : ∀ F, Rep K F d v) : CCon K C f d := by
  obtain ⟨h1, h2⟩ := He.ba h
  obtain ⟨h3, h4⟩ := He.ba h1
  split at h2
  · rename_i u e
    exact CCon.mk' h3 (of_decide_eq_true h4) e (He.relB_ok h2) r
  · cases h2
/-- a static method's record; its def -/
def stP (K : PySem.W.Frag) (C : Addr) (m : Str) : Addr := match PySem.W.findCls K (.ref C) (tyZ K C) m with
  | some (.get _ (.ref p) _ _) => p
  | _ => 0
def recF (K : PySem.W.Frag) (p : Addr) (T : String) : Addr := match PySem.W.recIn K p T with
  | some (.ref f :: _) => f
  | _ => 0
def stF (K : PySem.W.Frag) (C : Addr) (m : Str) : Addr := recF K (stP K C m) "staticmethod"
def isStB : Option PySem.W.CFound → Addr → String → Bool → Addr → Value → Bool
  | some (.get (.builtin g) (.ref p) o (.ref c)), p2, w, true, C, _ => decide (g = w) && decide (p = p2) && noneV o && decide (c = C)
  | _, _, _, _, _, _ => false
def stmZ (K : PySem.W.Frag) (C : Addr) (m : Str) : Bool := readZ K C && isStB (PySem.W.findCls K (.ref C) (tyZ K C) m) (stP K C m) "staticmethod.__get__" true C .none && (match PySem.W.recIn K (stP K C m) "staticmethod" with
    | some (.ref _ :: _) => true
    | _ => false) && PySem.W.keepIn K (.ref (stF K C m))
theorem stmZ_ok {C : Addr} {m : Str} (h : stmZ K C m = true) : Stm K C m (stF K C m) := by
  obtain ⟨h, k⟩ := He.ba h
  obtain ⟨h, h3⟩ := He.ba h
  obtain ⟨h1, h2⟩ := He.ba h
  obtain ⟨h4, h5⟩ := He.ba h1
  have e : PySem.W.findCls K (.ref C) (tyZ K C) m = some (.get (.builtin "staticmethod.__get__") (.ref (stP K C m)) .none (.ref C)) := by
    revert h2
    generalize PySem.W.findCls K (.ref C) (tyZ K C) m = z
    generalize stP K C m = p
    intro h2
    unfold isStB at h2
    split at h2
    · rename_i g p3 o c p2 w C2 v
      simp only [Bool.and_eq_true, decide_eq_true_eq] at h2
      obtain ⟨⟨⟨rfl, rfl⟩, ho⟩, rfl⟩ := h2
      rw [noneV_ok ho]
    · cases h2
  have r : ∃ rest, PySem.W.recIn K (stP K C m) "staticmethod" = some (.ref (stF K C m) :: rest) := by
    unfold stF recF
    revert h3
    generalize PySem.W.recIn K (stP K C m) "staticmethod" = z
    intro h3
    split at h3
    · exact ⟨_, rfl⟩
    · cases h3
  obtain ⟨rest, r⟩ := r
  exact Stm.mk' h4 (of_decide_eq_true h5) e r k
/-- a property's def -/
def prF (K : PySem.W.Frag) (C : Addr) (m : Str) : Addr := recF K (He.ma K C m) "property"
def prpZ (K : PySem.W.Frag) (C : Addr) (m : Str) : Bool := He.eqO (PySem.W.findIn K (.ref C) m) (some (some (.ref (He.ma K C m)))) && decide (PySem.W.specialIn K (.ref (He.ma K C m)) "__get__" = some (some (.builtin "property.__get__"))) && decide (PySem.W.takesIn K (.ref (He.ma K C m)) = some true) && (match PySem.W.recIn K (He.ma K C m) "property" with
    | some (.ref _ :: _) => true
    | _ => false)
theorem prpZ_ok {C : Addr} {m : Str} (h : prpZ K C m = true) : PropOf K C m (He.ma K C m) (prF K C m) := by
  obtain ⟨h, h4⟩ := He.ba h
  obtain ⟨h, h3⟩ := He.ba h
  obtain ⟨h1, h2⟩ := He.ba h
  have r : ∃ rest, PySem.W.recIn K (He.ma K C m) "property" = some (.ref (prF K C m) :: rest) := by
    unfold prF recF
    revert h4
    generalize PySem.W.recIn K (He.ma K C m) "property" = z
    intro h4
    split at h4
    · exact ⟨_, rfl⟩
    · cases h4
  exact ⟨He.eqO_ok h1, of_decide_eq_true h2, of_decide_eq_true h3, r⟩
/-! ### own exceptions -/
def xfI (K : PySem.W.Frag) (x : Str) : Addr := He.ma K (He.ga K x) "__init__"
def xcdA (K : PySem.W.Frag) (x : Str) : Addr := match K.lookup (xfI K x) with
  | some ⟨_, _, .func fd, _⟩ => refA fd.code
  | _ => 0
def xccA (K : PySem.W.Frag) (x : Str) : Addr := match K.lookup (xfI K x) with
  | some ⟨_, _, .func fd, _⟩ => (match fd.closure with
    | (_, c) :: _ => c
    | [] => 0)
  | _ => 0
def fnX (qual : Str) (st : Stmt) : FnZ := some ("__init__", qual, defArgs st, .stmts (defBody st), defScope st, mainGlobals, ["__class__"], builtinsNs)
def xxZ (K : PySem.W.Frag) (x qual : Str) (B : String) (tl : List Value) (newId initId : String) (file : Str) : Bool :=
  (He.Fa.glo x).ok K && PySem.DX.xlB K (He.ga K x) tl newId initId && decide (PySem.W.findIn K (.ref (He.ga K x)) "__setattr__" = some (some (.builtin "object.__setattr__"))) && He.eqO (PySem.W.findIn K (.ref (He.ga K x)) "__init__") (some (some (.ref (xfI K x)))) &&
  decide (PySem.W.typeIn K (.ref (xfI K x)) = some (.type "function")) && decide (PySem.W.subIn K (.ref (He.ga K x)) (.type "BaseException") = some true) && decide (PySem.W.subIn K (.ref (He.ga K x)) (.type B) = some true) && decide (PySem.W.typeIn K (.ref (He.ga K x)) = some (.type "type")) &&
  PySem.W.keepIn K (.ref (He.ga K x)) && decide (PySem.W.mroIn K (He.ga K x) (.ref (He.ga K x)) = some true) && decide (PySem.W.nsIn K cStatics "thirdparty.any" = some none) && noneV (dflR K (xfI K x)) &&
  (match K.lookup (xfI K x) with
    | some ⟨_, _, .func fd, _⟩ => isRef fd.code
    | _ => false) && PySem.W.codeIn K (.ref (xcdA K x)) qual && (match K.lookup (xccA K x) with
    | some ⟨_, _, .cell (some (.ref c)), _⟩ => decide (c = He.ga K x)
    | _ => false) && PySem.DX.cdoB K (xcdA K x) file && decide (PySem.W.findIn K (.ref (He.ga K x)) "code" = some none)
theorem xxZ_ok {P : Program} {B newId initId : String} {tl : List Value} {ps : List Str} (X : K.In h) (G : h.Ns mainGlobals mg) (xb : PySem.DX.XB B newId initId tl) (e : fnZ K (xfI K x) = fnX qual st) (c : xxZ K x qual B tl newId initId P.main.file = true)
    (top : (P.main.scope.names.lookup ("super" : Str)).isSome = false) (msu : mg "super" = none) (sc : PySem.DX.xscB (defScope st) ps = true) (par : ∃ ar, ((defArgs st).posonlyargs ++ (defArgs st).args).head? = some ar ∧ ar.arg = "self")
    (bind : ∀ (kV doc pm : Value) (an : Option Addr) (cdv ct : Value) (cc : Addr) (s : Shared) (a : Addr) (us : List Value), us.length = ps.length → BindsTo s (PySem.W.ksFn "__init__" qual (defArgs st) (defBody st) (defScope st) .none kV doc pm an cdv ct cc) ⟨.ref a :: us, []⟩ (("self", .ref a) :: ps.zip us)) :
    mg x = some (.ref (He.ga K x)) ∧ PySem.W.findIn K (.ref (He.ga K x)) "code" = some none ∧ PySem.DX.XCls P K mg initId newId B tl (He.ga K x) (xfI K x) (xccA K x) (xcdA K x) qual (defArgs st) (defBody st) (defScope st) ps := by
  unfold xxZ at c
  simp only [Bool.and_eq_true] at c
  obtain ⟨⟨⟨⟨⟨⟨⟨⟨⟨⟨⟨⟨⟨⟨⟨⟨c1, c2⟩, c3⟩, c4⟩, c5⟩, c6⟩, c7⟩, c8⟩, c9⟩, c10⟩, c11⟩, c12⟩, c13⟩, c14⟩, c15⟩, c16⟩, c17⟩ := c
  refine ⟨He.glo_ok X G c1, of_decide_eq_true c17, ?_⟩
  unfold fnZ fnX at e
  split at e
  · rename_i oc od fd sl hl
    obtain ⟨n1, n2, n3, n4, n5, n6, n7, n8, n9, n10, n11, n12, n13, n14, n15⟩ := fd
    simp only [Option.some.injEq, Prod.mk.injEq] at e
    obtain ⟨h1, h2, h3, h4, h5, h6, h7, h8⟩ := e
    obtain ⟨cc, rfl⟩ : ∃ cc : Addr, n7 = [(("__class__" : Str), cc)] := by
      match n7, h7 with
      | [(y, cc)], h7 =>
        have : y = ("__class__" : Str) := (List.cons.inj h7).1
        exact ⟨cc, by rw [this]⟩
    have e1 : xccA K x = cc := by
      unfold xccA
      rw [hl]
    have e2 : xcdA K x = refA n13 := by
      unfold xcdA
      rw [hl]
    rw [hl] at c13
    have e3 : n13 = .ref (refA n13) := isRef_ok c13
    have e4 : n8 = .none := by
      have z : dflR K (xfI K x) = n8 := by
        unfold dflR
        rw [hl]
      rw [z] at c12
      exact noneV_ok c12
    subst h1 h2 h3 h4 h5 h6 h8 e4
    rw [e1] at c15 ⊢
    rw [e2] at c14 c16 ⊢
    split at c15
    · rename_i ocl ocd c0 csl hcl
      obtain rfl := of_decide_eq_true c15
      rw [e3] at hl
      exact PySem.DX.xcls_mk xb c2 (of_decide_eq_true c3) (He.eqO_ok c4) (of_decide_eq_true c5) (of_decide_eq_true c6) (of_decide_eq_true c7) (of_decide_eq_true c8) c9 (of_decide_eq_true c10) (of_decide_eq_true c11) hl c14 hcl c16 top msu sc par bind
    · cases c15
  · cases e
def xcZ (K : PySem.W.Frag) (x : Str) (cs : List Value) : Bool := decide (PySem.W.exmAny K (.ref (He.ga K x)) cs = some true) && L2.xfB K (He.ga K x) && decide (PySem.W.findIn K (.ref (He.ga K x)) "code" = some none)
theorem xcZ_ok {cs : List Value} (c : xcZ K x cs = true) : XcA K cs (He.ga K x) := by
  obtain ⟨c, c3⟩ := He.ba c
  obtain ⟨c1, c2⟩ := He.ba c
  exact ⟨of_decide_eq_true c1, L2.xfB_ok c2, of_decide_eq_true c3⟩
end
/-! ### the Hook -/
abbrev AlZ : Type := Bool × List FnZ
def hookZ (n : Nat) (fb : PySem.W.Frag → List Bool) (fn : PySem.W.Frag → List FnZ) (fv : List FnZ) : PySem.W.Hook where
  α := AlZ
  obs := fun s => ((fb (frZ n s.heap.get?)).all id, fn (frZ n s.heap.get?))
  val := fun _ => (true, fv)
  says := fun _ h => ∃ K : PySem.W.Frag, K.In h ∧ PySem.W.noTabs K = true ∧ (fb K).all id = true ∧ fn K = fv
  of := fun _ _ e => ⟨_, frZ_in, frZ_tabs, congrArg (fun z : AlZ => z.1) e, congrArg (fun z : AlZ => z.2) e⟩
  keeps := fun _ _ _ ⟨K, hK, t, c, d⟩ k => ⟨K, PySem.W.Frag.In.keeps hK k, t, c, d⟩
def obZ (n : Nat) (fb : PySem.W.Frag → List Bool) (fn : PySem.W.Frag → List FnZ) (s : PySem.W.SharedT) : AlZ := ((fb (frZ n (HandSHeadRun.getT s))).all id, fn (frZ n (HandSHeadRun.getT s)))
theorem obZ_eq {n : Nat} {fb : PySem.W.Frag → List Bool} {fn : PySem.W.Frag → List FnZ} {fv : List FnZ} (s : PySem.W.SharedT) : obZ n fb fn s = (hookZ n fb fn fv).obs s.abs := by
  have e : HandSHeadRun.getT s = s.abs.heap.get? := funext (HandSHeadRun.getT_eq s)
  unfold obZ
  rw [e]
  rfl
theorem fact_at {l : List Bool} (h : l.all id = true) (i : Nat) {b : Bool} (e : l[i]? = some b := by rfl) : b = true := List.all_eq_true.mp h b (List.mem_of_getElem? e)
theorem fn_at {l m : List FnZ} (h : l = m) (i : Nat) {a b : FnZ} (e : l[i]? = some a := by rfl) (e2 : m[i]? = some b := by rfl) : a = b := by
  subst h
  exact Option.some.inj (e.symm.trans e2)
/-! ### the law's end -/
theorem walkZ {l : PySem.W.OpenLaw} {k : Nat} {p : Program} {loose : List Str} {XP : (Str → Option Value) → Heap → Prop} {YP : World → Heap → Prop} {d : DefRec} {x : Str}
    (hn : l.most = some 63) (hdf : d.params.defaults = []) (hr : Room k callerA)
    (F : ∀ (w : World) (mg : Str → Option Value) (fa : Addr) (h : Heap), YP w h → h.Ns mainGlobals mg → mg d.name = some (.ref fa) →
      ∃ (K : PySem.W.Frag) (fd : FuncData), K.In h ∧ (∀ (s : Shared) (u : Value), BindsTo s fd ⟨[u], []⟩ [(x, u)]) ∧ ∀ base : Heap, K.In base → base.Ns mainGlobals mg → FnG l.prog w K mg base k fa fd [x] (LSp K SLaw)) :
    PySem.W.WalkO p loose XP YP l.row.toRowW d [] (fun f vs => PySem.call f vs) := by
  refine Att.attach_callB hn hdf ?_
  intro w s0 s1 mg mb fa o pm cd doc a vs ns G Y ho hd hcd hmg hobj hints hlen hbits hg
  obtain ⟨K, fd, KX, hb, hF⟩ := F w mg fa _ Y G.T.g hmg
  exact lawG KX G.T.g G.T.b G.T.builtins G.T.nolimit hg hobj hints (Nat.le_trans hlen (by decide)) hr hF hb fun M => ⟨ns, rfl, hlen, fun z hz => bits_ib (hbits z hz), fun _ => rfl⟩
theorem walkZT {l : PySem.W.OpenLaw} {k : Nat} {p : Program} {loose : List Str} {XP : (Str → Option Value) → Heap → Prop} {YP : World → Heap → Prop} {d : DefRec} {x qn : Str}
    (hn : l.most = some 63) (hdf : d.params.defaults = []) (hr : Room k callerA) (hd : (recsOf p).find? (fun e => e.name == d.name) = some d)
    (F : ∀ (w : World) (mg : Str → Option Value) (fa : Addr) (h : Heap), YP w h → h.Ns mainGlobals mg → mg d.name = some (.ref fa) →
      ∃ (K : PySem.W.Frag) (fd : FuncData), K.In h ∧ PySem.W.noTabs K = true ∧ (∃ oc od osl, K.lookup fa = some ⟨oc, od, .func fd, osl⟩) ∧ (∀ (s : Shared) (u : Value), BindsTo s fd ⟨[u], []⟩ [(x, u)]) ∧ ∀ (base : Heap) (c T : Addr), K.In base → base.Ns mainGlobals mg → LamX.TabB base mg c T → fd.code = .ref c → FnG l.prog w K mg base k fa fd [x] (LSp K (SLawT T qn))) :
    PySem.W.WalkO p loose XP YP l.row.toRowW d [] (fun f vs => PySem.call f vs) := by
  refine Att.attach_callB hn hdf ?_
  intro w s0 s1 mg mb fa o pm cd doc a vs ns G Y ho hdt hcd hmg hobj hints hlen hbits hg
  obtain ⟨K, fd, KX, hK, ⟨oc, od, osl, lk⟩, hb, hF⟩ := F w mg fa _ Y G.T.g hmg
  obtain ⟨a2, o2, fd2, c, T, e1, e2, e3, e4, ic, it⟩ := G.T.tab d (List.mem_of_find?_eq_some hd)
  rw [hmg] at e1
  cases e1
  have e5 := KX _ _ lk
  rw [e2] at e5
  cases e5
  cases e3
  have CH := PySem.W.CodeHd.of ic it
  have hT : s1.heap.get? T = some { cls := .none, data := .fields #[] } := it.2
  have nT : K.lookup T = none := by
    cases q : K.lookup T with
    | none => rfl
    | some u =>
      have e6 := KX _ _ q
      have e7 := hT.symm.trans e6
      obtain rfl := Option.some.inj e7
      have h2 := List.all_eq_true.mp hK (T, _) (PySem.W.mem_of_lookupK q)
      exact absurd (show false = true from h2) Bool.false_ne_true
  exact lawGT KX G.T.g G.T.b G.T.builtins G.T.nolimit hg hT nT CH G.T.bmain hobj hints hlen (fun z hz => bits_ib (hbits z hz)) hr (fun base h1 h2 h3 => hF base c T h1 h2 h3 e4) hb
end DL
/-! DL40: a number on the left of an own operator; abs(x), bool(x) of an own class -/
namespace DL
open PySem PySem.Spec PyProof.Rows L2
section
open PySem.W
theorem add_no (i : Int) (t : Tok) (a : Addr) : Meets (Builtin.«int.__add__» ⟨[.int i t, .ref a], []⟩) (fun _ R s => (∃ C dx, s.heap.get? a = some (instObj C dx)) ∧ R (.ok (.ret Value.notImplemented)) s) :=
  .of_wp fun prog w A R s h => by obtain ⟨hp, g, d, tk, os⟩ := s; obtain ⟨⟨C, dx, hl⟩, h⟩ := h; wp_walk using wpAny_loadPart' hl; exact ⟨_, rfl, h⟩
theorem sub_no (i : Int) (t : Tok) (a : Addr) : Meets (Builtin.«int.__sub__» ⟨[.int i t, .ref a], []⟩) (fun _ R s => (∃ C dx, s.heap.get? a = some (instObj C dx)) ∧ R (.ok (.ret Value.notImplemented)) s) :=
  .of_wp fun prog w A R s h => by obtain ⟨hp, g, d, tk, os⟩ := s; obtain ⟨⟨C, dx, hl⟩, h⟩ := h; wp_walk using wpAny_loadPart' hl; exact ⟨_, rfl, h⟩
theorem mul_no (i : Int) (t : Tok) (a : Addr) : Meets (Builtin.«int.__mul__» ⟨[.int i t, .ref a], []⟩) (fun _ R s => (∃ C dx, s.heap.get? a = some (instObj C dx)) ∧ R (.ok (.ret Value.notImplemented)) s) :=
  .of_wp fun prog w A R s h => by obtain ⟨hp, g, d, tk, os⟩ := s; obtain ⟨⟨C, dx, hl⟩, h⟩ := h; wp_walk using wpAny_loadPart' hl; exact ⟨_, rfl, h⟩
/-- the number's own method says no -/
def IntNo (nm : String) : Prop := ∃ idl, Slot "int" (PySem.dunder nm) idl ∧ fillsNumberSlot (.type "int") nm = pure true ∧ ∀ (prog : Program) (w : World) (A : Around) (E : Value → Shared → Prop) (s : Shared) (i : Int) (t : Tok) (a C dx : Addr) (Q : Value → Shared → Prop), s.heap.get? a = some (instObj C dx) → Q .notImplemented s → wpAny (model prog w) A (call (.builtin idl) [.int i t, .ref a]) Q E s
theorem no_add : IntNo "add" := ⟨_, PySem.F.slot_int_add, PySem.F.fills_int_add, fun prog w A E s i t a C dx Q h q => call_meets PySem.F.slot_int_add (typeIs_int s i t) PySem.F.entry_int_add (PySem.F.args_int_add_2 _ _) (add_no i t a) ⟨⟨C, dx, h⟩, q⟩⟩
theorem no_sub : IntNo "sub" := ⟨_, PySem.F.slot_int_sub, PySem.F.fills_int_sub, fun prog w A E s i t a C dx Q h q => call_meets PySem.F.slot_int_sub (typeIs_int s i t) PySem.F.entry_int_sub (PySem.F.args_int_sub_2 _ _) (sub_no i t a) ⟨⟨C, dx, h⟩, q⟩⟩
theorem no_mul : IntNo "mul" := ⟨_, PySem.F.slot_int_mul, PySem.F.fills_int_mul, fun prog w A E s i t a C dx Q h q => call_meets PySem.F.slot_int_mul (typeIs_int s i t) PySem.F.entry_int_mul (PySem.F.args_int_mul_2 _ _) (mul_no i t a) ⟨⟨C, dx, h⟩, q⟩⟩
/-- i op x: x's class has the reflected method -/
theorem binR {prog : Program} {w : World} {A : Around} {E : Value → Shared → Prop} {t : Shared} {K : PySem.W.Frag} {a C L g g0 dx : Addr} {B : Heap} {mm : Str → Option Value} {oda : Option Obj} {op : Operator} {i : Int} {tk : Tok} {Q : Value → Shared → Prop}
    (N : IntNo op.info.2) (F : Fr B L t.heap mm) (X0 : K.In B) (I : InstAt t.heap a (instObj C dx) C oda) (hc : selfFirst K C = true)
    (hs : findIn K (.ref C) (PySem.dunder op.info.2) = some (some (.ref g0))) (hr : findIn K (.ref C) (dunderR op.info.2) = some (some (.ref g))) (hg : isFn K (.ref g) = true) (hsub : subIn K (.ref C) (.type "int") = some false)
    (run : wpAny (model prog w) A (call (.ref g) [.ref a, .int i tk]) (PySem.W.CmpBack Q) E t) : wpAny (model prog w) A (binaryOp op (.int i tk) (.ref a)) Q E t := by
  have X := X0.keeps F.keep
  obtain ⟨cd, rest, hcd, hm⟩ := ksp_first hc
  obtain ⟨idl, slot, fills, no⟩ := N
  rcases hi : op.info with ⟨sym, nm⟩
  rw [hi] at hs hr slot fills
  replace hs : findIn K (.ref C) (PySem.dunder nm) = some (some (.ref g0)) := hs
  replace hr : findIn K (.ref C) (dunderR nm) = some (some (.ref g)) := hr
  replace slot : Slot "int" (PySem.dunder nm) idl := slot
  replace fills : fillsNumberSlot (.type "int") nm = pure true := fills
  have tried := ksp_try X I hr hg run
  have gt := I.at_
  cases t with
  | mk hh g1 d1 t1 o1 =>
    have ta : Looks (model prog w) hh (typeOf (.ref a)) (.ref C) := I.type
    have ti : Looks (model prog w) hh (typeOf (.int i tk)) (.type "int") := Looks.of_pure rfl
    have fi : Looks (model prog w) hh (fillsNumberSlot (.type "int") nm) true := Looks.of_pure fills
    have fa : Looks (model prog w) hh (fillsNumberSlot (.ref C) nm) true := fills_K X hcd hm hs
    have sa : Looks (model prog w) hh (isSubtype (.ref C) (.type "int")) false := looks_subIn X hsub
    have pi : Looks (model prog w) hh (numberSlotInPython (.type "int") nm) false := Looks.of_pure rfl
    have apart : (Value.type "int" == Value.ref C) = false := Bool.eq_false_iff.mpr fun z => nomatch beq_iff_eq.mp z
    simp only [binaryOp, hi]
    apply wpAny_holding
    apply wpAny_bind
    unfold binaryOp1
    apply wpAny_bind
    apply ti.at
    apply wpAny_bind
    apply ta.at
    apply wpAny_bind
    apply fi.at
    simp only [apart, Bool.false_eq_true, if_false]
    ksp_lk
    refine wpAny_tryMethod_declines (typeIs_int _ i tk) slot (no _ _ _ _ _ _ _ _ _ _ _ gt ⟨rfl, ?_⟩)
    ksp_lk
    refine wpAny_mono tried (fun r u hr => ?_) fun _ _ z => z
    obtain ⟨v, hv, hq⟩ := hr
    subst hv
    ksp_lk
    exact hq
end
section
variable {X : Cx} {F0 : Hp} {M : Mem} {q : DK} {k k' : Nat} {f C : Addr} {fd : FuncData} {ps : List Str} {S : DSpec} {xq : XQ}
/-- i op x, i a number -/
theorem dop_binR {op : Operator} {x : Dat} {i : Int} {g0 : Addr} {ns : List Str} {fs : List Dat} (c : Met X.prog X.w X.K X.mg X.base C (dunderR op.info.2) k f fd ps S) (N : IntNo op.info.2) (hc : PySem.W.selfFirst X.K C = true)
    (hs : PySem.W.findIn X.K (.ref C) (PySem.dunder op.info.2) = some (some (.ref g0))) (hsub : PySem.W.subIn X.K (.ref C) (.type "int") = some false)
    (hr : Room k' X.A) (hk : k ≤ k') (tk : XOk X F0 xq) (hi : Ins M C ns fs x) (h : S [x, .int i] M q xq) : DOp X F0 (binaryOp op) (.int i) x M q :=
  dop_raw fun F H vx vy Q om rx ry kq pins σ s v u I rv ru => by
    obtain ⟨a, dx, xs, rfl, ha, _, _⟩ := hi.at om ry
    obtain rfl : u = .ref a := ru
    obtain rfl : vx = .int i := rx
    obtain ⟨t, rfl⟩ := rv
    obtain ⟨od, J⟩ := inst_at I ha
    obtain ⟨mm, Fr⟩ := I.fr
    refine binR N Fr I.ok.mod.kin J hc hs c.at_ c.fn hsub ?_
    exact wpAny_mono (c.run hr hk tk h pins σ H s [.ref a, .int i t] [] F [.ref a, .int i] [] Q I om (Reps.cons ry (Reps.cons rep_int Reps.nil)) Reps.nil (.cons rfl (.cons ⟨t, rfl⟩ .nil)) .nil kq) (fun v s' z => ep_cmp z) fun _ _ z => z
end
section
open PySem.W
def AnyBack (Q : Value → Shared → Prop) (v : Value) (s' : Shared) : Prop := Q v s'
theorem abs_K {prog : Program} {w : World} {A : Around} {E : Value → Shared → Prop} {s : Shared} {K : Frag} {x C L f : Addr} {h₀ : Heap} {m : Str → Option Value} {ox : Obj} {od : Option Obj} {Q : Value → Shared → Prop} (F : Fr h₀ L s.heap m) (X₀ : K.In h₀) (I : InstAt s.heap x ox C od) (hs : findIn K (.ref C) "__abs__" = some (some (.ref f))) (hf : isFn K (.ref f) = true)
    (h : wpAny (model prog w) A.in1 (call (.ref f) [.ref x]) Q E s) : wpAny (model prog w) A (call (.builtin "abs") [.ref x]) Q E s := by
  refine Calls.call_function_entry PyProof.Rows.kind_abs PyProof.Rows.plain_abs PyProof.Rows.entry_abs (PyProof.Rows.args_abs _) ?_
  unfold Builtin.«abs»
  refine wpAny_bind (m := oneArg "abs" _) (wpAny_pure ?_)
  refine wpAny_bind (m := callSpecial? (.ref x) (Str.ofString "__abs__")) (special_fn (X₀.keeps F.keep) I hs (beq_iff_eq.mp hf) (wpAny_mono h (fun r s' hr => ?_) fun _ _ y => y))
  exact wpAny_pure ⟨_, rfl, hr⟩
end
section
variable {X : Cx} {F0 : Hp} {M : Mem} {q : DK} {k k' : Nat} {f C : Addr} {fd : FuncData} {ps : List Str} {S : DSpec} {xq : XQ}
/-- abs(x) -/
theorem dcl_absO {x : Dat} {ns : List Str} {fs : List Dat} (c : Met X.prog X.w X.K X.mg X.base C "__abs__" k f fd ps S) (hr : Room k' X.A) (hk : k + 1 ≤ k') (tk : XOk X F0 xq) (hi : Ins M C ns fs x) (h : S [x] M q xq) : DCl X F0 (.builtin "abs") [x] M q :=
  dcl_raw fun F H vs Q om rx0 kq pins σ s us I rv => by
    obtain ⟨vx, rfl, rx⟩ := reps1 rx0
    obtain ⟨a, dx, xs, rfl, ha, _, _⟩ := hi.at om rx
    obtain ⟨u, rfl, ru⟩ : ∃ u, us = [u] ∧ RelV (.ref a) u := by
      cases rv with
      | cons r t =>
        cases t
        exact ⟨_, rfl, r⟩
    obtain rfl : u = .ref a := ru
    obtain ⟨od, J⟩ := inst_at I ha
    obtain ⟨mm, Fr⟩ := I.fr
    exact abs_K Fr I.ok.mod.kin J c.at_ c.fn (c.run1 hr hk tk h pins σ H s [.ref a] F [.ref a] Q I om (Reps.cons rx Reps.nil) (.cons rfl .nil) kq)
end
section
open PySem.W
theorem bool_new {prog : Program} {w : World} {x : Value} : MeetsIn prog w (Builtin.«bool.__new__» ⟨[.type "bool", x], []⟩) (fun A R s => ∀ n, wpAny (model prog w) A.in1 (truthy x) (fun b s' => R (.ok (.ret (.bool b))) s') (fun e s' => R (.error e) s') { s with toks := n }) :=
  MeetsIn.of_wp fun A R s hs => by
    obtain ⟨hp, g, d, tk, os⟩ := s
    have f1 := PySem.F.conv_sub_bool
    repeat (any_goals (first | assumption | (with_reducible refine wpAny_mono (hs _) (fun b s' hb => ?_) fun _ _ z => z) | wp_step))
    all_goals exact ⟨_, rfl, hb⟩
theorem bool_K {prog : Program} {w : World} {A : Around} {E : Value → Shared → Prop} {s : Shared} {x : Value} {Q : Value → Shared → Prop} (h : ∀ n, wpAny (model prog w) A.in1.in1 (truthy x) (fun b s' => Q (.bool b) s') E { s with toks := n }) : wpAny (model prog w) A (call (.type "bool") [x]) Q E s :=
  callType_newIn PySem.F.called_bool PySem.F.newNe_bool (PySem.F.typeCall_bool_1 x) (PySem.F.newCall_bool_1 x) (fun obj => PySem.F.args_object_init_2 obj x) PySem.F.entry_bool_new bool_new fun n => wpAny_mono (h n) (fun b s' hb => ⟨rfl, hb⟩) fun _ _ z => z
end
section
variable {X : Cx} {F0 : Hp} {M : Mem} {q : DK} {k k' : Nat} {f C : Addr} {fd : FuncData} {ps : List Str} {S : DSpec} {xq : XQ} {m : Str}
def DRun2 (X : Cx) (F0 : Hp) (f : Value) (ds : List Dat) (M : Mem) (q : DK) : Prop :=
  ∀ (pins : List (Addr × Obj)) (σ : L2.St) (H : Hp) (s : Shared) (us : List Value) (F : Hp) (vs : List V) (Q : VK), Inv X pins σ H s → OkM X.K F0 F M H → Reps X.K F ds vs → Vals vs us →
    kV X.K F0 F q Q → wpAny (model X.prog X.w) X.A.in1.in1 (call f us) (EP X pins σ Q) X.xe s
theorem Met.run2 {ds : List Dat} (c : Met X.prog X.w X.K X.mg X.base C m k f fd ps S) (hr : Room k' X.A) (hk : k + 2 ≤ k') (tk : XOk X F0 xq) (h : S ds M q xq) : DRun2 X F0 (.ref f) ds M q := by
  intro pins σ H s us Fz vs Q I om rd vd kq
  have hl : us.length = ps.length := by rw [← vd.length, ← rd.length, c.len _ _ _ _ h]
  have sp : LSp X.K S vs H Q (wX X.K F0 xq) := ⟨Fz, _, M, q, xq, om.entry, rd, h, kq.entry om, kX.entry om⟩
  refine wpAny_call (codeAny_mono (c.ok.run X.A.in1.in1 X.stack s H _ _ _ Q _ (hr.mono hk).in1.in1 I.env0.in1.in1 (c.pos s us hl) vd sp) ?_)
  intro r s2 out
  cases r with
  | error e => exact passes_call tk (fun _ _ _ _ z => z) pins σ H s e s2 I out
  | ok fl =>
    cases fl with
    | ret u => exact I.after out
    | next => exact out.elim
    | brk => exact out.elim
    | cont => exact out.elim
/-- bool(x) -/
theorem dcl_boolO {x : Dat} {ns : List Str} {fs : List Dat} (c : Met X.prog X.w X.K X.mg X.base C "__bool__" k f fd ps S) (hr : Room k' X.A) (hk : k + 2 ≤ k') (tk : XOk X F0 xq) (hi : Ins M C ns fs x) (h : S [x] M (fun d M' => ∃ b, d = .bl b ∧ q (.bl b) M') xq) : DCl X F0 (.type "bool") [x] M q :=
  dcl_raw fun F H vs Q om rx0 kq pins σ s us I rv => by
    obtain ⟨vx, rfl, rx⟩ := reps1 rx0
    obtain ⟨a, dx, xs, rfl, ha, _, _⟩ := hi.at om rx
    obtain ⟨u, rfl, ru⟩ : ∃ u, us = [u] ∧ RelV (.ref a) u := by
      cases rv with
      | cons r t =>
        cases t
        exact ⟨_, rfl, r⟩
    obtain rfl : u = .ref a := ru
    refine bool_K fun n => ?_
    have I := I.tok n
    obtain ⟨od, J⟩ := inst_at I ha
    obtain ⟨mm, Fr⟩ := I.fr
    refine PySem.W.truthy_K Fr I.ok.mod.kin J c.at_ c.fn ?_
    refine wpAny_mono (Met.run2 c hr hk tk h pins σ H _ [.ref a] F [.ref a] (fun w H' => ∃ b, w = .bl b ∧ Q (.bl b) H') I om (Reps.cons rx Reps.nil) (.cons rfl .nil) ?_) (fun r s' z => ?_) fun _ _ z => z
    · rintro F' H' w d M' e' o' r ⟨b, rfl, hq⟩
      obtain rfl : w = .bl b := r
      exact ⟨b, rfl, kq F' H' _ _ M' e' o' rep_bl hq⟩
    · obtain ⟨w, H', I', rw', b, rfl, hq⟩ := z
      obtain rfl : r = .bool b := rw'
      exact ⟨.bl b, H', I', rfl, hq⟩
end
end DL
/-! a statement whose ways on change nothing -/
namespace DL
open PySem PySem.Spec PyProof.Rows L2
section
variable {X : Cx} {F0 : Hp} {ρ : DEnv} {M : Mem}
theorem ds_same {s : Stmt} {D : DEnds} (h : DS X F0 s ρ M { nx := fun ρ' M' => ρ' = ρ ∧ M' = M, rt := D.rt, bk := D.bk, ct := D.ct }) (h2 : D.nx ρ M) : DS X F0 s ρ M D :=
  ds_meet _ h fun ρ' M' ⟨e1, e2⟩ => by subst e1 e2; exact h2
end
end DL
/-! dicts that are only read any more: items, get -/
namespace DL
open PySem PySem.Spec PyProof.Rows L2
theorem pss_lockP {X : Cx} {sts : List Stmt} {t : TS} (h : PSs X sts t) : PSs X sts (fun D σ H => ∃ d u, H d = some u ∧ Mut (some u) ∧ ∀ od, t D σ (upd H d (.frz od u))) :=
  ⟨fun pins s σ H D I hw => by
    obtain ⟨d, u, hd, mu, hw⟩ := hw
    obtain ⟨od, I1⟩ := I.lock hd mu
    exact h.run pins s σ _ _ I1 (hw od)⟩
theorem OkM.lock {K : PySem.W.Frag} {F0 F H : Hp} {M : Mem} (o : OkM K F0 F M H) {p : Addr} {w : MO} (u : HO) (h : M p = some w) : OkM K F0 (upd F p u) (delM M p) (upd H p u) := by
  have hF := (o.mem p w h).1
  refine ⟨o.base.trans (Ex.new hF), o.sub.both, fun q x hq => ?_⟩
  by_cases e : q = p
  · subst e
    rw [delM_same] at hq
    cases hq
  · rw [delM_ne e] at hq
    obtain ⟨h1, v, h2, h3⟩ := o.mem q x hq
    exact ⟨by rw [upd_ne e]; exact h1, v, by rw [upd_ne e]; exact h2, h3.mono (Ex.new hF)⟩
theorem dss_lockD {X : Cx} {F0 : Hp} {sts : List Stmt} {ρ : DEnv} {M : Mem} {D : DEnds} {i : Nat} {p : Addr} {ks : List Key} {ds : List Dat} (hi : ρ[i]? = some (some (.ptr p))) (hM : M p = some (.dct ks ds)) (h : DSs X F0 sts (ρ.set i (some (.dcf ks ds))) (delM M p) D) : DSs X F0 sts ρ M D :=
  PSs.wk (pss_lockP h) fun E σ H ⟨F, om, ol, k⟩ => by
    obtain ⟨hF, u, hu, ru⟩ := om.mem p _ hM
    obtain ⟨xs, rfl, hl, rs⟩ := ru
    refine ⟨p, _, hu, ?_, fun od => ?_⟩
    · first | trivial | exact rfl | decide | (unfold Mut; trivial) | (simp [Mut]; done)
    have e : Ex F (upd F p (.frz od (.dK (ks.zip xs)))) := Ex.new hF
    refine ⟨upd F p (.frz od (.dK (ks.zip xs))), om.lock _ hM, ?_, k.mono e⟩
    obtain ⟨v, hv, rv⟩ := ol.loc i _ hi
    obtain rfl : v = .ref p := rv
    have r : Rep X.K (upd F p (.frz od (.dK (ks.zip xs)))) (.dcf ks ds) (.ref p) := ⟨p, xs, od, rfl, upd_same, hl, rs.mono e⟩
    have := (ol.mono e).set i r
    rwa [set_self hv] at this
theorem valD_getF {K : PySem.W.Frag} {F H : Hp} {ks : List Key} {ds : List Dat} {xs : List V} {a : Addr} {o : Obj} {k : Key} {v : V} (ha : H a = some (.frz o (.dK (ks.zip xs)))) (hr : Reps K F ds xs) (rk : Rep K F (keyD k) v) : ∃ r, DGet H a v r ∧ r.isSome = (valD ks ds k).isSome ∧ ∀ d, valD ks ds k = some d → ∃ x, r = some x ∧ Rep K F d x := by
  obtain ⟨h1, h2⟩ := valD_rep (k := k) (ks := ks) hr
  obtain rfl := rep_key rk
  refine ⟨_, .inl ⟨_, k, .inr ⟨o, ha⟩, rfl, rfl⟩, ?_, h2⟩
  cases e : valD ks ds k with
  | none =>
    rw [h1 e]
    rfl
  | some d =>
    obtain ⟨x, hx, _⟩ := h2 d e
    rw [hx]
    rfl
section
variable {X : Cx} {F0 : Hp} {ρ : DEnv} {M : Mem} {q : DK} {k' : Nat} {x y : Dat} {ks : List Key} {ds : List Dat} {k : Key} {a b o e f : Expr} {pos apos cpos : Pos}
theorem de_dixF (hr : Room k' X.A) (h : DE X F0 a ρ M fun x M1 => DE X F0 b ρ M1 fun y M2 => ∃ ks ds k, x = .dcf ks ds ∧ y = keyD k ∧ ∃ d, valD ks ds k = some d ∧ q d M2) (hs : NoSl b := by first | exact fun _ _ => rfl | trivial) : DE X F0 (.Subscript a b pos) ρ M q :=
  PE.wk (pe_dget (Room.u1 hr) (uE (F0 := F0)) (uE (F0 := F0)) hs) fun σ H Q ⟨F, om, ol, kq⟩ => tU.go h om ol fun F1 H1 vx x M1 e1 om1 r1 h1 => tU.go h1 om1 (ol.mono e1) fun F2 H2 vy y M2 e2 om2 r2 ⟨ks, ds, k, hd, hy, d, hv, hq⟩ => by
    subst hy hd
    obtain ⟨p, xs, o, rfl, hp, _, hxs⟩ := r1.mono e2
    obtain ⟨r, h3, _, h5⟩ := valD_getF (om2.sub _ _ hp) hxs r2
    obtain ⟨v, rfl, rv⟩ := h5 d hv
    exact ⟨p, v, rfl, h3, (kq.mono (e1.trans e2)).fin om2 rv hq⟩
def DGt2 (p : Addr) (q : DK) (y z : Dat) (M : Mem) : Prop := ∃ ks ds k, M p = some (.dct ks ds) ∧ y = keyD k ∧ q ((valD ks ds k).getD z) M
def DGt1 (X : Cx) (F0 : Hp) (e f : Expr) (ρ : DEnv) (q : DK) (x : Dat) (M : Mem) : Prop := ∃ p ks ds, x = .ptr p ∧ M p = some (.dct ks ds) ∧ DE X F0 e ρ M fun y M2 => DE X F0 f ρ M2 fun z M3 => DGt2 p q y z M3
/-- d.get(k, x) of a cell -/
theorem de_dget2 (hr : Room k' X.A) (h : DE X F0 o ρ M fun x M1 => DGt1 X F0 e f ρ q x M1) (m : M2 X o "get" apos e f cpos) : DE X F0 (.Call (.Attribute o "get" apos) [e, f] [] cpos) ρ M q :=
  PE.wk (pe_dget2 (Room.u1 hr) (uE (F0 := F0)) (uE (F0 := F0)) (uE (F0 := F0)) m) fun σ H Q ⟨F, om, ol, kq⟩ => tU.go h om ol fun F1 H1 vx x M1 e1 om1 r1 ⟨p, ks1, ds1, hx, hM1, h1⟩ => by
    subst hx
    obtain rfl : vx = .ref p := r1
    obtain ⟨_, u, hu, ru⟩ := om1.mem p _ hM1
    obtain ⟨xs, rfl, _, _⟩ := ru
    refine ⟨p, rfl, .inl ⟨_, .inl hu⟩, tU.go h1 om1 (ol.mono e1) fun F2 H2 vy y M2 e2 om2 r2 h2 => tU.go h2 om2 ((ol.mono e1).mono e2) fun F3 H3 vz z M3 e3 om3 r3 ⟨ks, ds, k, hM3, hy, hq⟩ => ?_⟩
    subst hy
    obtain ⟨_, u3, hu3, ru3⟩ := om3.mem p _ hM3
    obtain ⟨xs3, rfl, hl3, rs3⟩ := ru3
    obtain ⟨r, hr1, hr2, hr3⟩ := valD_get hu3 rs3 (r2.mono e3)
    refine ⟨r, hr1, ?_⟩
    cases hv : valD ks ds k with
    | none =>
      rw [hv] at hr2 hq
      cases r with
      | none => exact (kq.mono (e1.trans (e2.trans e3))).fin om3 r3 hq
      | some _ => cases hr2
    | some d =>
      obtain ⟨x, rfl, rx⟩ := hr3 d hv
      rw [hv] at hq
      exact (kq.mono (e1.trans (e2.trans e3))).fin om3 rx hq
end
/-! ### the pairs of a dict that is only read any more -/
def itemsD (ks : List Key) (ds : List Dat) : List Dat := (ks.zip ds).map fun kd => .tup [keyD kd.1, kd.2]
theorem itemsD_len {ks : List Key} {ds : List Dat} (h : ks.length = ds.length) : (itemsD ks ds).length = ks.length := by
  unfold itemsD
  rw [List.length_map, List.length_zip, ← h, Nat.min_self]
theorem walk_itemsD {K : PySem.W.Frag} {F0 F1 : Hp} {d : Addr} {o : Obj} {ks : List Key} {ds : List Dat} {xs : List V} (h : F1 d = some (.frz o (.dK (ks.zip xs)))) (hl : ks.length = xs.length) (r : Reps K F1 ds xs) : WalkD K F0 F1 (Iti d o (ks.zip xs)) (itemsD ks ds) := fun F H M i e om => by
  have hs : H d = some (.frz o (.dK (ks.zip xs))) := om.sub _ _ (e _ _ h)
  have hl2 : ks.length = ds.length := by rw [hl, r.length]
  refine ⟨fun x hx => ?_, fun hi => ⟨hs, by rw [itemsD_len hl2] at hi; rw [List.length_zip, ← hl, Nat.min_self]; exact hi⟩⟩
  unfold itemsD at hx
  rw [List.getElem?_map] at hx
  obtain ⟨⟨k, y⟩, hz, rfl⟩ := Option.map_eq_some_iff.mp hx
  obtain ⟨hk, hy⟩ := List.getElem?_zip_eq_some.mp hz
  obtain ⟨v, hv, rv⟩ := r.get hy
  have hz2 : (ks.zip xs)[i]? = some (k, v) := List.getElem?_zip_eq_some.mpr ⟨hk, hv⟩
  have hi : i < (ks.zip xs).length := (List.getElem?_eq_some_iff.mp hz2).1
  refine ⟨⟨hs, hi⟩, fun z H' hy2 => ?_⟩
  obtain ⟨T, k2, v2, h1, h2, h3, h4⟩ := hy2
  rw [hz2] at h1
  cases h1
  subst h2 h4
  have hF := om.freeF h3
  refine ⟨upd F T (.tup [L2.kV k, v]), Ex.new hF, om.new h3, ?_⟩
  refine ⟨T, [L2.kV k, v], rfl, ?_, ?_⟩
  · exact SqT.of upd_same
  · exact ⟨_, _, rfl, (by cases k <;> rfl), ⟨_, _, rfl, (rv.mono e).mono (Ex.new hF), rfl⟩⟩
theorem di_items {X : Cx} {F0 : Hp} {ρ : DEnv} {M : Mem} {e : Expr} {elts : List Expr} {kk : Nat} {tpos apos cpos : Pos} {q : List Dat → Mem → Prop} (h : DE X F0 e ρ M fun d M1 => ∃ ks ds, d = .dcf ks ds ∧ q (itemsD ks ds) M1) (hbase : attributeBase e "items" X.env (eval e X.env) = eval e X.env := by rfl) (hline : (apos.endLine == cpos.line) = true := by rfl) :
    DI X F0 (.Tuple elts kk tpos) (.Call (.Attribute e "items" apos) [] [] cpos) ρ M q :=
  ⟨_, pi_items (uE (F0 := F0)) hbase hline, fun F σ H R om ol k => tU.go h om ol fun F1 H1 v d M1 e1 om1 r1 ⟨ks, ds, hd, h1⟩ => by
    subst hd
    obtain ⟨p, xs, o, rfl, h2, h3, h4⟩ := r1
    exact ⟨p, o, _, rfl, om1.sub _ _ h2, k F1 H1 _ _ M1 e1 om1 (walk_itemsD h2 h3 h4) h1⟩⟩
end DL
/-! names, numbers, lists -/
namespace DL
open PySem PySem.Spec PyProof.Rows L2
def numD : Dat → Int → Int → Bool
  | .int i, a, b => decide (a ≤ i) && decide (i ≤ b)
  | _, _, _ => false
def S_is_number : DSpec := fun ds M q _ => ∃ d n a b c, ds = [d, .int a, .int b] ∧ tyName d = some n ∧ numD d a b = c ∧ q (.bl c) M
theorem numD_t {i a b : Int} (h : a ≤ i) : numD (.int i) a b = decide (i ≤ b) := by
  show (decide (a ≤ i) && decide (i ≤ b)) = _
  rw [decide_eq_true h, Bool.true_and]
theorem numD_f {i a b : Int} (h : ¬ a ≤ i) : numD (.int i) a b = false := by
  show (decide (a ≤ i) && decide (i ≤ b)) = _
  rw [decide_eq_false h, Bool.false_and]
def nameD : Dat → Bool
  | .str s => decide (1 ≤ s.length) && decide (s.length ≤ 8) && s.cps.toList.all (fun c => decide (c ∈ abcL))
  | _ => false
theorem nameD_f {s : Str} (h : ¬ (1 ≤ s.length ∧ s.length ≤ 8)) : nameD (.str s) = false := by
  show (decide (1 ≤ s.length) && decide (s.length ≤ 8) && _) = false
  by_cases a : 1 ≤ s.length
  · rw [decide_eq_true a, Bool.true_and, decide_eq_false (fun b => h ⟨a, b⟩), Bool.false_and]
  · rw [decide_eq_false a, Bool.false_and, Bool.false_and]
theorem nameD_t {s : Str} (h : 1 ≤ s.length ∧ s.length ≤ 8) : nameD (.str s) = s.cps.toList.all (fun c => decide (c ∈ abcL)) := by
  show (decide (1 ≤ s.length) && decide (s.length ≤ 8) && _) = _
  rw [decide_eq_true h.1, decide_eq_true h.2, Bool.true_and, Bool.true_and]
def letD : Dat → Dat
  | .str s => .bl (decide (s.cps.toList.headD 0 ∈ abcL))
  | _ => .non
def S_is_name : DSpec := fun ds M q _ => ∃ d n c, ds = [d] ∧ tyName d = some n ∧ (∀ s, d = .str s → s.length ≤ 100000) ∧ nameD d = c ∧ q (.bl c) M
def listD : Dat → Bool
  | .lst _ => true
  | .scr _ => true
  | .tup _ => true
  | _ => false
def S_is_listed : DSpec := fun ds M q _ => ∃ d n c, ds = [d] ∧ tyName d = some n ∧ listD d = c ∧ q (.bl c) M
theorem let_abc {c : Nat} (h : 97 ≤ c ∧ c ≤ 122) : decide (c ∈ abcL) = true := by
  have key : ∀ k : Fin 26, decide (97 + k.val ∈ abcL) = true := by decide +kernel
  have := key ⟨c - 97, by omega⟩
  rwa [show 97 + (c - 97) = c by omega] at this
theorem nm_good {s : Str} (h : NmL s) : nameD (.str s) = true := by
  rw [nameD_t ⟨h.2.1, Nat.le_trans h.2.2 (by decide)⟩]
  exact List.all_eq_true.mpr fun c hc => let_abc (h.1 c hc)
theorem nameD_bad {s : Str} {c : Nat} (hc : c ∈ s.cps.toList) (hb : c ∉ abcL) : nameD (.str s) = false := by
  by_cases h : 1 ≤ s.length ∧ s.length ≤ 8
  · rw [nameD_t h]
    refine Bool.eq_false_iff.mpr fun z => ?_
    exact hb (of_decide_eq_true (List.all_eq_true.mp z c hc))
  · exact nameD_f h
theorem numD_T {i a b : Int} (h : a ≤ i ∧ i ≤ b) : numD (.int i) a b = true := by
  rw [numD_t h.1, decide_eq_true h.2]
theorem numD_F {i a b : Int} (h : ¬ (a ≤ i ∧ i ≤ b)) : numD (.int i) a b = false := by
  by_cases x : a ≤ i
  · rw [numD_t x, decide_eq_false fun y => h ⟨x, y⟩]
  · exact numD_f x
end DL
/-! jobs -/
namespace DL
open PySem PySem.Spec PyProof.Rows L2
abbrev JRow := Str × Int × Str
abbrev rowD (r : JRow) : Dat := .tup [.str r.1, .int r.2.1, .str r.2.2]
structure RowG (r : JRow) : Prop where
  nm : nameD (.str r.1) = true
  t1 : 1 ≤ r.2.1
  t2 : r.2.1 ≤ 1000
  ot : r.2.2 = "" ∨ nameD (.str r.2.2) = true
theorem name_len {z : Str} (h : nameD (.str z) = true) : 1 ≤ z.length ∧ z.length ≤ 8 := by
  by_cases e : 1 ≤ z.length ∧ z.length ≤ 8
  · exact e
  · rw [nameD_f e] at h
    cases h
def S_is_rowG : DSpec := fun ds M q _ => ∃ (n : Str) (t : Int) (o : Str), ds = [.tup [.str n, .int t, .str o]] ∧ RowG (n, t, o) ∧ q (.bl true) M
/-- the other of a name -/
def othOf (rows : List JRow) (n : Str) : Option Str := (rows.find? fun r => decide (r.1 = n)).map (·.2.2)
def ringGo (rows : List JRow) (name : Str) : Nat → Str → Bool
  | 0, _ => false
  | k + 1, here => if here = "" ∨ here = name then decide (here = name) else ringGo rows name k ((othOf rows here).getD "")
def ringB (rows : List JRow) (name : Str) : Bool := ringGo rows name rows.length ((othOf rows name).getD "")
theorem ringGo_stop {rows : List JRow} {n z : Str} {k : Nat} (h : z = "" ∨ z = n) : ringGo rows n (k + 1) z = decide (z = n) := if_pos h
theorem ringGo_go {rows : List JRow} {n z : Str} {k : Nat} (h1 : ¬ z = "") (h2 : ¬ z = n) : ringGo rows n (k + 1) z = ringGo rows n k ((othOf rows z).getD "") := if_neg (fun h => h.elim h1 h2)
abbrev keysD (rows : List JRow) : List Key := rows.map fun r => Sum.inr r.1
abbrev othsD (rows : List JRow) : List Dat := rows.map fun r => .str r.2.2
abbrev toldsD (rows : List JRow) : List Dat := rows.map fun r => .int r.2.1
def Closed (rows : List JRow) : Prop := ∀ r ∈ rows, r.2.2 = "" ∨ r.2.2 ∈ rows.map (·.1)
theorem othOf_some {rows : List JRow} {n : Str} (h : n ∈ rows.map (·.1)) : ∃ r, r ∈ rows ∧ r.1 = n ∧ othOf rows n = some r.2.2 := by
  obtain ⟨r, hr, rfl⟩ := List.mem_map.mp h
  unfold othOf
  cases e : rows.find? fun x => decide (x.1 = r.1) with
  | none =>
    have := List.find?_eq_none.mp e r hr
    simp at this
  | some x =>
    have h1 := List.mem_of_find?_eq_some e
    have h2 := List.find?_some e
    exact ⟨x, h1, of_decide_eq_true h2, rfl⟩
theorem valD_map (f : JRow → Dat) {n : Str} : ∀ {rows : List JRow}, valD (keysD rows) (rows.map f) (.inr n) = (rows.find? fun r => decide (r.1 = n)).map f
  | [] => rfl
  | r :: rows => by
    unfold valD
    rw [show keysD (r :: rows) = .inr r.1 :: keysD rows from rfl, List.map_cons, List.zip_cons_cons, List.find?_cons, List.find?_cons]
    by_cases e : r.1 = n
    · have e2 : (Sum.inr r.1 : Key) = .inr n := by rw [e]
      rw [decide_eq_true e, decide_eq_true e2]
      rfl
    · have e2 : ¬ (Sum.inr r.1 : Key) = .inr n := fun z => e (Sum.inr.inj z)
      rw [decide_eq_false e, decide_eq_false e2]
      exact valD_map f (rows := rows)
theorem valD_oth {rows : List JRow} {n : Str} : valD (keysD rows) (othsD rows) (.inr n) = (othOf rows n).map Dat.str := by
  rw [valD_map]
  unfold othOf
  rw [Option.map_map]
  rfl
theorem has_key {rows : List JRow} {n : Str} {f : JRow → Dat} : (valD (keysD rows) (rows.map f) (.inr n)).isSome = decide (n ∈ rows.map (·.1)) := by
  rw [valD_map, Option.isSome_map]
  by_cases h : n ∈ rows.map (·.1)
  · rw [decide_eq_true h]
    obtain ⟨r, hr, e⟩ := List.mem_map.mp h
    exact List.find?_isSome.mpr ⟨r, hr, decide_eq_true e⟩
  · rw [decide_eq_false h]
    refine Bool.eq_false_iff.mpr fun z => h ?_
    obtain ⟨r, hr, e⟩ := List.find?_isSome.mp z
    exact List.mem_map.mpr ⟨r, hr, of_decide_eq_true e⟩
def S_ring : DSpec := fun ds M q _ => ∃ (rows : List JRow) (n : Str) (c : Bool), ds = [.dct (keysD rows) (othsD rows), .str n] ∧ Closed rows ∧ n ∈ rows.map (·.1) ∧ rows.length ≤ 8 ∧ ringB rows n = c ∧ q (.bl c) M
/-- what the constructor lets -/
structure JobsG (rows : List JRow) : Prop where
  n1 : 1 ≤ rows.length
  n8 : rows.length ≤ 8
  row : ∀ r ∈ rows, RowG r
  nd : (rows.map (·.1)).Nodup
  cl : Closed rows
  ring : ∀ r ∈ rows, ringB rows r.1 = false
abbrev jobsD (C : Addr) (rows : List JRow) (t : Bool) : Dat := .obj C ["others", "tolds", "job_rows", "is_turned"] [.dct (keysD rows) (othsD rows), .dct (keysD rows) (toldsD rows), .tup (rows.map rowD), .bl t]
def S_jinit (C : Addr) : DSpec := fun ds M q _ => ∃ (a : Addr) (t : Bool) (rows : List JRow), ds = [.ptr a, .bl t, .tup (rows.map rowD)] ∧ M a = some (.obj C [] []) ∧ JobsG rows ∧
  q .non (updM M a (.obj C ["others", "tolds", "job_rows", "is_turned"] [.dct (keysD rows) (othsD rows), .dct (keysD rows) (toldsD rows), .tup (rows.map rowD), .bl t]))
def nmsD (rows : List JRow) : List Dat := rows.map fun r => .str r.1
theorem nmsD_strs {rows : List JRow} : nmsD rows = (rows.map (·.1)).map Dat.str := by
  unfold nmsD
  rw [List.map_map]
  rfl
def fst0 : Dat → Dat
  | .tup (x :: _) => x
  | _ => .non
theorem fst0_rows {rows : List JRow} : (rows.map rowD).map fst0 = nmsD rows := by
  rw [List.map_map]
  rfl
def rk : Dat → Key
  | .tup (.str n :: _) => .inr n
  | _ => .inl 0
def ro : Dat → Dat
  | .tup [_, _, o] => o
  | _ => .non
def rt1 : Dat → Dat
  | .tup [_, t, _] => t
  | _ => .non
theorem rk_rows {rows : List JRow} : (rows.map rowD).map rk = keysD rows := by
  rw [List.map_map]
  rfl
theorem ro_rows {rows : List JRow} : (rows.map rowD).map ro = othsD rows := by
  rw [List.map_map]
  rfl
theorem rt1_rows {rows : List JRow} : (rows.map rowD).map rt1 = toldsD rows := by
  rw [List.map_map]
  rfl
theorem nd_map {α β : Type} {f : α → β} (hf : ∀ a b, f a = f b → a = b) : ∀ {l : List α}, l.Nodup → (l.map f).Nodup
  | [], _ => List.nodup_nil
  | a :: l, h => by
    obtain ⟨h1, h2⟩ := List.nodup_cons.mp h
    refine List.nodup_cons.mpr ⟨fun z => ?_, nd_map hf h2⟩
    obtain ⟨b, hb, e⟩ := List.mem_map.mp z
    rw [← hf _ _ e] at h1
    exact h1 hb
theorem keys_nd {rows : List JRow} (h : (rows.map (·.1)).Nodup) : (keysD rows).Nodup := by
  have := nd_map (f := fun s : Str => (Sum.inr s : Key)) (fun a b e => Sum.inr.inj e) h
  rwa [List.map_map] at this
theorem nd_take {l : List Str} {k : Nat} {a : Str} (h : l.Nodup) (e : l[k]? = some a) : a ∉ l.take k := fun z => by
  have h1 : a ∈ l.drop k := by
    refine List.mem_of_getElem? (i := 0) ?_
    rw [List.getElem?_drop]
    exact e
  rw [← List.take_append_drop k l] at h
  exact (List.nodup_append.mp h).2.2 a z a h1 rfl
/-- a call whose list is frozen or stays a cell -/
def lstQ (ds : List Dat) (M : Mem) (q : DK) : Prop := q (.lst ds) M ∨ ∀ p, M p = none → q (.ptr p) (updM M p (.lst ds))
def S_rows (C : Addr) : DSpec := fun ds M q _ => ∃ rows t, ds = [jobsD C rows t] ∧ lstQ (rows.map rowD) M q
def S_names_ (C : Addr) : DSpec := fun ds M q _ => ∃ rows t, ds = [jobsD C rows t] ∧ rows.length ≤ 1000 ∧ lstQ (nmsD rows) M q
def S_needG (C : Addr) : DSpec := fun ds M q _ => ∃ (rows : List JRow) (t : Bool) (n : Str), ds = [jobsD C rows t, .str n] ∧ n ∈ rows.map (·.1) ∧ q .non M
def toldOf (rows : List JRow) (n : Str) : Int := ((rows.find? fun r => decide (r.1 = n)).map (·.2.1)).getD 0
def otherOf (rows : List JRow) (n : Str) : Str := (othOf rows n).getD ""
def S_toldG (C : Addr) : DSpec := fun ds M q _ => ∃ (rows : List JRow) (t : Bool) (n : Str), ds = [jobsD C rows t, .str n] ∧ n ∈ rows.map (·.1) ∧ q (.int (toldOf rows n)) M
def S_otherG (C : Addr) : DSpec := fun ds M q _ => ∃ (rows : List JRow) (t : Bool) (n : Str), ds = [jobsD C rows t, .str n] ∧ n ∈ rows.map (·.1) ∧ q (.str (otherOf rows n)) M
def S_jturned (C : Addr) : DSpec := fun ds M q _ => ∃ rows t, ds = [jobsD C rows t] ∧ q (.bl t) M
def S_jlen (C : Addr) : DSpec := fun ds M q _ => ∃ rows t, ds = [jobsD C rows t] ∧ q (.int rows.length) M
theorem told_val {rows : List JRow} {n : Str} (h : n ∈ rows.map (·.1)) : valD (keysD rows) (toldsD rows) (.inr n) = some (.int (toldOf rows n)) := by
  rw [valD_map]
  unfold toldOf
  obtain ⟨r, hr, e⟩ := List.mem_map.mp h
  have := List.find?_isSome (p := fun r : JRow => decide (r.1 = n)) |>.mpr ⟨r, hr, decide_eq_true e⟩
  cases q : rows.find? fun r => decide (r.1 = n) with
  | none =>
    rw [q] at this
    cases this
  | some x => rfl
theorem other_val {rows : List JRow} {n : Str} (h : n ∈ rows.map (·.1)) : valD (keysD rows) (othsD rows) (.inr n) = some (.str (otherOf rows n)) := by
  rw [valD_oth]
  obtain ⟨r, _, _, e⟩ := othOf_some h
  unfold otherOf
  rw [e]
  rfl
section
variable {X : Cx} {F0 : Hp} {M : Mem} {q : DK} {ds : List Dat}
theorem dcl_listUC (h : ∀ p, M p = none → q (.ptr p) (updM M p (.lst ds))) : DCl X F0 (.type "list") [.tup ds] M q :=
  ⟨_, call_list_of, fun F H vs Q om r k => by
    obtain ⟨v, rfl, p, xs, rfl, h2, h3⟩ := reps1 r
    exact ⟨p, xs, rfl, .inr (ex_t om.sub h2), fun l hl => k.cell om h3 hl (h l (om.freeM hl))⟩⟩
theorem dcl_listLC (h : ∀ p, M p = none → q (.ptr p) (updM M p (.lst ds))) : DCl X F0 (.type "list") [.lst ds] M q :=
  ⟨_, call_list_of, fun F H vs Q om r k => by
    obtain ⟨v, rfl, p, xs, rfl, h2, h3⟩ := reps1 r
    exact ⟨p, xs, rfl, .inl (SqL.of (om.sub _ _ h2)), fun l hl => k.cell om h3 hl (h l (om.freeM hl))⟩⟩
end
theorem eqV_str {x n : Str} : eqV (.str x) (.str n) = decide (x = n) := by
  unfold eqV
  first | rfl | simp | (by_cases h : x = n <;> simp [h])
theorem inD_strs {n : Str} {ns : List Str} : inD (.str n) (ns.map Dat.str) = decide (n ∈ ns) := by
  unfold inD
  rw [List.any_map]
  have e : ((fun y => eqD y (.str n)) ∘ Dat.str) = fun x => decide (x = n) := by
    funext x
    exact eqV_str
  rw [e]
  by_cases h : n ∈ ns
  · rw [decide_eq_true h]
    exact List.any_eq_true.mpr ⟨n, h, decide_eq_true rfl⟩
  · rw [decide_eq_false h]
    refine Bool.eq_false_iff.mpr fun z => h ?_
    obtain ⟨x, hx, e⟩ := List.any_eq_true.mp z
    rw [← of_decide_eq_true e]
    exact hx
theorem strs_flat (ns : List Str) : (ns.map Dat.str).all flatD = true := by
  rw [List.all_map]
  exact List.all_eq_true.mpr fun x _ => rfl
section
variable {X : Cx} {F0 : Hp} {M : Mem} {q : DK} {rows : List JRow} {n : Str} {f : JRow → Dat} {k' : Nat}
theorem dop_inJ (hr : Room k' X.A) (h : q (.bl (decide (n ∈ rows.map (·.1)))) M) : DOp X F0 (compareOp .In) (.str n) (.dct (keysD rows) (rows.map f)) M q :=
  dop_inDc (k := .inr n) hr rfl (.inl rfl) (by rw [has_key]; exact h)
theorem dop_niJ (hr : Room k' X.A) (h : q (.bl (!decide (n ∈ rows.map (·.1)))) M) : DOp X F0 (compareOp .NotIn) (.str n) (.dct (keysD rows) (rows.map f)) M q :=
  dop_niDc (k := .inr n) hr rfl (.inl rfl) (by rw [has_key]; exact h)
end
/-! ### in, ==, repr -/
def memB (rows : List JRow) : Dat → Bool
  | .str z => decide (z ∈ rows.map (·.1))
  | _ => false
def S_jin (C : Addr) : DSpec := fun ds M q _ => ∃ (rows : List JRow) (t : Bool) (d : Dat) (n : String) (c : Bool), ds = [jobsD C rows t, d] ∧ tyName d = some n ∧ memB rows d = c ∧ q (.bl c) M
theorem name_strG {z : Str} (h : nameD (.str z) = true) : StrG z := by
  rw [nameD_t (name_len h)] at h
  refine strG_of fun c hc => ?_
  have h1 : c ∈ abcL := of_decide_eq_true (List.all_eq_true.mp h c hc)
  unfold abcL at h1
  simp only [List.mem_cons, List.not_mem_nil, or_false] at h1
  omega
def RowK (r : JRow) : Prop := StrG r.1 ∧ True ∧ StrG r.2.2
theorem RowG.k {r : JRow} (h : RowG r) : RowK r := ⟨name_strG h.nm, trivial, by
  rcases h.ot with e | e
  · rw [e]
    show PyData.strOk _ = true
    decide +kernel
  · exact name_strG e⟩
theorem row_eq : EqT 1 rowD RowK := EqT.triple EqT.str EqT.int EqT.str
theorem rows_eqL : EqT 2 (fun l : List JRow => .lst (l.map rowD)) (fun l => ∀ a ∈ l, RowK a) := row_eq.lst
theorem rows_eqT : EqT 2 (fun l : List JRow => .tup (l.map rowD)) (fun l => ∀ a ∈ l, RowK a) := row_eq.tup
def S_jeq (C : Addr) : DSpec := fun ds M q _ => ∃ (rows : List JRow) (t : Bool) (d : Dat), ds = [jobsD C rows t, d] ∧ (∀ r ∈ rows, RowK r) ∧
  ((∃ (rows2 : List JRow) (t2 : Bool), d = jobsD C rows2 t2 ∧ (∀ r ∈ rows2, RowK r) ∧ q (.bl (decide (rows = rows2) && (t == t2))) M) ∨ ((∃ l, d = .lst l) ∧ q (.bl false) M))
def reprJ (n : Nat) : Str := Str.empty ++ Str.ofString "Jobs(" ++ Str.ofString (toString (n : Int)) ++ Str.ofString " jobs)"
def S_jrepr (C : Addr) : DSpec := fun ds M q _ => ∃ (rows : List JRow) (t : Bool), ds = [jobsD C rows t] ∧ rows.length ≤ 1000 ∧ q (.str (reprJ rows.length)) M
theorem new_jobs {C : Addr} {rows : List JRow} {t : Bool} {M : Mem} {q : DK} {xq : XQ} (h : JobsG rows) (hq : q (jobsD C rows t) M) : NewV C (S_jinit C) 0 [.bl false] [0, 1] (rows.map rowD) [.bl t] M q xq := fun a ha =>
  ⟨a, t, rows, rfl, updM_same, h, rfl, _, _, updM_same, by rw [updM_updM, del_upd ha]; exact hq⟩
theorem new_jobs0 {C : Addr} {rows : List JRow} {M : Mem} {q : DK} {xq : XQ} (h : JobsG rows) (hq : q (jobsD C rows false) M) : NewV C (S_jinit C) 0 [.bl false] [0, 1] (rows.map rowD) [] M q xq := fun a ha =>
  ⟨a, false, rows, rfl, updM_same, h, rfl, _, _, updM_same, by rw [updM_updM, del_upd ha]; exact hq⟩
/-! ### a rank keeps rings away -/
theorem ring_rank {rows : List JRow} {rank : Str → Nat} (h : ∀ r ∈ rows, r.2.2 = "" ∨ rank r.2.2 < rank r.1) (hne : ∀ r ∈ rows, ¬ r.1 = "") {n : Str} (hn : n ∈ rows.map (·.1)) : ringB rows n = false := by
  have hn0 : ¬ n = "" := by
    obtain ⟨r, hr, rfl⟩ := List.mem_map.mp hn
    exact hne r hr
  have nxt : ∀ z, (othOf rows z).getD "" = "" ∨ rank ((othOf rows z).getD "") < rank z := by
    intro z
    unfold othOf
    cases e : rows.find? fun r => decide (r.1 = z) with
    | none => exact .inl rfl
    | some r =>
      have h1 := List.mem_of_find?_eq_some e
      have h2 : r.1 = z := of_decide_eq_true (List.find?_some (p := fun r : JRow => decide (r.1 = z)) e)
      rcases h r h1 with h3 | h3
      · exact .inl h3
      · right
        rw [← h2]
        exact h3
  have key : ∀ (k : Nat) (z : Str), (z = "" ∨ rank z < rank n) → ringGo rows n k z = false := by
    intro k
    induction k with
    | zero => exact fun _ _ => rfl
    | succ k ih =>
      intro z hz
      by_cases h1 : z = "" ∨ z = n
      · rw [ringGo_stop h1]
        refine decide_eq_false fun e => ?_
        rcases hz with hz | hz
        · exact hn0 (e.symm.trans hz)
        · rw [e] at hz
          omega
      · rw [ringGo_go (fun e => h1 (.inl e)) (fun e => h1 (.inr e))]
        have hz' : rank z < rank n := hz.resolve_left fun e => h1 (.inl e)
        refine ih _ ?_
        rcases nxt z with h2 | h2
        · exact .inl h2
        · exact .inr (by omega)
  exact key _ _ (nxt n)
end DL
/-! the laws' own helpers over jobs -/
namespace DL
open PySem PySem.Spec PyProof.Rows L2
def S_mixed : DSpec := fun ds M q _ => ∃ (p : Addr) (th : List Dat) (c : Nat), ds = [.ptr p, .lst th] ∧ Bag c (M p) ∧ c ≤ 900000 ∧ th.length ≤ 1000 ∧ ∀ (ys : List Dat) M', ys.Perm th → Bag (c + th.length) (M' p) → Same p M M' → q (.lst ys) M'
def S_ltold : DSpec := fun ds M q _ => ∃ (p : Addr) (c : Nat), ds = [.ptr p] ∧ Bag c (M p) ∧ c ≤ 900000 ∧ ∀ (t : Int) M', 1 ≤ t → t ≤ 1000 → Bag (c + 3) (M' p) → Same p M M' → q (.int t) M'
/-- names of letters alone, at most seven -/
structure RowsL (rows : List JRow) : Prop where
  g : JobsG rows
  nm : ∀ r ∈ rows, NmL r.1
  ot : ∀ r ∈ rows, r.2.2 = "" ∨ NmL r.2.2
  rk : ∃ rank : Str → Nat, ∀ r ∈ rows, r.2.2 = "" ∨ rank r.2.2 < rank r.1
def S_lrows : DSpec := fun ds M q _ => ∃ (p : Addr) (few : Int) (c : Nat), ds = [.ptr p, .int few] ∧ Bag c (M p) ∧ c ≤ 800000 ∧ 1 ≤ few ∧ few ≤ 8 ∧ ∀ (rows : List JRow) M', RowsL rows → (rows.length : Int) ≤ few → Bag (c + 100) (M' p) → Same p M M' → q (.lst (rows.map rowD)) M'
def S_ljobs (C : Addr) : DSpec := fun ds M q _ => ∃ (rows : List JRow) (b : Bool), ds = [.lst (rows.map rowD), .bl b] ∧ JobsG rows ∧ rows.length ≤ 6 ∧ q (jobsD C rows b) M
theorem ins_perm {ys : List Dat} {d : Dat} {i : Nat} : (ys.take i ++ [d] ++ ys.drop i).Perm (d :: ys) := by
  have : (ys.take i ++ [d] ++ ys.drop i).Perm (d :: (ys.take i ++ ys.drop i)) := by
    rw [List.append_assoc]
    exact List.perm_middle
  rwa [List.take_append_drop] at this
theorem JobsG.perm {rows rows2 : List JRow} (h : JobsG rows) (p : rows2.Perm rows) (rank : Str → Nat) (hr : ∀ r ∈ rows, r.2.2 = "" ∨ rank r.2.2 < rank r.1) : JobsG rows2 := by
  have hm : ∀ r, r ∈ rows2 ↔ r ∈ rows := fun r => p.mem_iff
  have hk : ∀ n, n ∈ rows2.map (·.1) ↔ n ∈ rows.map (·.1) := fun n => (p.map (·.1)).mem_iff
  refine ⟨?_, ?_, fun r hr => h.row r ((hm r).mp hr), ?_, fun r hr => ?_, fun r hr2 => ?_⟩
  · rw [p.length_eq]
    exact h.n1
  · rw [p.length_eq]
    exact h.n8
  · exact (p.map (·.1)).nodup_iff.mpr h.nd
  · rcases h.cl r ((hm r).mp hr) with e | e
    · exact .inl e
    · exact .inr ((hk _).mpr e)
  · refine ring_rank (rank := rank) (fun x hx => hr x ((hm x).mp hx)) (fun x hx e => ?_) (List.mem_map_of_mem hr2)
    have := name_len (h.row x ((hm x).mp hx)).nm
    rw [e] at this
    have h0 : Str.length "" = 0 := rfl
    omega
def rk2 : List Str → Str → Nat
  | [], _ => 0
  | x :: xs, n => if x = n then 0 else rk2 xs n + 1
theorem rk2_at : ∀ {xs : List Str} {i : Nat} {n : Str}, xs.Nodup → xs[i]? = some n → rk2 xs n = i
  | [], _, _, _, h => by simp at h
  | x :: xs, 0, n, _, h => by
    have e : x = n := by simpa using h
    exact if_pos e
  | x :: xs, i + 1, n, hn, h => by
    obtain ⟨h1, h2⟩ := List.nodup_cons.mp hn
    have h3 : xs[i]? = some n := by simpa using h
    have e : ¬ x = n := fun z => h1 (by rw [z]; exact List.mem_of_getElem? h3)
    show (if x = n then 0 else rk2 xs n + 1) = i + 1
    rw [if_neg e, rk2_at h2 h3]
/-- the first rows, told by the names -/
structure RowsAt (xs : List Str) (k : Nat) (rs : List JRow) : Prop where
  nm : rs.map (·.1) = xs.take k
  ok : ∀ r ∈ rs, (1 ≤ r.2.1 ∧ r.2.1 ≤ 1000) ∧ (r.2.2 = "" ∨ ∃ i j : Nat, xs[i]? = some r.1 ∧ xs[j]? = some r.2.2 ∧ j < i)
theorem RowsAt.nil {xs : List Str} : RowsAt xs 0 [] := ⟨by rw [List.take_zero]; rfl, fun r h => by cases h⟩
theorem RowsAt.snoc {xs : List Str} {k : Nat} {rs : List JRow} {n o : Str} {t : Int} (h : RowsAt xs k rs) (hn : xs[k]? = some n) (h1 : 1 ≤ t) (h2 : t ≤ 1000) (ho : o = "" ∨ ∃ j : Nat, xs[j]? = some o ∧ j < k) : RowsAt xs (k + 1) (rs ++ [(n, t, o)]) := by
  refine ⟨?_, fun r hr => ?_⟩
  · rw [List.map_append, h.nm, List.take_add_one, hn]
    rfl
  · rcases List.mem_append.mp hr with hr | hr
    · exact h.ok r hr
    · rw [List.mem_singleton.mp hr]
      refine ⟨⟨h1, h2⟩, ?_⟩
      rcases ho with e | ⟨j, e1, e2⟩
      · exact .inl e
      · exact .inr ⟨k, j, hn, e1, e2⟩
theorem RowsAt.jobs {xs : List Str} {rs : List JRow} (h : RowsAt xs xs.length rs) (hn : xs.Nodup) (hx : ∀ s ∈ xs, NmL s) (h1 : 1 ≤ xs.length) (h8 : xs.length ≤ 8) {rows : List JRow} (p : rows.Perm rs) : RowsL rows := by
  have nm : rs.map (·.1) = xs := by rw [h.nm, List.take_length]
  have hl : rs.length = xs.length := by rw [← nm, List.length_map]
  have hin : ∀ r ∈ rs, r.1 ∈ xs := fun r hr => by rw [← nm]; exact List.mem_map_of_mem hr
  have hrk : ∀ r ∈ rs, r.2.2 = "" ∨ rk2 xs r.2.2 < rk2 xs r.1 := fun r hr => by
    rcases (h.ok r hr).2 with e | ⟨i, j, e1, e2, e3⟩
    · exact .inl e
    · right
      rw [rk2_at hn e1, rk2_at hn e2]
      exact e3
  have ho : ∀ r ∈ rs, r.2.2 = "" ∨ r.2.2 ∈ xs := fun r hr => by
    rcases (h.ok r hr).2 with e | ⟨i, j, e1, e2, e3⟩
    · exact .inl e
    · exact .inr (List.mem_of_getElem? e2)
  have G : JobsG rs := by
    refine ⟨by omega, by omega, fun r hr => ⟨nm_good (hx _ (hin r hr)), (h.ok r hr).1.1, (h.ok r hr).1.2, ?_⟩, by rw [nm]; exact hn, fun r hr => by rw [nm]; exact ho r hr, fun r hr => ?_⟩
    · rcases ho r hr with e | e
      · exact .inl e
      · exact .inr (nm_good (hx _ e))
    · refine ring_rank (rank := rk2 xs) hrk (fun x hx2 e => ?_) (List.mem_map_of_mem hr)
      have := hx _ (hin x hx2)
      rw [e] at this
      have h0 : Str.length "" = 0 := rfl
      have := this.2.1
      omega
  refine ⟨G.perm p (rk2 xs) hrk, fun r hr => hx _ (hin r (p.mem_iff.mp hr)), fun r hr => ?_, rk2 xs, fun r hr => hrk r (p.mem_iff.mp hr)⟩
  rcases ho r (p.mem_iff.mp hr) with e | e
  · exact .inl e
  · exact .inr (hx _ e)
/-- a permutation of told data tells a permutation -/
theorem perm_map {α : Type} {f : α → Dat} : ∀ {l : List α} {ys : List Dat}, ys.Perm (l.map f) → ∃ l2 : List α, ys = l2.map f ∧ l2.Perm l := by
  intro l ys h
  generalize hm : l.map f = m at h
  induction h generalizing l with
  | nil =>
    have : l = [] := List.map_eq_nil_iff.mp hm
    exact ⟨[], rfl, by rw [this]⟩
  | cons x _ ih =>
    match l, hm with
    | a :: l, hm =>
      rw [List.map_cons] at hm
      obtain ⟨e1, e2⟩ := List.cons.inj hm
      obtain ⟨l2, h1, h2⟩ := ih e2
      exact ⟨a :: l2, by rw [List.map_cons, e1, h1], h2.cons a⟩
  | swap x y r =>
    match l, hm with
    | a :: b :: l, hm =>
      rw [List.map_cons, List.map_cons] at hm
      obtain ⟨e1, e2⟩ := List.cons.inj hm
      obtain ⟨e3, e4⟩ := List.cons.inj e2
      refine ⟨b :: a :: l, by rw [List.map_cons, List.map_cons, e1, e3, e4], List.Perm.swap a b l⟩
  | trans _ _ ih1 ih2 =>
    obtain ⟨l2, h1, h2⟩ := ih2 hm
    obtain ⟨l3, h3, h4⟩ := ih1 h1.symm
    exact ⟨l3, h3, h4.trans h2⟩
theorem RowsL.rev {rows : List JRow} (h : RowsL rows) : RowsL rows.reverse := by
  obtain ⟨rank, hr⟩ := h.rk
  have hm : ∀ r, r ∈ rows.reverse ↔ r ∈ rows := fun r => List.mem_reverse
  exact ⟨h.g.perm (List.reverse_perm rows) rank hr, fun r x => h.nm r ((hm r).mp x), fun r x => h.ot r ((hm r).mp x), rank, fun r x => hr r ((hm r).mp x)⟩
/-- other numbers, the same names and others -/
theorem RowsL.told {rows : List JRow} (h : RowsL rows) (f : JRow → Int) (hf : ∀ r ∈ rows, 1 ≤ f r ∧ f r ≤ 1000) : RowsL (rows.map fun r => (r.1, f r, r.2.2)) := by
  obtain ⟨rank, hr⟩ := h.rk
  have nm : (rows.map fun r => (r.1, f r, r.2.2)).map (·.1) = rows.map (·.1) := by rw [List.map_map]; rfl
  have all : ∀ {P : JRow → Prop}, (∀ r ∈ rows, P (r.1, f r, r.2.2)) → ∀ r ∈ rows.map fun r => (r.1, f r, r.2.2), P r := fun hP r hr => by
    obtain ⟨x, hx, rfl⟩ := List.mem_map.mp hr
    exact hP x hx
  have hr2 : ∀ r ∈ rows.map (fun r => (r.1, f r, r.2.2)), r.2.2 = "" ∨ rank r.2.2 < rank r.1 := all (P := fun r => r.2.2 = "" ∨ rank r.2.2 < rank r.1) hr
  refine ⟨⟨by rw [List.length_map]; exact h.g.n1, by rw [List.length_map]; exact h.g.n8, all fun r x => ⟨(h.g.row r x).nm, (hf r x).1, (hf r x).2, (h.g.row r x).ot⟩, by rw [nm]; exact h.g.nd, fun r x => ?_, fun r x => ?_⟩, all h.nm, all h.ot, rank, hr2⟩
  · rw [nm]
    revert r
    exact all h.g.cl
  · refine ring_rank (rank := rank) hr2 (fun y hy e => ?_) (List.mem_map_of_mem x)
    have h1 : NmL y.1 := all (P := fun r => NmL r.1) h.nm y hy
    rw [e] at h1
    have h0 : Str.length "" = 0 := rfl
    have := h1.2.1
    omega
theorem RowsL.free {rows : List JRow} (h : RowsL rows) : RowsL (rows.map fun r => (r.1, r.2.1, ("" : Str))) := by
  have nm : (rows.map fun r => (r.1, r.2.1, ("" : Str))).map (·.1) = rows.map (·.1) := by rw [List.map_map]; rfl
  have all : ∀ {P : JRow → Prop}, (∀ r ∈ rows, P (r.1, r.2.1, ("" : Str))) → ∀ r ∈ rows.map fun r => (r.1, r.2.1, ("" : Str)), P r := fun hP r hr => by
    obtain ⟨x, hx, rfl⟩ := List.mem_map.mp hr
    exact hP x hx
  have ot : ∀ r ∈ rows.map (fun r => (r.1, r.2.1, ("" : Str))), r.2.2 = "" := all (P := fun r => r.2.2 = "") fun r _ => rfl
  refine ⟨⟨by rw [List.length_map]; exact h.g.n1, by rw [List.length_map]; exact h.g.n8, all fun r x => ⟨(h.g.row r x).nm, (h.g.row r x).t1, (h.g.row r x).t2, .inl rfl⟩, by rw [nm]; exact h.g.nd, fun r x => .inl (ot r x), fun r x => ?_⟩, all h.nm, fun r x => .inl (ot r x), fun _ => 0, fun r x => .inl (ot r x)⟩
  refine ring_rank (rank := fun _ => 0) (fun r x => .inl (ot r x)) (fun y hy e => ?_) (List.mem_map_of_mem x)
  have h1 : NmL y.1 := all (P := fun r => NmL r.1) h.nm y hy
  rw [e] at h1
  have h0 : Str.length "" = 0 := rfl
  have := h1.2.1
  omega
theorem nml_chars {z : Str} (h : NmL z) : ∀ c ∈ z.cps.toList, c < 1114112 := fun c hc => by
  have := h.1 c hc
  omega
theorem str_show {z : Str} (h : z = "" ∨ NmL z) : ShD 0 1930 (.str z) := by
  rcases h with rfl | h
  · exact (ShD.str (n := 0) (Nat.le_refl _) fun c hc => by cases hc).mono (Nat.le_refl _) (by decide)
  · exact (ShD.str (n := 7) h.2.2 (nml_chars h)).mono (Nat.le_refl _) (by decide)
theorem row_show {r : JRow} (h1 : NmL r.1) (h2 : 1 ≤ r.2.1) (h3 : r.2.1 ≤ 1000) (h4 : r.2.2 = "" ∨ NmL r.2.2) : ShD 1 6000 (rowD r) := by
  refine (ShD.tup (k := 0) (n := 1930) fun d hd => ?_).mono (Nat.le_refl _) (Nat.le_of_ble_eq_true rfl)
  simp only [List.mem_cons, List.not_mem_nil, or_false] at hd
  rcases hd with rfl | rfl | rfl
  · exact str_show (.inr h1)
  · exact ShD.int (IB.small (by omega) (by omega))
  · exact str_show h4
theorem RowsL.row_sh {rows : List JRow} (h : RowsL rows) : ∀ r ∈ rows, ShD 1 6000 (rowD r) := fun r hr => row_show (h.nm r hr) (h.g.row r hr).t1 (h.g.row r hr).t2 (h.ot r hr)
theorem RowsL.sh {rows : List JRow} (h : RowsL rows) : ShD 2 50000 (.lst (rows.map rowD)) := by
  have h8 := h.g.n8
  refine (ShD.lst (k := 1) (n := 6000) fun d hd => ?_).mono (Nat.le_refl _) (by rw [List.length_map]; omega)
  obtain ⟨r, hr, rfl⟩ := List.mem_map.mp hd
  exact h.row_sh r hr
theorem RowsL.nms_sh {rows : List JRow} (h : RowsL rows) : ShD 2 50000 (.lst (nmsD rows)) := by
  have h8 := h.g.n8
  refine (ShD.lst (k := 0) (n := 1930) fun d hd => ?_).mono (by decide) (by unfold nmsD; rw [List.length_map]; omega)
  obtain ⟨r, hr, rfl⟩ := List.mem_map.mp hd
  exact str_show (.inr (h.nm r hr))
theorem find_row {rows : List JRow} (hn : (rows.map (·.1)).Nodup) {r : JRow} (hr : r ∈ rows) : rows.find? (fun x => decide (x.1 = r.1)) = some r := by
  induction rows with
  | nil => cases hr
  | cons x rows ih =>
    rw [List.find?_cons]
    rw [List.map_cons] at hn
    obtain ⟨h1, h2⟩ := List.nodup_cons.mp hn
    rcases List.mem_cons.mp hr with rfl | hr
    · rw [decide_eq_true rfl]
    · have e : ¬ x.1 = r.1 := fun z => h1 (by rw [z]; exact List.mem_map_of_mem hr)
      rw [decide_eq_false e]
      exact ih h2 hr
theorem told_at {rows : List JRow} (hn : (rows.map (·.1)).Nodup) {r : JRow} (hr : r ∈ rows) : toldOf rows r.1 = r.2.1 := by
  unfold toldOf
  rw [find_row hn hr]
  rfl
theorem other_at {rows : List JRow} (hn : (rows.map (·.1)).Nodup) {r : JRow} (hr : r ∈ rows) : otherOf rows r.1 = r.2.2 := by
  unfold otherOf othOf
  rw [find_row hn hr]
  rfl
theorem str_nil {x : Str} : Str.empty ++ x = x := by
  show (⟨#[] ++ x.cps⟩ : Str) = x
  rw [Array.empty_append]
end DL
/-! orders of jobs -/
namespace DL
open PySem PySem.Spec PyProof.Rows L2
abbrev nmsL (rows : List JRow) : List Str := rows.map (·.1)
/-- the jobs for which a job waits, in the order of the rows -/
def waitsL (rows : List JRow) (b : Bool) (n : Str) : List Str :=
  if b then (nmsL rows).filter fun o => decide (otherOf rows o = n) else (nmsL rows).filter fun o => decide (o = otherOf rows n)
def S_waits (C : Addr) : DSpec := fun ds M q _ => ∃ (rows : List JRow) (t : Bool) (n : Str), ds = [jobsD C rows t, .str n] ∧ JobsG rows ∧ n ∈ rows.map (·.1) ∧ q (.lst ((waitsL rows t n).map Dat.str)) M
def S_lwaits : DSpec := fun ds M q _ => ∃ (rows : List JRow) (b : Bool) (n : Str), ds = [.lst (rows.map rowD), .bl b, .str n] ∧ JobsG rows ∧ n ∈ rows.map (·.1) ∧ q (.lst ((waitsL rows b n).map Dat.str)) M
/-- a job can be next after these -/
def freeB (rows : List JRow) (b : Bool) (ah : List Dat) (n : Str) : Bool := !inD (.str n) ah && (waitsL rows b n).all fun o => inD (.str o) ah
def S_lfree : DSpec := fun ds M q _ => ∃ (rows : List JRow) (b : Bool) (ah : List Dat) (y : Dat), ds = [.lst (rows.map rowD), .bl b, y] ∧ (y = .lst ah ∨ y = .tup ah) ∧ JobsG rows ∧ ah.all flatD = true ∧ ∀ ns : List Str, ns.Perm (nmsL rows) → sortedS ns = true → q (.lst ((ns.filter (freeB rows b ah)).map Dat.str)) M
def begGo (rows : List JRow) (b : Bool) : List Dat → List Dat → Bool
  | _, [] => true
  | ah, .str n :: r => (decide (n ∈ nmsL rows) && freeB rows b ah n) && begGo rows b (ah ++ [.str n]) r
  | _, _ :: _ => false
/-- whether a line is a beginning -/
def begD (rows : List JRow) (b : Bool) (ds : List Dat) : Bool := begGo rows b [] ds
def S_lbegins : DSpec := fun ds M q _ => ∃ (rows : List JRow) (b : Bool) (l : List Dat), ds = [.lst (rows.map rowD), .bl b, .lst l] ∧ JobsG rows ∧ l.all flatD = true ∧ l.length ≤ 1000 ∧ q (.bl (begD rows b l)) M
/-- an order of the names -/
structure OrdL (rows : List JRow) (b : Bool) (l : List Str) : Prop where
  perm : l.Perm (nmsL rows)
  beg : begD rows b (l.map Dat.str) = true
def S_lorder : DSpec := fun ds M q _ => ∃ (p : Addr) (rows : List JRow) (b : Bool) (c : Nat), ds = [.ptr p, .lst (rows.map rowD), .bl b] ∧ Bag c (M p) ∧ c ≤ 800000 ∧ RowsL rows ∧ ∀ (l : List Str) M', OrdL rows b l → Bag (c + rows.length) (M' p) → Same p M M' → q (.tup (l.map Dat.str)) M'
def S_isbeg (C : Addr) : DSpec := fun ds M q _ => ∃ (rows : List JRow) (t : Bool) (d : Dat), ds = [jobsD C rows t, d] ∧ JobsG rows ∧
  ((∃ l, (d = .lst l ∨ d = .tup l) ∧ l.length ≤ 1000 ∧ (∀ x ∈ l, ∃ n, tyName x = some n) ∧ q (.bl (begD rows t l)) M) ∨ ((∃ n, tyName d = some n) ∧ listD d = false ∧ q (.bl false) M))
def ordB (rows : List JRow) (t : Bool) (l : List Dat) : Bool := begD rows t l && decide (l.length = rows.length)
def S_isord (C : Addr) : DSpec := fun ds M q _ => ∃ (rows : List JRow) (t : Bool) (d : Dat), ds = [jobsD C rows t, d] ∧ JobsG rows ∧
  ((∃ l, (d = .lst l ∨ d = .tup l) ∧ l.length ≤ 1000 ∧ (∀ x ∈ l, ∃ n, tyName x = some n) ∧ q (.bl (ordB rows t l)) M) ∨ ((∃ n, tyName d = some n) ∧ listD d = false ∧ q (.bl false) M))
theorem waitsL_sub {rows : List JRow} {b : Bool} {n o : Str} (h : o ∈ waitsL rows b n) : o ∈ nmsL rows := by
  unfold waitsL at h
  cases b
  · exact (List.mem_filter.mp h).1
  · exact (List.mem_filter.mp h).1
theorem waitsL_len {rows : List JRow} {b : Bool} {n : Str} : (waitsL rows b n).length ≤ rows.length := by
  have h1 : (nmsL rows).length = rows.length := List.length_map ..
  unfold waitsL
  cases b
  · exact Nat.le_trans (List.length_filter_le _ _) (Nat.le_of_eq h1)
  · exact Nat.le_trans (List.length_filter_le _ _) (Nat.le_of_eq h1)
/-- texts as data, and back -/
def strOf : Dat → Str
  | .str z => z
  | _ => Str.empty
theorem nms_filt {rows : List JRow} {g : Str → Bool} : ((nmsD rows).filter fun d => g (strOf d)).map (fun d => .str (strOf d)) = ((nmsL rows).filter g).map Dat.str := by
  rw [nmsD_strs, List.filter_map, List.map_map]
  rfl
/-- the law's way to name them -/
theorem waits_turned {rows : List JRow} {n : Str} (h : (rows.map (·.1)).Nodup) : (rows.filter fun r => decide (r.2.2 = n)).map (·.1) = waitsL rows true n := by
  unfold waitsL
  rw [if_pos rfl, List.filter_map]
  refine congrArg (List.map _) (List.filter_congr fun r hr => ?_)
  show _ = decide (otherOf rows r.1 = n)
  rw [other_at h hr]
theorem waits_straight {rows : List JRow} {n : Str} (h : (rows.map (·.1)).Nodup) (hn : n ∈ rows.map (·.1)) : (rows.filter fun r => decide (r.1 ∈ (rows.filter fun x => decide (x.1 = n)).map (·.2.2))).map (·.1) = waitsL rows false n := by
  unfold waitsL
  rw [if_neg (by decide), List.filter_map]
  refine congrArg (List.map _) (List.filter_congr fun r hr => ?_)
  show _ = decide (r.1 = otherOf rows n)
  refine decide_eq_decide.mpr ?_
  obtain ⟨x, hx, rfl⟩ := List.mem_map.mp hn
  rw [other_at h hx]
  constructor
  · intro hz
    obtain ⟨y, hy, e⟩ := List.mem_map.mp hz
    obtain ⟨hy1, hy2⟩ := List.mem_filter.mp hy
    have e2 : y.1 = x.1 := of_decide_eq_true hy2
    rw [← e, ← other_at h hy1, e2, other_at h hx]
  · intro e
    exact List.mem_map.mpr ⟨x, List.mem_filter.mpr ⟨hx, decide_eq_true rfl⟩, e.symm⟩
/-- tests and parts of a row's datum -/
def rowB (g : JRow → Bool) : Dat → Bool
  | .tup [.str n, .int t, .str o] => g (n, t, o)
  | _ => false
def rowF (g : JRow → Dat) : Dat → Dat
  | .tup [.str n, .int t, .str o] => g (n, t, o)
  | _ => .non
theorem row_filt {rows : List JRow} {g : JRow → Bool} {f : JRow → Dat} : ((rows.map rowD).filter (rowB g)).map (rowF f) = (rows.filter g).map f := by
  rw [List.filter_map, List.map_map]
  rfl
theorem row_map {rows : List JRow} {f : JRow → Dat} : (rows.map rowD).map (rowF f) = rows.map f := by
  rw [List.map_map]
  rfl
theorem eqV_str2 {x n : Str} : eqV (.str x) (.str n) = decide (x = n) := eqV_str
def stepB (rows : List JRow) (b : Bool) (ah : List Dat) : Dat → Bool
  | .str n => decide (n ∈ nmsL rows) && freeB rows b ah n
  | _ => false
theorem begGo_cons {rows : List JRow} {b : Bool} {ah : List Dat} {d : Dat} {r : List Dat} : begGo rows b ah (d :: r) = (stepB rows b ah d && begGo rows b (ah ++ [d]) r) := by
  cases d <;> rfl
theorem begGo_at {rows : List JRow} {b : Bool} {l : List Dat} {k : Nat} {d : Dat} (h : l[k]? = some d) : begGo rows b (l.take k) (l.drop k) = (stepB rows b (l.take k) d && begGo rows b (l.take (k + 1)) (l.drop (k + 1))) := by
  obtain ⟨hk, e⟩ := List.getElem?_eq_some_iff.mp h
  rw [List.drop_eq_getElem_cons hk, e, begGo_cons, List.take_add_one, h]
  rfl
theorem begGo_end {rows : List JRow} {b : Bool} {l : List Dat} : begGo rows b (l.take l.length) (l.drop l.length) = true := by
  rw [List.drop_length]
  rfl
theorem inD_flat {d : Dat} {ns : List Str} (h : flatD d = true) (hd : ∀ n, d ≠ .str n) : inD d (ns.map Dat.str) = false := by
  unfold inD
  rw [List.any_map]
  refine List.any_eq_false.mpr fun x _ => ?_
  cases d <;> first
    | exact absurd rfl (hd _)
    | (cases h; done)
    | (show ¬ ((false : Bool) = true); decide)
theorem step_in {rows : List JRow} {b : Bool} {ah : List Dat} {d : Dat} {ns : List Str} (h : flatD d = true) (hp : ns.Perm (nmsL rows)) : inD d ((ns.filter (freeB rows b ah)).map Dat.str) = stepB rows b ah d := by
  by_cases e : ∃ n, d = .str n
  · obtain ⟨n, rfl⟩ := e
    rw [inD_strs]
    show _ = (decide (n ∈ nmsL rows) && freeB rows b ah n)
    by_cases hn : n ∈ nmsL rows
    · by_cases hf : freeB rows b ah n = true
      · rw [hf, decide_eq_true hn, decide_eq_true (List.mem_filter.mpr ⟨hp.mem_iff.mpr hn, hf⟩)]
        rfl
      · rw [decide_eq_false fun z => hf (List.mem_filter.mp z).2, Bool.eq_false_iff.mpr hf, Bool.and_false]
    · rw [decide_eq_false hn, decide_eq_false fun z => hn (hp.mem_iff.mp (List.mem_filter.mp z).1)]
      rfl
  · rw [inD_flat h fun n z => e ⟨n, z⟩]
    cases d <;> first
      | exact absurd ⟨_, rfl⟩ e
      | rfl
theorem mem_str {rows : List JRow} {d : Dat} (h : memB rows d = true) : ∃ n, d = .str n ∧ n ∈ nmsL rows := by
  cases d <;> first
    | exact ⟨_, rfl, of_decide_eq_true h⟩
    | cases h
theorem step_mem {rows : List JRow} {b : Bool} {ah : List Dat} {d : Dat} (h : memB rows d = false) : stepB rows b ah d = false := by
  cases d <;> first
    | rfl
    | (refine Bool.and_eq_false_iff.mpr (.inl h))
theorem flat_take {l : List Dat} {k : Nat} (h : l.all flatD = true) : (l.take k).all flatD = true := by
  rw [List.all_eq_true] at h ⊢
  exact fun x hx => h x (List.mem_of_mem_take hx)
theorem not_t {b : Bool} (h : (!b) = true) : b = false := by
  cases b
  · rfl
  · cases h
theorem not_f {b : Bool} (h : (!b) = false) : b = true := by
  cases b
  · cases h
  · rfl
theorem delM_back {M M' : Mem} {p : Addr} (h : M p = none) (hS : ∀ b, b ≠ p → M' b = M b) : delM M' p = M := by
  funext z
  show (if z = p then none else M' z) = M z
  by_cases hz : z = p
  · rw [if_pos hz, hz, h]
  · rw [if_neg hz]
    exact hS z hz
theorem step_old {rows : List JRow} {b : Bool} {ah : List Dat} {n : Str} (h : inD (.str n) ah = true) : stepB rows b ah (.str n) = false := by
  refine Bool.and_eq_false_iff.mpr (.inr (Bool.and_eq_false_iff.mpr (.inl ?_)))
  rw [h]
  rfl
theorem step_new {rows : List JRow} {b : Bool} {ah : List Dat} {n : Str} (hn : n ∈ nmsL rows) (h : inD (.str n) ah = false) : stepB rows b ah (.str n) = (waitsL rows b n).all fun o => inD (.str o) ah := by
  show (decide (n ∈ nmsL rows) && (!inD (.str n) ah && _)) = _
  rw [decide_eq_true hn, h]
  rfl
theorem begGo_app {rows : List JRow} {b : Bool} : ∀ {l m ah : List Dat}, begGo rows b ah (l ++ m) = (begGo rows b ah l && begGo rows b (ah ++ l) m)
  | [], m, ah => by
    rw [List.nil_append, List.append_nil]
    rfl
  | d :: l, m, ah => by
    rw [List.cons_append, begGo_cons, begGo_cons, begGo_app, Bool.and_assoc, List.append_assoc]
    rfl
/-- a beginning of an order -/
structure OrdP (rows : List JRow) (b : Bool) (l : List Str) : Prop where
  nd : l.Nodup
  sub : ∀ n ∈ l, n ∈ nmsL rows
  beg : begD rows b (l.map Dat.str) = true
theorem OrdP.nil {rows : List JRow} {b : Bool} : OrdP rows b [] := ⟨List.nodup_nil, fun _ h => (by cases h), rfl⟩
theorem OrdP.snoc {rows : List JRow} {b : Bool} {l : List Str} {n : Str} (h : OrdP rows b l) (hn : n ∈ nmsL rows) (hf : freeB rows b (l.map Dat.str) n = true) : OrdP rows b (l ++ [n]) := by
  have h1 := (Bool.and_eq_true_iff.mp hf).1
  rw [inD_strs] at h1
  have h2 : n ∉ l := of_decide_eq_false (not_t h1)
  refine ⟨?_, fun x hx => ?_, ?_⟩
  · refine List.nodup_append.mpr ⟨h.nd, List.nodup_cons.mpr ⟨fun z => (by cases z), List.nodup_nil⟩, fun x hx y hy e => ?_⟩
    rw [List.mem_singleton.mp hy] at e
    exact h2 (e ▸ hx)
  · rcases List.mem_append.mp hx with hx | hx
    · exact h.sub x hx
    · rw [List.mem_singleton.mp hx]
      exact hn
  · unfold begD
    rw [List.map_append, begGo_app]
    refine Bool.and_eq_true_iff.mpr ⟨h.beg, ?_⟩
    show begGo rows b ([] ++ l.map Dat.str) [.str n] = true
    rw [List.nil_append, begGo_cons]
    show ((decide (n ∈ nmsL rows) && freeB rows b (l.map Dat.str) n) && true) = true
    rw [hf, decide_eq_true hn]
    rfl
theorem sub_erase {l m : List Str} {a : Str} (ha : a ∉ l) (h : ∀ x ∈ l, x ∈ m) : ∀ x ∈ l, x ∈ m.erase a := fun x hx => (List.mem_erase_of_ne fun e : x = a => ha (e ▸ hx)).mpr (h x hx)
theorem nodup_len : ∀ {l m : List Str}, l.Nodup → (∀ x ∈ l, x ∈ m) → l.length ≤ m.length
  | [], _, _, _ => Nat.zero_le _
  | a :: l, m, h, hs => by
    have ha := hs a List.mem_cons_self
    have h1 := nodup_len (m := m.erase a) (List.nodup_cons.mp h).2 (sub_erase (List.nodup_cons.mp h).1 fun x hx => hs x (List.mem_cons_of_mem _ hx))
    rw [List.length_erase_of_mem ha] at h1
    have := List.length_pos_of_mem ha
    rw [List.length_cons]
    omega
theorem perm_sub : ∀ {l m : List Str}, l.Nodup → (∀ x ∈ l, x ∈ m) → m.length ≤ l.length → l.Perm m
  | [], m, _, _, hl => by
    rw [List.length_nil] at hl
    rw [List.length_eq_zero_iff.mp (Nat.le_zero.mp hl)]
  | a :: l, m, h, hs, hl => by
    have ha := hs a List.mem_cons_self
    rw [List.length_cons] at hl
    have h1 := perm_sub (m := m.erase a) (List.nodup_cons.mp h).2 (sub_erase (List.nodup_cons.mp h).1 fun x hx => hs x (List.mem_cons_of_mem _ hx)) (by rw [List.length_erase_of_mem ha]; omega)
    exact (h1.cons a).trans (List.perm_cons_erase ha).symm
theorem OrdP.ord {rows : List JRow} {b : Bool} {l : List Str} (h : OrdP rows b l) (hl : l.length = rows.length) : OrdL rows b l :=
  ⟨perm_sub h.nd h.sub (by rw [hl]; exact Nat.le_of_eq (List.length_map ..)), h.beg⟩
theorem extreme {α : Type} (rank : α → Int) : ∀ {l : List α}, l ≠ [] → ∃ x ∈ l, ∀ y ∈ l, rank x ≤ rank y
  | [], h => absurd rfl h
  | [x], _ => ⟨x, List.mem_singleton.mpr rfl, fun y hy => by rw [List.mem_singleton.mp hy]; exact Int.le_refl _⟩
  | x :: z :: l, _ => by
    obtain ⟨m, hm, h⟩ := extreme rank (l := z :: l) (List.cons_ne_nil _ _)
    by_cases c : rank x ≤ rank m
    · refine ⟨x, List.mem_cons_self, fun y hy => ?_⟩
      rcases List.mem_cons.mp hy with rfl | hy
      · exact Int.le_refl _
      · exact Int.le_trans c (h y hy)
    · refine ⟨m, List.mem_cons_of_mem _ hm, fun y hy => ?_⟩
      rcases List.mem_cons.mp hy with rfl | hy
      · omega
      · exact h y hy
/-- some job can be next, as long as one is left -/
theorem free_any {rows : List JRow} {b : Bool} {l ns : List Str} (hR : RowsL rows) (hP : OrdP rows b l) (hl : l.length < rows.length) (hp : ns.Perm (nmsL rows)) : ∃ n, n ∈ ns.filter (freeB rows b (l.map Dat.str)) := by
  have hnl : (nmsL rows).length = rows.length := List.length_map ..
  have hne : (nmsL rows).filter (fun x => decide (x ∉ l)) ≠ [] := fun e => by
    have : ∀ x ∈ nmsL rows, x ∈ l := fun x hx => by
      have h1 := List.filter_eq_nil_iff.mp e x hx
      exact Decidable.byContradiction fun z => h1 (decide_eq_true z)
    have h2 : (nmsL rows).length ≤ l.length := nodup_len hR.g.nd this
    omega
  obtain ⟨rank, hk⟩ := hR.rk
  have hempty : ("" : Str) ∉ nmsL rows := fun z => by
    obtain ⟨r, hr, e⟩ := List.mem_map.mp z
    have h1 := (hR.nm r hr).2.1
    rw [e] at h1
    exact absurd h1 (by decide)
  have step : ∀ x y, y ∈ nmsL rows → x ∈ nmsL rows → otherOf rows y = x → rank x < rank y := fun x y hy hx e => by
    obtain ⟨r, hr, rfl⟩ := List.mem_map.mp hy
    rw [other_at hR.g.nd hr] at e
    rcases hk r hr with h1 | h1
    · rw [h1] at e
      exact absurd (e ▸ hx) hempty
    · rw [e] at h1
      exact h1
  obtain ⟨x, hx, hmin⟩ := extreme (fun x => if b then -(rank x : Int) else (rank x : Int)) hne
  obtain ⟨hxn, hxl⟩ := List.mem_filter.mp hx
  refine ⟨x, List.mem_filter.mpr ⟨hp.mem_iff.mpr hxn, ?_⟩⟩
  refine Bool.and_eq_true_iff.mpr ⟨?_, List.all_eq_true.mpr fun o ho => ?_⟩
  · rw [inD_strs, decide_eq_false (of_decide_eq_true hxl)]
    rfl
  · rw [inD_strs]
    refine decide_eq_true (Decidable.byContradiction fun hol => ?_)
    have hon := waitsL_sub ho
    have h1 := hmin o (List.mem_filter.mpr ⟨hon, decide_eq_true hol⟩)
    unfold waitsL at ho
    cases b
    · have h2 : o = otherOf rows x := of_decide_eq_true (List.mem_filter.mp ho).2
      have h3 := step o x hxn hon h2.symm
      have h4 : (rank x : Int) ≤ (rank o : Int) := h1
      omega
    · have h2 : otherOf rows o = x := of_decide_eq_true (List.mem_filter.mp ho).2
      have h3 := step x o hon hxn h2
      have h4 : -(rank x : Int) ≤ -(rank o : Int) := h1
      omega
end DL
/-! jobs: what is told of any value -/
namespace DL
open PySem PySem.Spec PyProof.Rows L2
abbrev unkX (CU : Addr) (d : Dat) : Exn := ⟨CU, ["name", "code"], [d, .str "UnknownName"]⟩
/-- not the name of a job -/
def Unk (rows : List JRow) (d : Dat) : Prop := (∃ n, tyName d = some n) ∧ memB rows d = false
def S_needX (C CU : Addr) : DSpec := fun ds M q x => ∃ (rows : List JRow) (t : Bool) (d : Dat), ds = [jobsD C rows t, d] ∧ ((∃ n, d = .str n ∧ n ∈ rows.map (·.1) ∧ q .non M) ∨ (Unk rows d ∧ x (unkX CU d) M))
def S_toldX (C CU : Addr) : DSpec := fun ds M q x => ∃ (rows : List JRow) (t : Bool) (d : Dat), ds = [jobsD C rows t, d] ∧ ((∃ n, d = .str n ∧ n ∈ rows.map (·.1) ∧ q (.int (toldOf rows n)) M) ∨ (Unk rows d ∧ x (unkX CU d) M))
def S_otherX (C CU : Addr) : DSpec := fun ds M q x => ∃ (rows : List JRow) (t : Bool) (d : Dat), ds = [jobsD C rows t, d] ∧ ((∃ n, d = .str n ∧ n ∈ rows.map (·.1) ∧ q (.str (otherOf rows n)) M) ∨ (Unk rows d ∧ x (unkX CU d) M))
def S_waitsX (C CU : Addr) : DSpec := fun ds M q x => ∃ (rows : List JRow) (t : Bool) (d : Dat), ds = [jobsD C rows t, d] ∧ JobsG rows ∧ ((∃ n, d = .str n ∧ n ∈ rows.map (·.1) ∧ lstQ ((waitsL rows t n).map Dat.str) M q) ∨ (Unk rows d ∧ x (unkX CU d) M))
def S_placeX (C CU : Addr) : DSpec := fun ds M q x => ∃ (rows : List JRow) (t : Bool) (d : Dat), ds = [jobsD C rows t, d] ∧ JobsG rows ∧ ((∃ n, d = .str n ∧ n ∈ rows.map (·.1) ∧ q (.int ((ixS n (nmsL rows) : Nat) : Int)) M) ∨ (Unk rows d ∧ x (unkX CU d) M))
theorem Unk.str {rows : List JRow} {z : Str} (h : Unk rows (.str z)) : z ∉ rows.map (·.1) := of_decide_eq_false h.2
end DL
/-! rows of any kind; the constructor of jobs with its errors -/
namespace DL
open PySem PySem.Spec PyProof.Rows L2
def nilD : Dat → Bool
  | .str s => decide (s = "")
  | _ => false
def isRowB : Dat → Bool
  | .tup [n, t, o] => nameD n && (numD t 1 1000 && (nilD o || nameD o))
  | _ => false
/-- a value of which it may be asked whether it is a row -/
structure RowT (d : Dat) : Prop where
  ty : ∃ n, tyName d = some n
  es : ∀ es, d = .tup es → es.all flatD = true ∧ es.length ≤ 1000 ∧ ∀ s, Dat.str s ∈ es → s.length ≤ 100000
theorem flat_ty {d : Dat} (h : flatD d = true) : ∃ n, tyName d = some n := by
  cases d <;> first | exact ⟨_, rfl⟩ | cases h
def S_is_rowX : DSpec := fun ds M q _ => ∃ (d : Dat) (c : Bool), ds = [d] ∧ RowT d ∧ isRowB d = c ∧ q (.bl c) M
theorem isRow_len {es : List Dat} (h : ¬ es.length = 3) : isRowB (.tup es) = false := by
  match es with
  | [] => rfl
  | [_] => rfl
  | [_, _] => rfl
  | [_, _, _] => exact absurd rfl h
  | _ :: _ :: _ :: _ :: _ => rfl
theorem isRow_of {d : Dat} (h : isRowB d = true) : ∃ r : JRow, d = rowD r ∧ RowG r := by
  unfold isRowB at h
  split at h
  · rename_i n t o
    rw [Bool.and_eq_true, Bool.and_eq_true, Bool.or_eq_true] at h
    obtain ⟨h1, h2, h3⟩ := h
    have hn : ∃ z, n = .str z := by
      cases n <;> first | exact ⟨_, rfl⟩ | cases h1
    have ht : ∃ i, t = .int i := by
      cases t <;> first | exact ⟨_, rfl⟩ | cases h2
    have ho : ∃ z, o = .str z := by
      cases o <;> first | exact ⟨_, rfl⟩ | (rcases h3 with h3 | h3 <;> cases h3)
    obtain ⟨z, rfl⟩ := hn
    obtain ⟨i, rfl⟩ := ht
    obtain ⟨y, rfl⟩ := ho
    have h4 : 1 ≤ i ∧ i ≤ 1000 := by
      have h5 : (decide (1 ≤ i) && decide (i ≤ 1000)) = true := h2
      rw [Bool.and_eq_true] at h5
      exact ⟨of_decide_eq_true h5.1, of_decide_eq_true h5.2⟩
    exact ⟨(z, i, y), rfl, h1, h4.1, h4.2, h3.imp (fun e => of_decide_eq_true e) id⟩
  · cases h
theorem RowG.is {r : JRow} (h : RowG r) : isRowB (rowD r) = true := by
  show (nameD (.str r.1) && (numD (.int r.2.1) 1 1000 && (decide (r.2.2 = "") || nameD (.str r.2.2)))) = true
  rw [h.nm, numD_T ⟨h.t1, h.t2⟩]
  rcases h.ot with e | e
  · rw [decide_eq_true e]
    rfl
  · rw [e, Bool.or_true]
    rfl
theorem RowG.tame {r : JRow} (h : RowG r) : RowT (rowD r) := ⟨⟨_, rfl⟩, fun es e => by
  cases e
  refine ⟨rfl, Nat.le_of_ble_eq_true rfl, fun s hs => ?_⟩
  have h1 := name_len h.nm
  simp only [List.mem_cons, List.not_mem_nil, or_false, reduceCtorEq, false_or] at hs
  rcases hs with hs | hs
  · cases hs
    omega
  · cases hs
    rcases h.ot with e | e
    · rw [e]
      decide
    · have := name_len e
      omega⟩
theorem dop_nilD {X : Cx} {F0 : Hp} {M : Mem} {q : DK} {c : Dat} (hf : flatD c = true) (h : q (.bl (nilD c)) M) : DOp X F0 (compareOp .Eq) c (.str "") M q := by
  cases c <;> first | exact dop_eqT h | exact dop_eqS rfl rfl rfl h | cases hf
theorem updM_self {M : Mem} {a : Addr} {o : MO} (h : M a = some o) : updM M a o = M := by
  funext b
  unfold updM
  by_cases e : b = a
  · rw [if_pos e, e, h]
  · rw [if_neg e]
theorem drop_at {α : Type} {l : List α} {i : Nat} {a : α} (h : l[i]? = some a) : l.drop i = a :: l.drop (i + 1) := by
  obtain ⟨hi, rfl⟩ := List.getElem?_eq_some_iff.mp h
  exact List.drop_eq_getElem_cons hi
/-! ### what the constructor says -/
def badFrom : Nat → List Dat → Option Nat
  | _, [] => none
  | k, d :: r => if isRowB d then badFrom (k + 1) r else some k
def dupGo : List Str → List Str → Option Str
  | _, [] => none
  | seen, n :: r => if n ∈ seen then some n else dupGo (seen ++ [n]) r
def unkGo (ns : List Str) : List JRow → Option Str
  | [] => none
  | r :: rs => if r.2.2 = "" then unkGo ns rs else if r.2.2 ∈ ns then unkGo ns rs else some r.2.2
def ringFst (rows : List JRow) : List JRow → Option Str
  | [] => none
  | r :: rs => if ringB rows r.1 then some r.1 else ringFst rows rs
theorem badFrom_cons {k : Nat} {d : Dat} {r : List Dat} : badFrom k (d :: r) = if isRowB d then badFrom (k + 1) r else some k := rfl
theorem dupGo_cons {seen r : List Str} {n : Str} : dupGo seen (n :: r) = if n ∈ seen then some n else dupGo (seen ++ [n]) r := rfl
theorem unkGo_cons {ns : List Str} {r : JRow} {rs : List JRow} : unkGo ns (r :: rs) = if r.2.2 = "" then unkGo ns rs else if r.2.2 ∈ ns then unkGo ns rs else some r.2.2 := rfl
theorem ringFst_cons {rows : List JRow} {r : JRow} {rs : List JRow} : ringFst rows (r :: rs) = if ringB rows r.1 then some r.1 else ringFst rows rs := rfl
theorem badFrom_none {ds : List Dat} : ∀ {k : Nat}, badFrom k ds = none → ∀ d ∈ ds, isRowB d = true := by
  induction ds with
  | nil => intro k _ d h; cases h
  | cons x r ih =>
    intro k h d hd
    unfold badFrom at h
    by_cases e : isRowB x = true
    · rw [if_pos e] at h
      rcases List.mem_cons.mp hd with rfl | hd
      · exact e
      · exact ih h d hd
    · rw [if_neg e] at h
      cases h
theorem badFrom_all {ds : List Dat} (h : ∀ d ∈ ds, isRowB d = true) : ∀ k, badFrom k ds = none := by
  induction ds with
  | nil => exact fun _ => rfl
  | cons x r ih =>
    intro k
    unfold badFrom
    rw [if_pos (h x (List.mem_cons_self ..))]
    exact ih (fun d hd => h d (List.mem_cons_of_mem _ hd)) _
theorem badFrom_at {A B : List Dat} {b : Dat} (h : ∀ d ∈ A, isRowB d = true) (hb : isRowB b = false) : ∀ k, badFrom k (A ++ b :: B) = some (k + A.length) := by
  induction A with
  | nil =>
    intro k
    show badFrom k (b :: B) = _
    unfold badFrom
    rw [if_neg (by rw [hb]; exact Bool.false_ne_true)]
    rfl
  | cons x r ih =>
    intro k
    show badFrom k (x :: (r ++ b :: B)) = _
    unfold badFrom
    rw [if_pos (h x (List.mem_cons_self ..)), ih (fun d hd => h d (List.mem_cons_of_mem _ hd))]
    rw [List.length_cons]
    congr 1
    omega
theorem rows_of {ds : List Dat} (h : ∀ d ∈ ds, isRowB d = true) : ∃ rows : List JRow, ds = rows.map rowD ∧ ∀ r ∈ rows, RowG r := by
  induction ds with
  | nil => exact ⟨[], rfl, fun r h => by cases h⟩
  | cons x r ih =>
    obtain ⟨y, rfl, hy⟩ := isRow_of (h x (List.mem_cons_self ..))
    obtain ⟨ys, rfl, hys⟩ := ih fun d hd => h d (List.mem_cons_of_mem _ hd)
    exact ⟨y :: ys, rfl, fun z hz => (List.mem_cons.mp hz).elim (fun e => e ▸ hy) (hys z)⟩
theorem dupGo_none : ∀ {ns seen : List Str}, seen.Nodup → dupGo seen ns = none → (seen ++ ns).Nodup
  | [], seen, h, _ => by rw [List.append_nil]; exact h
  | n :: r, seen, h, e => by
    unfold dupGo at e
    by_cases hm : n ∈ seen
    · rw [if_pos hm] at e
      cases e
    · rw [if_neg hm] at e
      have := dupGo_none (ns := r) (seen := seen ++ [n]) (by
        refine List.nodup_append.mpr ⟨h, List.nodup_cons.mpr ⟨(by intro z; cases z), List.nodup_nil⟩, fun a ha b hb => ?_⟩
        rw [List.mem_singleton.mp hb]
        exact fun z => hm (z ▸ ha)) e
      rwa [List.append_assoc] at this
theorem dupGo_nd : ∀ {ns seen : List Str}, (seen ++ ns).Nodup → dupGo seen ns = none
  | [], seen, _ => rfl
  | n :: r, seen, h => by
    unfold dupGo
    have hm : n ∉ seen := fun hm => (List.nodup_append.mp h).2.2 n hm n (List.mem_cons_self ..) rfl
    rw [if_neg hm]
    exact dupGo_nd (by rw [List.append_assoc]; exact h)
theorem unkGo_none {ns : List Str} : ∀ {rs : List JRow}, unkGo ns rs = none → ∀ r ∈ rs, r.2.2 = "" ∨ r.2.2 ∈ ns
  | [], _, r, h => by cases h
  | x :: rs, e, r, h => by
    unfold unkGo at e
    by_cases h1 : x.2.2 = ""
    · rw [if_pos h1] at e
      rcases List.mem_cons.mp h with rfl | h
      · exact .inl h1
      · exact unkGo_none e r h
    · rw [if_neg h1] at e
      by_cases h2 : x.2.2 ∈ ns
      · rw [if_pos h2] at e
        rcases List.mem_cons.mp h with rfl | h
        · exact .inr h2
        · exact unkGo_none e r h
      · rw [if_neg h2] at e
        cases e
theorem unkGo_cl {ns : List Str} : ∀ {rs : List JRow}, (∀ r ∈ rs, r.2.2 = "" ∨ r.2.2 ∈ ns) → unkGo ns rs = none
  | [], _ => rfl
  | x :: rs, h => by
    unfold unkGo
    have ih := unkGo_cl (rs := rs) fun r hr => h r (List.mem_cons_of_mem _ hr)
    rcases h x (List.mem_cons_self ..) with e | e
    · rw [if_pos e]
      exact ih
    · by_cases h1 : x.2.2 = ""
      · rw [if_pos h1]
        exact ih
      · rw [if_neg h1, if_pos e]
        exact ih
theorem ringFst_none {rows : List JRow} : ∀ {rs : List JRow}, ringFst rows rs = none → ∀ r ∈ rs, ringB rows r.1 = false
  | [], _, r, h => by cases h
  | x :: rs, e, r, h => by
    unfold ringFst at e
    cases h1 : ringB rows x.1 with
    | true =>
      rw [h1] at e
      cases e
    | false =>
      rw [h1] at e
      rcases List.mem_cons.mp h with rfl | h
      · exact h1
      · exact ringFst_none e r h
theorem ringFst_no {rows : List JRow} : ∀ {rs : List JRow}, (∀ r ∈ rs, ringB rows r.1 = false) → ringFst rows rs = none
  | [], _ => rfl
  | x :: rs, h => by
    unfold ringFst
    rw [h x (List.mem_cons_self ..)]
    exact ringFst_no fun r hr => h r (List.mem_cons_of_mem _ hr)
abbrev cntX (C : Addr) (n : Nat) : Exn := ⟨C, ["given", "code"], [.int (n : Int), .str "InvalidCount"]⟩
abbrev jobX (C : Addr) (n : Nat) : Exn := ⟨C, ["at", "code"], [.int (n : Int), .str "InvalidJob"]⟩
abbrev dupX (C : Addr) (n : Str) : Exn := ⟨C, ["name", "code"], [.str n, .str "DuplicateName"]⟩
abbrev ringX (C : Addr) (n : Str) : Exn := ⟨C, ["name", "code"], [.str n, .str "Ring"]⟩
/-- the addresses of the constructor's error classes -/
structure JXs where
  (ct jb du un ri : Addr)
/-- how the constructor ends over good rows -/
def jrowsEnd (c : JXs) (rows : List JRow) (x : Exn → Prop) (ok : Prop) : Prop := match dupGo [] (rows.map (·.1)) with
  | some n => x (dupX c.du n)
  | none => match unkGo (rows.map (·.1)) rows with
    | some n => x (unkX c.un (.str n))
    | none => match ringFst rows rows with
      | some n => x (ringX c.ri n)
      | none => ok
def jEnd (c : JXs) (rs : List Dat) (x : Exn → Prop) (ok : List JRow → Prop) : Prop :=
  if ¬ (1 ≤ rs.length ∧ rs.length ≤ 8) then x (cntX c.ct rs.length) else
    match badFrom 0 rs with
    | some k => x (jobX c.jb k)
    | none => ∀ rows : List JRow, rs = rows.map rowD → (∀ r ∈ rows, RowG r) → jrowsEnd c rows x (ok rows)
def S_jinitX (C : Addr) (c : JXs) : DSpec := fun ds M q x => ∃ (a : Addr) (t : Bool) (rs : List Dat), ds = [.ptr a, .bl t, .tup rs] ∧ M a = some (.obj C [] []) ∧ rs.length ≤ 1000 ∧ (∀ d ∈ rs, RowT d) ∧
  jEnd c rs (fun e => ∀ o, x e (updM M a o)) fun rows => q .non (updM M a (.obj C ["others", "tolds", "job_rows", "is_turned"] [.dct (keysD rows) (othsD rows), .dct (keysD rows) (toldsD rows), .tup (rows.map rowD), .bl t]))
theorem jrowsEnd_ok {c : JXs} {rows : List JRow} {x : Exn → Prop} {ok : Prop} (h : JobsG rows) (k : ok) : jrowsEnd c rows x ok := by
  unfold jrowsEnd
  rw [dupGo_nd (seen := []) (by rw [List.nil_append]; exact h.nd), unkGo_cl h.cl, ringFst_no h.ring]
  exact k
theorem rowD_inj {r s : JRow} (h : rowD r = rowD s) : r = s := by
  obtain ⟨a, b, c⟩ := r
  obtain ⟨d, e, f⟩ := s
  cases h
  rfl
theorem rows_inj : ∀ {a b : List JRow}, a.map rowD = b.map rowD → a = b
  | [], [], _ => rfl
  | [], _ :: _, h => by cases h
  | _ :: _, [], h => by cases h
  | x :: a, y :: b, h => by
    rw [List.map_cons, List.map_cons] at h
    obtain ⟨h1, h2⟩ := List.cons.inj h
    rw [rowD_inj h1, rows_inj h2]
theorem jEnd_ok {c : JXs} {rows : List JRow} {x : Exn → Prop} {ok : List JRow → Prop} (h : JobsG rows) (k : ok rows) : jEnd c (rows.map rowD) x ok := by
  unfold jEnd
  rw [List.length_map, if_neg (fun z => z ⟨h.n1, h.n8⟩), badFrom_all (fun d hd => by
    obtain ⟨r, hr, rfl⟩ := List.mem_map.mp hd
    exact (h.row r hr).is)]
  intro rows2 e _
  rw [← rows_inj e]
  exact jrowsEnd_ok h k
theorem jEnd_count {c : JXs} {rs : List Dat} {x : Exn → Prop} {ok : List JRow → Prop} (h : ¬ (1 ≤ rs.length ∧ rs.length ≤ 8)) (k : x (cntX c.ct rs.length)) : jEnd c rs x ok := by
  unfold jEnd
  rw [if_pos h]
  exact k
theorem jEnd_job {c : JXs} {A B : List Dat} {b : Dat} {x : Exn → Prop} {ok : List JRow → Prop} (hl : (A ++ b :: B).length ≤ 8) (h : ∀ d ∈ A, isRowB d = true) (hb : isRowB b = false) (k : x (jobX c.jb A.length)) : jEnd c (A ++ b :: B) x ok := by
  unfold jEnd
  rw [if_neg (fun z => z ⟨by rw [List.length_append, List.length_cons]; omega, hl⟩), badFrom_at h hb, Nat.zero_add]
  exact k
theorem jEnd_rows {c : JXs} {rows : List JRow} {x : Exn → Prop} {ok : List JRow → Prop} (h1 : 1 ≤ rows.length) (h8 : rows.length ≤ 8) (hr : ∀ r ∈ rows, RowG r) (k : jrowsEnd c rows x (ok rows)) : jEnd c (rows.map rowD) x ok := by
  unfold jEnd
  rw [List.length_map, if_neg (fun z => z ⟨h1, h8⟩), badFrom_all (fun d hd => by
    obtain ⟨r, hr2, rfl⟩ := List.mem_map.mp hd
    exact (hr r hr2).is)]
  intro rows2 e _
  rw [← rows_inj e]
  exact k
theorem jrowsEnd_dup {c : JXs} {rows : List JRow} {x : Exn → Prop} {ok : Prop} {n : Str} (h : dupGo [] (rows.map (·.1)) = some n) (k : x (dupX c.du n)) : jrowsEnd c rows x ok := by
  unfold jrowsEnd
  rw [h]
  exact k
theorem jrowsEnd_unk {c : JXs} {rows : List JRow} {x : Exn → Prop} {ok : Prop} {n : Str} (hn : (rows.map (·.1)).Nodup) (h : unkGo (rows.map (·.1)) rows = some n) (k : x (unkX c.un (.str n))) : jrowsEnd c rows x ok := by
  unfold jrowsEnd
  rw [dupGo_nd (seen := []) (by rw [List.nil_append]; exact hn), h]
  exact k
theorem jrowsEnd_ring {c : JXs} {rows : List JRow} {x : Exn → Prop} {ok : Prop} {n : Str} (hn : (rows.map (·.1)).Nodup) (hc : Closed rows) (h : ringFst rows rows = some n) (k : x (ringX c.ri n)) : jrowsEnd c rows x ok := by
  unfold jrowsEnd
  rw [dupGo_nd (seen := []) (by rw [List.nil_append]; exact hn), unkGo_cl hc, h]
  exact k
theorem rows_tame {rows : List JRow} (h : ∀ r ∈ rows, RowG r) : ∀ d ∈ rows.map rowD, RowT d := fun d hd => by
  obtain ⟨r, hr, rfl⟩ := List.mem_map.mp hd
  exact (h r hr).tame
/-- a call of the class, whatever comes of it -/
theorem new_jX {C : Addr} {c : JXs} {t : Bool} {rs : List Dat} {M : Mem} {q : DK} {xq : XQ} (hl : rs.length ≤ 1000) (ht : ∀ d ∈ rs, RowT d) (h : jEnd c rs (fun e => ∀ M', SubM M M' → xq e M') fun rows => q (jobsD C rows t) M) : NewV C (S_jinitX C c) 0 [.bl false] [0, 1] rs [.bl t] M q xq := fun a ha =>
  ⟨a, t, rs, rfl, updM_same, hl, ht, by
    have sub : ∀ o, SubM M (updM (updM M a (.obj C [] [])) a o) := fun o p u hp => by
      have e : p ≠ a := fun z => by rw [z, ha] at hp; cases hp
      rw [updM_ne e, updM_ne e]
      exact hp
    unfold jEnd at h ⊢
    split
    · rename_i e
      rw [if_pos e] at h
      exact fun o => h _ (sub o)
    · rename_i e
      rw [if_neg e] at h
      revert h
      cases badFrom 0 rs with
      | some k => exact fun h o => h _ (sub o)
      | none =>
        refine fun h0 rows hr hg => ?_
        have h1 := h0 rows hr hg
        unfold jrowsEnd at h1 ⊢
        revert h1
        cases dupGo [] (rows.map (·.1)) with
        | some n => exact fun h o => h _ (sub o)
        | none =>
          dsimp only
          cases unkGo (rows.map (·.1)) rows with
          | some n => exact fun h o => h _ (sub o)
          | none =>
            dsimp only
            cases ringFst rows rows with
            | some n => exact fun h o => h _ (sub o)
            | none =>
              intro h2
              refine ⟨rfl, _, _, updM_same, ?_⟩
              rw [updM_updM, del_upd ha]
              exact h2⟩
theorem new_jX0 {C : Addr} {c : JXs} {rs : List Dat} {M : Mem} {q : DK} {xq : XQ} (hl : rs.length ≤ 1000) (ht : ∀ d ∈ rs, RowT d) (h : jEnd c rs (fun e => ∀ M', SubM M M' → xq e M') fun rows => q (jobsD C rows false) M) : NewV C (S_jinitX C c) 0 [.bl false] [0, 1] rs [] M q xq := fun a ha =>
  new_jX (t := false) hl ht h a ha
theorem new_jobsX {C : Addr} {c : JXs} {rows : List JRow} {t : Bool} {M : Mem} {q : DK} {xq : XQ} (h : JobsG rows) (hq : q (jobsD C rows t) M) : NewV C (S_jinitX C c) 0 [.bl false] [0, 1] (rows.map rowD) [.bl t] M q xq := by
  have := h.n8
  exact new_jX (by rw [List.length_map]; omega) (rows_tame h.row) (jEnd_ok h hq)
theorem new_jobsX0 {C : Addr} {c : JXs} {rows : List JRow} {M : Mem} {q : DK} {xq : XQ} (h : JobsG rows) (hq : q (jobsD C rows false) M) : NewV C (S_jinitX C c) 0 [.bl false] [0, 1] (rows.map rowD) [] M q xq := by
  have := h.n8
  exact new_jX0 (by rw [List.length_map]; omega) (rows_tame h.row) (jEnd_ok h hq)
/-- jobs + row -/
def S_jaddX (C : Addr) (c : JXs) : DSpec := fun ds M q x => ∃ (rows : List JRow) (t : Bool) (row : Dat), ds = [jobsD C rows t, row] ∧ rows.length ≤ 8 ∧ (∀ r ∈ rows, RowG r) ∧ RowT row ∧
  jEnd c (rows.map rowD ++ [row]) (fun e => ∀ M', SubM M M' → x e M') fun rows2 => q (jobsD C rows2 t) M
/-- the rows without a job -/
def woL (rows : List JRow) (n : Str) (l : List JRow) : List JRow := (l.filter fun r => decide (r.1 ≠ n)).map fun r => (r.1, r.2.1, if r.2.2 = n then otherOf rows n else r.2.2)
/-- a rank that falls from each job to its other -/
def Ranked (rows : List JRow) : Prop := ∃ rank : Str → Nat, ∀ r ∈ rows, r.2.2 = "" ∨ rank r.2.2 < rank r.1
def S_withoutX (C CU : Addr) (c : JXs) : DSpec := fun ds M q x => ∃ (rows : List JRow) (t : Bool) (d : Dat), ds = [jobsD C rows t, d] ∧ JobsG rows ∧ Ranked rows ∧
  ((∃ n, d = .str n ∧ n ∈ rows.map (·.1) ∧ (rows.length = 1 → ∀ M', SubM M M' → x (cntX c.ct 0) M') ∧ (rows.length ≠ 1 → q (jobsD C (woL rows n rows) t) M)) ∨ (Unk rows d ∧ x (unkX CU d) M))
theorem woL_snoc {rows l : List JRow} {n : Str} {r : JRow} : woL rows n (l ++ [r]) = woL rows n l ++ (if r.1 = n then [] else [(r.1, r.2.1, if r.2.2 = n then otherOf rows n else r.2.2)]) := by
  unfold woL
  rw [List.filter_append, List.map_append]
  congr 1
  by_cases e : r.1 = n
  · rw [if_pos e, List.filter_cons, decide_eq_false (fun z => z e)]
    rfl
  · rw [if_neg e, List.filter_cons, decide_eq_true e]
    rfl
theorem woL_nms {rows l : List JRow} {n : Str} : (woL rows n l).map (·.1) = (l.map (·.1)).filter fun m => decide (m ≠ n) := by
  unfold woL
  rw [List.map_map, List.filter_map]
  rfl
theorem filt_len {l : List Str} {n : Str} (hn : l.Nodup) (h : n ∈ l) : (l.filter fun m => decide (m ≠ n)).length + 1 = l.length := by
  induction l with
  | nil => cases h
  | cons x l ih =>
    obtain ⟨h1, h2⟩ := List.nodup_cons.mp hn
    rw [List.filter_cons]
    rcases List.mem_cons.mp h with rfl | h
    · have e0 : l.filter (fun m => decide (m ≠ n)) = l := List.filter_eq_self.mpr fun y hy => decide_eq_true fun e => h1 (by rw [← e]; exact hy)
      rw [decide_eq_false (fun z => z rfl), if_neg Bool.false_ne_true, e0, List.length_cons]
    · have e : x ≠ n := fun z => h1 (z ▸ h)
      rw [decide_eq_true e, if_pos rfl, List.length_cons, List.length_cons, ih h2 h]
theorem woL_len {rows : List JRow} {n : Str} (hn : (rows.map (·.1)).Nodup) (h : n ∈ rows.map (·.1)) : (woL rows n rows).length + 1 = rows.length := by
  have := filt_len hn h
  rw [← woL_nms (rows := rows), List.length_map, List.length_map] at this
  exact this
theorem rank_ne {rows : List JRow} (hg : ∀ r ∈ rows, RowG r) : ∀ r ∈ rows, ¬ r.1 = "" := fun r hr e => by
  have := name_len (hg r hr).nm
  rw [e] at this
  exact absurd this.1 (by decide)
theorem woL_G {rows : List JRow} {n : Str} (hG : JobsG rows) (hR : Ranked rows) (h : n ∈ rows.map (·.1)) (hl : rows.length ≠ 1) : JobsG (woL rows n rows) ∧ Ranked (woL rows n rows) := by
  obtain ⟨rank, hr⟩ := hR
  have n1 := hG.n1
  have n8 := hG.n8
  have len := woL_len hG.nd h
  obtain ⟨rn, hrn, en⟩ := List.mem_map.mp h
  have ho : otherOf rows n = rn.2.2 := by rw [← en]; exact other_at hG.nd hrn
  have all : ∀ {P : JRow → Prop}, (∀ r ∈ rows, r.1 ≠ n → r.2.2 ≠ n → P r) → (∀ r ∈ rows, r.1 ≠ n → r.2.2 = n → P (r.1, r.2.1, rn.2.2)) → ∀ r ∈ woL rows n rows, P r := fun h1 h2 r hr => by
    unfold woL at hr
    obtain ⟨x, hx, rfl⟩ := List.mem_map.mp hr
    obtain ⟨hx1, hx2⟩ := List.mem_filter.mp hx
    have hx3 := of_decide_eq_true hx2
    by_cases e : x.2.2 = n
    · rw [if_pos e, ho]
      exact h2 x hx1 hx3 e
    · rw [if_neg e]
      exact h1 x hx1 hx3 e
  have rk : ∀ r ∈ woL rows n rows, r.2.2 = "" ∨ rank r.2.2 < rank r.1 := all (fun r h1 _ _ => hr r h1) fun r h1 h2 h3 => by
    rcases hr rn hrn with e | e
    · exact .inl e
    · right
      have := (hr r h1).resolve_left fun z => (rank_ne hG.row rn hrn) (by rw [en, ← h3]; exact z)
      rw [h3, ← en] at this
      show rank rn.2.2 < rank r.1
      omega
  have hg : ∀ r ∈ woL rows n rows, RowG r := all (fun r h1 _ _ => hG.row r h1) fun r h1 _ _ => ⟨(hG.row r h1).nm, (hG.row r h1).t1, (hG.row r h1).t2, (hG.row rn hrn).ot⟩
  have sub : ∀ m, m ∈ (woL rows n rows).map (·.1) ↔ m ∈ rows.map (·.1) ∧ m ≠ n := fun m => by
    rw [woL_nms, List.mem_filter]
    exact ⟨fun z => ⟨z.1, of_decide_eq_true z.2⟩, fun z => ⟨z.1, decide_eq_true z.2⟩⟩
  refine ⟨⟨by omega, by omega, hg, ?_, ?_, fun r h => ring_rank rk (rank_ne hg) (List.mem_map_of_mem h)⟩, rank, rk⟩
  · rw [woL_nms]
    exact hG.nd.filter _
  · refine all (P := fun r => r.2.2 = "" ∨ r.2.2 ∈ (woL rows n rows).map (·.1)) (fun r h1 h2 h3 => ?_) fun r h1 h2 h3 => ?_
    · rcases hG.cl r h1 with e | e
      · exact .inl e
      · exact .inr ((sub _).mpr ⟨e, h3⟩)
    · rcases hG.cl rn hrn with e | e
      · exact .inl e
      · refine .inr ((sub _).mpr ⟨e, fun z => ?_⟩)
        have z' : rn.2.2 = n := z
        rcases hr rn hrn with e2 | e2
        · exact rank_ne hG.row rn hrn (by rw [en, ← z', e2])
        · rw [z', en] at e2
          omega
end DL
/-! facts: terms added up -/
namespace DL
open PySem PySem.Spec PyProof.Rows L2
abbrev Term := Str × Int
abbrev termD (t : Term) : Dat := .tup [.str t.1, .int t.2]
def isTermB : Dat → Bool
  | .tup [n, f] => nameD n && numD f (-1000) 1000
  | _ => false
/-! ### ascending texts -/
def leS (a b : Str) : Prop := a.cps.toList ≤ b.cps.toList
theorem str_ext {a b : Str} (h : a.cps.toList = b.cps.toList) : a = b := by
  cases a with
  | mk x =>
    cases b with
    | mk y =>
      have : x = y := Array.toList_inj.mp h
      rw [this]
theorem leS_anti {a b : Str} (h1 : leS a b) (h2 : leS b a) : a = b := str_ext (List.le_antisymm h1 h2)
theorem le_of_ltCps {a b : Str} (h : ltCps b.cps.toList a.cps.toList = false) : leS a b := by
  rw [ltCps_eq] at h
  exact List.not_lt.mp (of_decide_eq_false h)
theorem leS_trans {a b c : Str} (h1 : leS a b) (h2 : leS b c) : leS a c := List.le_trans h1 h2
theorem rising_pw : ∀ {l : List Str} {p : Str}, risingS p l = true → (p :: l).Pairwise leS
  | [], p, _ => List.pairwise_singleton ..
  | x :: r, p, h => by
    unfold risingS at h
    rw [Bool.and_eq_true] at h
    obtain ⟨h1, h2⟩ := h
    have hp : leS p x := le_of_ltCps (by cases e : ltCps x.cps.toList p.cps.toList; rfl; rw [e] at h1; cases h1)
    have ih := rising_pw h2
    refine List.Pairwise.cons (fun y hy => ?_) ih
    rcases List.mem_cons.mp hy with rfl | hy
    · exact hp
    · exact leS_trans hp (List.rel_of_pairwise_cons ih hy)
theorem sorted_pw {l : List Str} (h : sortedS l = true) : l.Pairwise leS := by
  cases l with
  | nil => exact .nil
  | cons x r => exact rising_pw h
/-! ### added up -/
def sumT : List Term → Str → Int
  | [], _ => 0
  | t :: r, n => (if t.1 = n then t.2 else 0) + sumT r n
theorem sumT_cons {t : Term} {r : List Term} {n : Str} : sumT (t :: r) n = (if t.1 = n then t.2 else 0) + sumT r n := rfl
theorem sumT_app {a b : List Term} {n : Str} : sumT (a ++ b) n = sumT a n + sumT b n := by
  induction a with
  | nil => show sumT b n = 0 + sumT b n; omega
  | cons t r ih =>
    show _ + sumT (r ++ b) n = _ + sumT r n + sumT b n
    rw [ih]
    omega
theorem sumT_no {ts : List Term} {n : Str} (h : n ∉ ts.map (·.1)) : sumT ts n = 0 := by
  induction ts with
  | nil => rfl
  | cons t r ih =>
    rw [List.map_cons, List.mem_cons] at h
    rw [sumT_cons, if_neg (fun e => h (.inl e.symm)), ih (fun z => h (.inr z))]
    rfl
theorem sumT_perm {a b : List Term} (h : a.Perm b) (n : Str) : sumT a n = sumT b n := by
  induction h with
  | nil => rfl
  | cons t _ ih => rw [sumT_cons, sumT_cons, ih]
  | swap x y l => rw [sumT_cons, sumT_cons, sumT_cons, sumT_cons]; omega
  | trans _ _ ih1 ih2 => rw [ih1, ih2]
theorem sumT_nd {ts : List Term} (h : (ts.map (·.1)).Nodup) {t : Term} (ht : t ∈ ts) : sumT ts t.1 = t.2 := by
  induction ts with
  | nil => cases ht
  | cons x r ih =>
    rw [List.map_cons, List.nodup_cons] at h
    rcases List.mem_cons.mp ht with rfl | ht
    · rw [sumT_cons, if_pos rfl, sumT_no h.1]
      omega
    · have e : x.1 ≠ t.1 := fun e => h.1 (e ▸ List.mem_map_of_mem ht)
      rw [sumT_cons, if_neg e, ih h.2 ht]
      omega
/-- r: the ascending terms of ts added up, without zeros -/
structure IsJoin (ts r : List Term) : Prop where
  nd : (r.map (·.1)).Nodup
  srt : (r.map (·.1)).Pairwise leS
  val : ∀ t ∈ r, t.2 = sumT ts t.1 ∧ t.2 ≠ 0
  all : ∀ n, sumT ts n ≠ 0 → n ∈ r.map (·.1)
theorem IsJoin.mem {ts r : List Term} (h : IsJoin ts r) {n : Str} : n ∈ r.map (·.1) ↔ sumT ts n ≠ 0 :=
  ⟨fun hn => by
    obtain ⟨t, ht, rfl⟩ := List.mem_map.mp hn
    obtain ⟨h1, h2⟩ := h.val t ht
    rw [← h1]
    exact h2, h.all n⟩
theorem names_inj {f : Str → Int} : ∀ {a b : List Term}, (∀ t ∈ a, t.2 = f t.1) → (∀ t ∈ b, t.2 = f t.1) → a.map (·.1) = b.map (·.1) → a = b
  | [], [], _, _, _ => rfl
  | [], _ :: _, _, _, h => by cases h
  | _ :: _, [], _, _, h => by cases h
  | (x1, x2) :: a, (y1, y2) :: b, h1, h2, h => by
    rw [List.map_cons, List.map_cons] at h
    obtain ⟨e1, e2⟩ := List.cons.inj h
    have e1 : x1 = y1 := e1
    have g1 : x2 = f x1 := h1 _ (List.mem_cons_self ..)
    have g2 : y2 = f y1 := h2 _ (List.mem_cons_self ..)
    rw [names_inj (fun t ht => h1 t (List.mem_cons_of_mem _ ht)) (fun t ht => h2 t (List.mem_cons_of_mem _ ht)) e2, g1, g2, e1]
theorem IsJoin.uniq {ts us r s : List Term} (h : IsJoin ts r) (g : IsJoin us s) (e : ∀ n, sumT ts n = sumT us n) : r = s := by
  have hp : (r.map (·.1)).Perm (s.map (·.1)) := (List.perm_ext_iff_of_nodup h.nd g.nd).mpr fun n => by rw [h.mem, g.mem, e]
  have hn : r.map (·.1) = s.map (·.1) := hp.eq_of_pairwise (fun a b _ _ h1 h2 => leS_anti h1 h2) h.srt g.srt
  exact names_inj (f := sumT ts) (fun t ht => (h.val t ht).1) (fun t ht => by rw [e]; exact (g.val t ht).1) hn
theorem IsJoin.sum {ts r : List Term} (h : IsJoin ts r) (n : Str) : sumT r n = sumT ts n := by
  by_cases hn : n ∈ r.map (·.1)
  · obtain ⟨t, ht, rfl⟩ := List.mem_map.mp hn
    rw [sumT_nd h.nd ht, (h.val t ht).1]
  · rw [sumT_no hn]
    by_cases z : sumT ts n = 0
    · exact z.symm
    · exact absurd (h.all n z) hn
theorem IsJoin.self {ts : List Term} (h1 : (ts.map (·.1)).Nodup) (h2 : (ts.map (·.1)).Pairwise leS) (h3 : ∀ t ∈ ts, t.2 ≠ 0) : IsJoin ts ts :=
  ⟨h1, h2, fun t ht => ⟨(sumT_nd h1 ht).symm, h3 t ht⟩, fun n hn => Classical.byContradiction fun z => hn (sumT_no z)⟩
/-! ### the dict of the sums -/
def keysT (acc : List Term) : List Key := acc.map fun t => .inr t.1
def valsT (acc : List Term) : List Dat := acc.map fun t => .int t.2
def putT (acc : List Term) (n : Str) (v : Int) : List Term := if n ∈ acc.map (·.1) then acc.map (fun t => if t.1 = n then (t.1, v) else t) else acc ++ [(n, v)]
theorem hasT {acc : List Term} {n : Str} : hasK (keysT acc) (.inr n) = decide (n ∈ acc.map (·.1)) := by
  rw [Bool.eq_iff_iff, hasK_iff, decide_eq_true_iff]
  unfold keysT
  rw [List.mem_map, List.mem_map]
  exact ⟨fun ⟨t, h1, h2⟩ => ⟨t, h1, by cases h2; rfl⟩, fun ⟨t, h1, h2⟩ => ⟨t, h1, by rw [h2]⟩⟩
theorem zip_kv (acc : List Term) : (keysT acc).zip (valsT acc) = acc.map fun t => ((.inr t.1 : Key), Dat.int t.2) := by
  unfold keysT valsT
  rw [List.zip_map']
theorem putT_is {acc : List Term} {n : Str} {v : Int} : putD (keysT acc) (valsT acc) (.inr n) (.int v) = (keysT (putT acc n v), valsT (putT acc n v)) := by
  unfold putD putT
  rw [hasT]
  by_cases h : n ∈ acc.map (·.1)
  · rw [if_pos (decide_eq_true h), if_pos h, zip_kv]
    refine Prod.ext ?_ ?_
    · show keysT acc = keysT _
      unfold keysT
      rw [List.map_map]
      refine List.map_congr_left fun t ht => ?_
      show _ = Sum.inr (if t.1 = n then (t.1, v) else t).1
      split <;> rfl
    · show List.map _ _ = valsT _
      unfold valsT
      rw [List.map_map, List.map_map]
      refine List.map_congr_left fun t ht => ?_
      show (if (Sum.inr t.1 : Key) = .inr n then Dat.int v else Dat.int t.2) = Dat.int (if t.1 = n then (t.1, v) else t).2
      by_cases e : t.1 = n
      · rw [if_pos e, if_pos (by rw [e])]
      · rw [if_neg e, if_neg (fun z => e (by cases z; rfl))]
  · rw [if_neg (by rw [decide_eq_false h]; exact Bool.false_ne_true), if_neg h]
    unfold keysT valsT
    rw [List.map_append, List.map_append]
    rfl
theorem putT_names {acc : List Term} {n : Str} {v : Int} : (putT acc n v).map (·.1) = if n ∈ acc.map (·.1) then acc.map (·.1) else acc.map (·.1) ++ [n] := by
  unfold putT
  by_cases h : n ∈ acc.map (·.1)
  · rw [if_pos h, if_pos h, List.map_map]
    refine List.map_congr_left fun t ht => ?_
    show (if t.1 = n then (t.1, v) else t).1 = t.1
    split <;> rfl
  · rw [if_neg h, if_neg h, List.map_append]
    rfl
theorem valT {acc : List Term} {n : Str} : (acc.map (·.1)).Nodup → ((valD (keysT acc) (valsT acc) (.inr n)).getD (.int 0)) = .int (sumT acc n) := by
  unfold valD
  rw [zip_kv]
  induction acc with
  | nil => exact fun _ => rfl
  | cons t r ih =>
    intro h
    rw [List.map_cons, List.nodup_cons] at h
    rw [List.map_cons, List.find?_cons, sumT_cons]
    by_cases e : t.1 = n
    · rw [decide_eq_true (by rw [e]), if_pos e, sumT_no (by rw [← e]; exact h.1)]
      show Dat.int t.2 = Dat.int (t.2 + 0)
      rw [Int.add_zero]
    · rw [decide_eq_false (fun z => e (by cases z; rfl)), if_neg e, ih h.2, Int.zero_add]
theorem valT_at {acc : List Term} {n : Str} (hn : (acc.map (·.1)).Nodup) (h : n ∈ acc.map (·.1)) : valD (keysT acc) (valsT acc) (.inr n) = some (.int (sumT acc n)) := by
  have h1 := valT (n := n) hn
  cases e : valD (keysT acc) (valsT acc) (.inr n) with
  | some d =>
    rw [e] at h1
    rw [show d = Dat.int (sumT acc n) from h1]
  | none =>
    exfalso
    unfold valD at e
    rw [zip_kv, Option.map_eq_none_iff, List.find?_eq_none] at e
    obtain ⟨t, ht, rfl⟩ := List.mem_map.mp h
    exact e ((.inr t.1 : Key), Dat.int t.2) (List.mem_map.mpr ⟨t, ht, rfl⟩) (by simp)
/-- the sums of the terms that were seen -/
structure Acc (ts acc : List Term) : Prop where
  nd : (acc.map (·.1)).Nodup
  len : acc.length ≤ ts.length
  val : ∀ t ∈ acc, t.2 = sumT ts t.1
  all : ∀ t ∈ ts, t.1 ∈ acc.map (·.1)
theorem Acc.nil : Acc [] [] := ⟨.nil, Nat.le_refl _, fun t h => (by cases h), fun t h => (by cases h)⟩
theorem Acc.sum {ts acc : List Term} (h : Acc ts acc) (n : Str) : sumT acc n = sumT ts n := by
  by_cases hn : n ∈ acc.map (·.1)
  · obtain ⟨t, ht, rfl⟩ := List.mem_map.mp hn
    rw [sumT_nd h.nd ht, h.val t ht]
  · rw [sumT_no hn, sumT_no]
    intro z
    obtain ⟨t, ht, rfl⟩ := List.mem_map.mp z
    exact hn (h.all t ht)
theorem Acc.put {ts acc : List Term} (h : Acc ts acc) (t : Term) : Acc (ts ++ [t]) (putT acc t.1 (sumT acc t.1 + t.2)) := by
  have e1 : ∀ n, sumT [t] n = if t.1 = n then t.2 else 0 := fun n => by rw [sumT_cons]; exact Int.add_zero _
  refine ⟨?_, ?_, fun u hu => ?_, fun u hu => ?_⟩
  · rw [putT_names]
    split
    · exact h.nd
    · rename_i hn
      exact List.nodup_append.mpr ⟨h.nd, List.nodup_cons.mpr ⟨(fun z => by cases z), .nil⟩, fun a ha b hb => by
        rw [List.mem_singleton.mp hb]
        exact fun z => hn (z ▸ ha)⟩
  · have := h.len
    have e : (putT acc t.1 (sumT acc t.1 + t.2)).length = ((putT acc t.1 (sumT acc t.1 + t.2)).map (·.1)).length := (List.length_map ..).symm
    rw [e, putT_names]
    split <;> simp <;> omega
  · rw [sumT_app, e1]
    unfold putT at hu
    by_cases hn : t.1 ∈ acc.map (·.1)
    · rw [if_pos hn] at hu
      obtain ⟨w, hw, rfl⟩ := List.mem_map.mp hu
      by_cases e : w.1 = t.1
      · rw [if_pos e]
        show sumT acc t.1 + t.2 = sumT ts w.1 + if t.1 = w.1 then t.2 else 0
        rw [if_pos e.symm, e, h.sum]
      · rw [if_neg e, if_neg (fun z => e z.symm), Int.add_zero]
        exact h.val w hw
    · rw [if_neg hn] at hu
      rcases List.mem_append.mp hu with hu | hu
      · have e : ¬ t.1 = u.1 := fun z => hn (z ▸ List.mem_map_of_mem hu)
        rw [if_neg e, Int.add_zero]
        exact h.val u hu
      · rw [List.mem_singleton.mp hu]
        show sumT acc t.1 + t.2 = sumT ts t.1 + if t.1 = t.1 then t.2 else 0
        rw [if_pos rfl, h.sum]
  · rw [putT_names]
    rcases List.mem_append.mp hu with hu | hu
    · have := h.all u hu
      split
      · exact this
      · exact List.mem_append_left _ this
    · rw [List.mem_singleton.mp hu]
      split
      · assumption
      · exact List.mem_append_right _ (List.mem_singleton.mpr rfl)
/-- the sorted names with sums that are not zero -/
theorem Acc.join {ts acc : List Term} (h : Acc ts acc) {zs : List Str} (hp : zs.Perm ((acc.filter fun t => !decide (t.2 = 0)).map (·.1))) (hs : sortedS zs = true) : IsJoin ts (zs.map fun n => (n, sumT acc n)) := by
  have hm : (zs.map fun n => (n, sumT acc n)).map (·.1) = zs := by
    rw [List.map_map]
    exact List.map_id _
  have hnd : ((acc.filter fun t => !decide (t.2 = 0)).map (·.1)).Nodup := h.nd.sublist (List.filter_sublist.map _)
  refine ⟨by rw [hm]; exact hp.nodup_iff.mpr hnd, by rw [hm]; exact sorted_pw hs, fun t ht => ?_, fun n hn => ?_⟩
  · obtain ⟨n, hn, rfl⟩ := List.mem_map.mp ht
    obtain ⟨t, ht2, rfl⟩ := List.mem_map.mp (hp.mem_iff.mp hn)
    obtain ⟨h1, h2⟩ := List.mem_filter.mp ht2
    refine ⟨h.sum _, ?_⟩
    show sumT acc t.1 ≠ 0
    rw [sumT_nd h.nd h1]
    intro z
    rw [decide_eq_true z] at h2
    cases h2
  · rw [hm, hp.mem_iff]
    rw [← h.sum] at hn
    have hi : n ∈ acc.map (·.1) := Classical.byContradiction fun z => hn (sumT_no z)
    obtain ⟨t, ht, rfl⟩ := List.mem_map.mp hi
    refine List.mem_map.mpr ⟨t, List.mem_filter.mpr ⟨ht, ?_⟩, rfl⟩
    rw [sumT_nd h.nd ht] at hn
    rw [decide_eq_false hn]
    rfl

/-! ### what is asked of facts -/
def S_isterm : DSpec := fun ds M q _ => ∃ (d : Dat) (c : Bool), ds = [d] ∧ RowT d ∧ isTermB d = c ∧ q (.bl c) M
theorem isTerm_len {es : List Dat} (h : ¬ es.length = 2) : isTermB (.tup es) = false := by
  match es with
  | [] => rfl
  | [_] => rfl
  | [_, _] => exact absurd rfl h
  | _ :: _ :: _ :: _ => rfl
/-- a good term -/
structure TermG (t : Term) : Prop where
  nm : nameD (.str t.1) = true
  lo : -1000 ≤ t.2
  hi : t.2 ≤ 1000
theorem isTerm_of {d : Dat} (h : isTermB d = true) : ∃ t : Term, d = termD t ∧ TermG t := by
  unfold isTermB at h
  split at h
  · rename_i n f
    rw [Bool.and_eq_true] at h
    obtain ⟨h1, h2⟩ := h
    have hn : ∃ z, n = .str z := by
      cases n <;> first | exact ⟨_, rfl⟩ | cases h1
    have ht : ∃ i, f = .int i := by
      cases f <;> first | exact ⟨_, rfl⟩ | cases h2
    obtain ⟨z, rfl⟩ := hn
    obtain ⟨i, rfl⟩ := ht
    have h5 : (decide (-1000 ≤ i) && decide (i ≤ 1000)) = true := h2
    rw [Bool.and_eq_true] at h5
    exact ⟨(z, i), rfl, h1, of_decide_eq_true h5.1, of_decide_eq_true h5.2⟩
  · cases h
theorem TermG.is {t : Term} (h : TermG t) : isTermB (termD t) = true := by
  show (nameD (.str t.1) && numD (.int t.2) (-1000) 1000) = true
  rw [h.nm, numD_T ⟨h.lo, h.hi⟩]
  rfl
theorem pair_tame {n : Str} {d : Dat} (h : n.length ≤ 100000) (hf : flatD d = true) (hs : ∀ s, d = .str s → s.length ≤ 100000) : RowT (.tup [.str n, d]) := ⟨⟨_, rfl⟩, fun es e => by
  cases e
  refine ⟨?_, Nat.le_of_ble_eq_true rfl, fun s hm => ?_⟩
  · show (true && (flatD d && true)) = true
    rw [hf]
    rfl
  · rcases List.mem_cons.mp hm with e | hm
    · cases e
      exact h
    · exact hs s (List.mem_singleton.mp hm).symm⟩
theorem term_tame {t : Term} (h : t.1.length ≤ 100000) : RowT (termD t) := pair_tame h rfl (fun s e => by cases e)
theorem TermG.tame {t : Term} (h : TermG t) : RowT (termD t) := term_tame (by have := name_len h.nm; omega)
theorem atom_tame {d : Dat} {n : String} (h : tyName d = some n) (hn : ∀ es, d ≠ .tup es) : RowT d := ⟨⟨n, h⟩, fun es e => absurd e (hn es)⟩
def S_added : DSpec := fun ds M q _ => ∃ (ts : List Term) (d : Dat), ds = [d] ∧ (d = .lst (ts.map termD) ∨ d = .tup (ts.map termD)) ∧ ts.length ≤ 60 ∧ ∀ r, IsJoin ts r → q (.lst (r.map termD)) M
abbrev termX (C : Addr) (n : Nat) : Exn := ⟨C, ["at", "code"], [.int (n : Int), .str "InvalidTerm"]⟩
abbrev numX (C : Addr) (d : Dat) : Exn := ⟨C, ["given", "code"], [d, .str "InvalidNumber"]⟩
abbrev noTX (C : Addr) : Exn := ⟨C, ["code"], [.str "NoTerms"]⟩
structure FXs where
  (tm nb no : Addr)
def badT : Nat → List Dat → Option Nat
  | _, [] => none
  | k, d :: r => if isTermB d then badT (k + 1) r else some k
theorem badT_cons {k : Nat} {d : Dat} {r : List Dat} : badT k (d :: r) = if isTermB d then badT (k + 1) r else some k := rfl
theorem badT_all {ds : List Dat} (h : ∀ d ∈ ds, isTermB d = true) : ∀ k, badT k ds = none := by
  induction ds with
  | nil => exact fun _ => rfl
  | cons x r ih =>
    intro k
    unfold badT
    rw [if_pos (h x (List.mem_cons_self ..))]
    exact ih (fun d hd => h d (List.mem_cons_of_mem _ hd)) _
theorem badT_none {ds : List Dat} : ∀ {k : Nat}, badT k ds = none → ∀ d ∈ ds, isTermB d = true := by
  induction ds with
  | nil => intro k _ d h; cases h
  | cons x r ih =>
    intro k h d hd
    unfold badT at h
    by_cases e : isTermB x = true
    · rw [if_pos e] at h
      rcases List.mem_cons.mp hd with rfl | hd
      · exact e
      · exact ih h d hd
    · rw [if_neg e] at h
      cases h
theorem badT_at {A B : List Dat} {b : Dat} (h : ∀ d ∈ A, isTermB d = true) (hb : isTermB b = false) : ∀ k, badT k (A ++ b :: B) = some (k + A.length) := by
  induction A with
  | nil =>
    intro k
    show badT k (b :: B) = _
    unfold badT
    rw [if_neg (by rw [hb]; exact Bool.false_ne_true)]
    rfl
  | cons x r ih =>
    intro k
    show badT k (x :: (r ++ b :: B)) = _
    unfold badT
    rw [if_pos (h x (List.mem_cons_self ..)), ih (fun d hd => h d (List.mem_cons_of_mem _ hd))]
    rw [List.length_cons]
    congr 1
    omega
theorem terms_of {ds : List Dat} (h : ∀ d ∈ ds, isTermB d = true) : ∃ ts : List Term, ds = ts.map termD ∧ ∀ t ∈ ts, TermG t := by
  induction ds with
  | nil => exact ⟨[], rfl, fun r h => by cases h⟩
  | cons x r ih =>
    obtain ⟨y, rfl, hy⟩ := isTerm_of (h x (List.mem_cons_self ..))
    obtain ⟨ys, rfl, hys⟩ := ih fun d hd => h d (List.mem_cons_of_mem _ hd)
    exact ⟨y :: ys, rfl, fun z hz => (List.mem_cons.mp hz).elim (fun e => e ▸ hy) (hys z)⟩
theorem termD_inj {a b : Term} (h : termD a = termD b) : a = b := by
  obtain ⟨x, y⟩ := a
  obtain ⟨z, w⟩ := b
  cases h
  rfl
theorem terms_inj : ∀ {a b : List Term}, a.map termD = b.map termD → a = b
  | [], [], _ => rfl
  | [], _ :: _, h => by cases h
  | _ :: _, [], h => by cases h
  | x :: a, y :: b, h => by
    rw [List.map_cons, List.map_cons] at h
    obtain ⟨h1, h2⟩ := List.cons.inj h
    rw [termD_inj h1, terms_inj h2]
/-- how the constructor ends -/
def fEnd (c : FXs) (rs : List Dat) (m : Dat) (x : Exn → Prop) (ok : List Term → Prop) : Prop :=
  match badT 0 rs with
  | some k => x (termX c.tm k)
  | none => if numD m (-1000000) 1000000 = true then ∀ ts r : List Term, rs = ts.map termD → (∀ t ∈ ts, TermG t) → IsJoin ts r → (r = [] → x (noTX c.no)) ∧ (r ≠ [] → ok r) else x (numX c.nb m)
def factD (C : Addr) (r : List Term) (m : Int) : Dat := .obj C ["own_terms", "own_most"] [.lst (r.map termD), .int m]
def S_finit (C : Addr) (c : FXs) : DSpec := fun ds M q x => ∃ (a : Addr) (m : Dat) (n : String) (rs : List Dat), ds = [.ptr a, m, .tup rs] ∧ tyName m = some n ∧ M a = some (.obj C [] []) ∧ rs.length ≤ 60 ∧ (∀ d ∈ rs, RowT d) ∧
  fEnd c rs m (fun e => ∀ o, x e (updM M a o)) fun r => q .non (updM M a (.obj C ["own_terms", "own_most"] [.lst (r.map termD), m]))
theorem fEnd_bad {c : FXs} {A B : List Dat} {b m : Dat} {x : Exn → Prop} {ok : List Term → Prop} (h : ∀ d ∈ A, isTermB d = true) (hb : isTermB b = false) (k : x (termX c.tm A.length)) : fEnd c (A ++ b :: B) m x ok := by
  unfold fEnd
  rw [badT_at h hb, Nat.zero_add]
  exact k
theorem terms_bad {ts : List Term} (h : ∀ t ∈ ts, TermG t) : badT 0 (ts.map termD) = none := badT_all (fun d hd => by
    obtain ⟨r, hr, rfl⟩ := List.mem_map.mp hd
    exact (h r hr).is) _
theorem fEnd_num {c : FXs} {ts : List Term} {m : Dat} {x : Exn → Prop} {ok : List Term → Prop} (h : ∀ t ∈ ts, TermG t) (hm : numD m (-1000000) 1000000 = false) (k : x (numX c.nb m)) : fEnd c (ts.map termD) m x ok := by
  unfold fEnd
  rw [terms_bad h]
  dsimp only
  rw [if_neg (by rw [hm]; exact Bool.false_ne_true)]
  exact k
theorem fEnd_no {c : FXs} {ts : List Term} {m : Dat} {x : Exn → Prop} {ok : List Term → Prop} (h : ∀ t ∈ ts, TermG t) (hm : numD m (-1000000) 1000000 = true) (hz : ∀ n, sumT ts n = 0) (k : x (noTX c.no)) : fEnd c (ts.map termD) m x ok := by
  unfold fEnd
  rw [terms_bad h]
  dsimp only
  rw [if_pos hm]
  intro ts2 r e _ hj
  rw [← terms_inj e] at hj
  refine ⟨fun _ => k, fun hr => ?_⟩
  exfalso
  cases r with
  | nil => exact hr rfl
  | cons t r =>
    obtain ⟨h1, h2⟩ := hj.val t (List.mem_cons_self ..)
    rw [hz] at h1
    exact h2 h1
theorem fEnd_ok {c : FXs} {ts r : List Term} {m : Int} {x : Exn → Prop} {ok : List Term → Prop} (h : ∀ t ∈ ts, TermG t) (hm : -1000000 ≤ m ∧ m ≤ 1000000) (hj : IsJoin ts r) (hr : r ≠ []) (k : ok r) : fEnd c (ts.map termD) (.int m) x ok := by
  unfold fEnd
  rw [terms_bad h]
  dsimp only
  rw [if_pos (numD_T hm)]
  intro ts2 r2 e _ hj2
  rw [← terms_inj e] at hj2
  rw [← hj.uniq hj2 (fun _ => rfl)]
  exact ⟨fun z => absurd z hr, fun _ => k⟩
/-- a call of the class, whatever comes of it -/
theorem new_fX' {C a : Addr} {c : FXs} {m : Dat} {n : String} {rs : List Dat} {M : Mem} {q : DK} {xq : XQ} (ha : M a = none) (hn : tyName m = some n) (hl : rs.length ≤ 60) (ht : ∀ d ∈ rs, RowT d) (h : fEnd c rs m (fun e => ∀ M', SubM M M' → xq e M') fun r => q (.obj C ["own_terms", "own_most"] [.lst (r.map termD), m]) M) :
    S_finit C c [.ptr a, m, .tup rs] (updM M a (.obj C [] [])) (fun v M2 => v = .non ∧ ∃ ns fs, M2 a = some (.obj C ns fs) ∧ q (.obj C ns fs) (delM M2 a)) xq :=
  ⟨a, m, n, rs, rfl, hn, updM_same, hl, ht, by
    have sub : ∀ o, SubM M (updM (updM M a (.obj C [] [])) a o) := fun o p u hp => by
      have e : p ≠ a := fun z => by rw [z, ha] at hp; cases hp
      rw [updM_ne e, updM_ne e]
      exact hp
    unfold fEnd at h ⊢
    revert h
    cases badT 0 rs with
    | some k => exact fun h o => h _ (sub o)
    | none =>
      dsimp only
      split
      · refine fun h ts r e1 e2 e3 => ?_
        obtain ⟨h1, h2⟩ := h ts r e1 e2 e3
        refine ⟨fun z o => h1 z _ (sub o), fun z => ⟨rfl, _, _, updM_same, ?_⟩⟩
        rw [updM_updM, del_upd ha]
        exact h2 z
      · exact fun h o => h _ (sub o)⟩
theorem new_fX {C : Addr} {c : FXs} {m : Dat} {n : String} {rs : List Dat} {M : Mem} {q : DK} {xq : XQ} (hn : tyName m = some n) (hl : rs.length ≤ 60) (ht : ∀ d ∈ rs, RowT d) (h : fEnd c rs m (fun e => ∀ M', SubM M M' → xq e M') fun r => q (.obj C ["own_terms", "own_most"] [.lst (r.map termD), m]) M) : NewV C (S_finit C c) 0 [] [0, 1] rs [m] M q xq :=
  fun a ha => new_fX' ha hn hl ht h
theorem IsJoin.mem_of {ts r : List Term} (h : IsJoin ts r) {t : Term} (ht : t ∈ r) : t.1 ∈ ts.map (·.1) := Classical.byContradiction fun z => by
  obtain ⟨h1, h2⟩ := h.val t ht
  rw [sumT_no z] at h1
  exact h2 h1
theorem nd_len {α : Type} [DecidableEq α] : ∀ {a b : List α}, a.Nodup → (∀ x ∈ a, x ∈ b) → a.length ≤ b.length
  | [], b, _, _ => Nat.zero_le _
  | x :: a, b, hn, h => by
    have hx := h x (List.mem_cons_self ..)
    rw [List.nodup_cons] at hn
    have ih := nd_len (a := a) (b := b.erase x) hn.2 fun y hy => (List.mem_erase_of_ne (fun e => hn.1 (by rw [← e]; exact hy))).mpr (h y (List.mem_cons_of_mem _ hy))
    have hl := List.length_erase_of_mem hx
    have hp : 0 < b.length := List.length_pos_of_mem hx
    rw [List.length_cons]
    omega
theorem IsJoin.len {ts r : List Term} (h : IsJoin ts r) : r.length ≤ ts.length := by
  have := nd_len (a := r.map (·.1)) (b := ts.map (·.1)) h.nd fun n hn => by
    obtain ⟨t, ht, rfl⟩ := List.mem_map.mp hn
    exact h.mem_of ht
  rw [List.length_map, List.length_map] at this
  exact this
theorem terms_nil : EqT 2 (fun l : List Term => Dat.lst (l.map termD)) (fun l => ∀ t ∈ l, StrG t.1 ∧ True) := EqT.lst (EqT.pair EqT.str EqT.int)
theorem sum_filt {r : List Term} {n : Str} : ((r.filter fun t => decide (t.1 = n)).map (·.2)).sum = sumT r n := by
  induction r with
  | nil => rfl
  | cons t r ih =>
    rw [List.filter_cons, sumT_cons, ← ih]
    by_cases e : t.1 = n
    · rw [if_pos (decide_eq_true e), if_pos e, List.map_cons, List.sum_cons]
    · rw [if_neg (by rw [decide_eq_false e]; exact Bool.false_ne_true), if_neg e, Int.zero_add]
def S_factor (C : Addr) : DSpec := fun ds M q _ => ∃ (r : List Term) (m : Int) (n : Str), ds = [factD C r m, .str n] ∧ r.length ≤ 60 ∧ q (.int (sumT r n)) M
def S_fmost (C : Addr) : DSpec := fun ds M q _ => ∃ (r : List Term) (m : Int), ds = [factD C r m] ∧ q (.int m) M
end DL
open PySem PySem.Spec PyProof.Rows L2 DL
local macro_rules | `(tactic| walk_at "side") => `(tactic| first
  | assumption
  | rfl
  | omega
  | decide)
local macro_rules | `(tactic| walk_at "ib") => `(tactic| first
  | assumption
  | exact IB.small (by omega) (by omega)
  | exact IB.mono (by assumption) (by decide))
local macro_rules | `(tactic| walk_at "mem") => `(tactic| first
  | assumption
  | exact updM_same
  | (refine DL.Same.at (by assumption) (by first | assumption | exact Ne.symm (by assumption)) ?_; walk_at "mem")
  | (rw [updM_ne (by assumption)]; walk_at "mem")
  | (rw [updM_ne (Ne.symm (by assumption))]; walk_at "mem"))
local macro_rules | `(tactic| walk_at "br") => `(tactic| first
  | ((with_reducible refine br_dF ?hp ?_); (case hp => first | assumption | omega | decide | (simp; done)))
  | ((with_reducible refine br_d ?_ ?_) <;> intro _hb)
  | ((with_reducible refine br_b ?_ ?_) <;> intro _hb))
local macro_rules | `(tactic| walk_at "br") => `(tactic| first
  | (with_reducible refine br_t ?_)
  | (with_reducible refine br_f ?_)
  | (with_reducible refine br_bb ?_)
  | (with_reducible refine br_n ?_)
  | ((with_reducible refine br_dT ?hp ?_); (case hp => first | assumption | omega | rfl)))
local macro_rules | `(tactic| walk_at "op") => `(tactic| first
  | ((with_reducible show DOp _ _ (compareOp CmpOp.NotEq) (Dat.lst _) (Dat.lst _) _ _); refine dop_neD (by assumption) ?_))
local macro_rules | `(tactic| walk_at "op") => `(tactic| first
  | ((with_reducible refine dop_cat ?hz ?k); (case hz => walk_at "sz"))
  | ((with_reducible refine dop_catU ?hz ?k); (case hz => walk_at "sz"))
  | ((with_reducible refine dop_rep ?hn ?hz ?k); (case hn => decide); (case hz => walk_at "sz"))
  | ((with_reducible refine dop_pow ?h0 ?k); (case h0 => decide))
  | ((with_reducible show DOp _ _ (compareOp CmpOp.Eq) (Dat.lst _) (Dat.lst _) _ _); refine dop_eqD (by assumption) ?_))
local macro_rules | `(tactic| walk_at "op") => `(tactic| first
  | (with_reducible refine dop_p18 ?_)
  | (with_reducible refine dop_p6 ?_)
  | (with_reducible refine dop_p14 ?_)
  | (with_reducible refine dop_inS ?_)
  | ((with_reducible refine dop_addT ?hz ?k); (case hz => walk_at "sz")))
local macro_rules | `(tactic| walk_at "op") => `(tactic| first
  | (with_reducible refine dop_ntT ?_)
  | (with_reducible refine dop_ntF ?_)
  | (with_reducible refine dop_isB ?_)
  | (with_reducible refine dop_notB ?_)
  | (with_reducible refine dop_p9 ?_))
local macro_rules | `(tactic| walk_at "op") => `(tactic| first
  | ((with_reducible refine dop_mulT ?ok ?k); (case ok => exact mulT_ok (by omega) (by decide) (by decide)))
  | (with_reducible refine dop_isN ?_)
  | (with_reducible refine dop_notN ?_)
  | (with_reducible refine dop_isT ?_)
  | (with_reducible refine dop_isF ?_))
local macro_rules | `(tactic| walk_at "op") => `(tactic| first
  | (with_reducible refine dop_neI ?_)
  | (with_reducible refine dop_eqT ?_)
  | (with_reducible refine dop_neT ?_)
  | (with_reducible refine dop_eqB ?_)
  | (with_reducible refine dop_neB ?_))
local macro_rules | `(tactic| walk_at "op") => `(tactic| first
  | (with_reducible refine dop_lt ?_)
  | (with_reducible refine dop_le ?_)
  | (with_reducible refine dop_gt ?_)
  | (with_reducible refine dop_ge ?_)
  | (with_reducible refine dop_eqI ?_))
local macro_rules | `(tactic| walk_at "op") => `(tactic| first
  | (with_reducible refine dop_add ?_)
  | (with_reducible refine dop_sub ?_)
  | ((with_reducible refine dop_mulx ?ha ?hb ?k); (case ha => walk_at "ib"); (case hb => walk_at "ib"))
  | ((with_reducible refine dop_mod ?h0 ?k); (case h0 => walk_at "side"))
  | ((with_reducible refine dop_fdivx ?h0 ?hb ?k); (case h0 => walk_at "side"); (case hb => walk_at "ib")))
local macro_rules | `(tactic| walk_at "sz") => `(tactic| first
  | exact Nat.le_trans (Nat.add_le_add (by decide : _ ≤ 1000) (by assumption)) (by decide)
  | (simp; done)
  | (simp; omega))
local macro_rules | `(tactic| walk_at "sz") => `(tactic| first
  | assumption
  | omega
  | decide
  | exact Nat.le_of_ble_eq_true rfl
  | exact Nat.le_trans (Nat.add_le_add (by assumption) (by decide : _ ≤ 1000)) (by decide))
local macro_rules | `(tactic| walk_at "cl") => `(tactic| first
  | (with_reducible refine dcl_tupL ?_)
  | (with_reducible refine dcl_tupU ?_)
  | (with_reducible refine dcl_abs ?_)
  | ((with_reducible refine dcl_isiX ?_); walk_at "isi")
  | walk_at "isc")
local macro_rules | `(tactic| walk_at "cl") => `(tactic| first
  | ((with_reducible refine dcl_dictS ?hc ?k); (case hc => rfl))
  | (with_reducible refine dcl_intI ?_)
  | (with_reducible refine dcl_intB ?_)
  | (with_reducible refine dcl_listL ?_)
  | (with_reducible refine dcl_listU ?_))
local macro_rules | `(tactic| walk_at "cl") => `(tactic| first
  | (with_reducible refine dcl_lenL ?_)
  | (with_reducible refine dcl_lenU ?_)
  | ((with_reducible refine dcl_lenC (ds := ?ds) ?hM ?k); (case hM => walk_at "mem"))
  | ((with_reducible refine dcl_lenT ?hz ?k); (case hz => walk_at "sz"))
  | ((with_reducible refine dcl_strIx ?hi ?k); (case hi => walk_at "ib")))
local macro_rules | `(tactic| walk_at "shp1") => `(tactic| first
  | assumption)
local macro_rules | `(tactic| walk_at "shp1") => `(tactic| first
  | exact Shps.nil
  | (refine Shps.cons ?_ ?_)
  | exact Shp.str (by assumption)
  | exact Shp.str (NmL.g (by assumption))
  | exact Shp.strB (by decide +kernel))
local macro_rules | `(tactic| walk_at "shp1") => `(tactic| first
  | exact Shp.int
  | exact Shp.bl
  | exact Shp.non
  | (refine Shp.tup ?_)
  | (refine Shp.lst ?_))
local macro_rules | `(tactic| walk_at "shp") => `(tactic| first
  | ((repeat' walk_at "shp1"); done))
local macro_rules | `(tactic| walk_at "isc") => `(tactic| first
  | ((with_reducible show DCl _ _ _ [Dat.obj _ _ _, Dat.ty "tuple"] _ _); refine dcl_isiO (by exact CT.ok (by assumption)) (by exact CT.cU (by assumption)) ?_)
  | ((with_reducible show DCl _ _ _ [Dat.obj _ _ _, Dat.ptr _] _ _); first | (refine dcl_isiOC (by exact CT.ok (by assumption)) (by exact CT.own (by assumption)) ?_) | (refine dcl_isiOC (by exact CT.ok (by assumption)) (by assumption) ?_)))
local macro_rules | `(tactic| walk_at "isc") => `(tactic| first
  | ((with_reducible show DCl _ _ _ [(Dat.tup _), Dat.ptr _] _ _); refine dcl_isiC rfl (by exact CT.tU (by assumption)) ?_)
  | ((with_reducible show DCl _ _ _ [Dat.obj _ _ _, Dat.ty "int"] _ _); refine dcl_isiO (by exact CT.ok (by assumption)) (by exact CT.cI (by assumption)) ?_)
  | ((with_reducible show DCl _ _ _ [Dat.obj _ _ _, Dat.ty "bool"] _ _); refine dcl_isiO (by exact CT.ok (by assumption)) (by exact CT.cB (by assumption)) ?_)
  | ((with_reducible show DCl _ _ _ [Dat.obj _ _ _, Dat.ty "str"] _ _); refine dcl_isiO (by exact CT.ok (by assumption)) (by exact CT.cS (by assumption)) ?_)
  | ((with_reducible show DCl _ _ _ [Dat.obj _ _ _, Dat.ty "list"] _ _); refine dcl_isiO (by exact CT.ok (by assumption)) (by exact CT.cL (by assumption)) ?_))
local macro_rules | `(tactic| walk_at "isc") => `(tactic| first
  | ((with_reducible show DCl _ _ _ [(Dat.int _), Dat.ptr _] _ _); refine dcl_isiC rfl (by exact CT.tI (by assumption)) ?_)
  | ((with_reducible show DCl _ _ _ [(Dat.bl _), Dat.ptr _] _ _); refine dcl_isiC rfl (by exact CT.tB (by assumption)) ?_)
  | ((with_reducible show DCl _ _ _ [(Dat.str _), Dat.ptr _] _ _); refine dcl_isiC rfl (by exact CT.tS (by assumption)) ?_)
  | ((with_reducible show DCl _ _ _ [Dat.non, Dat.ptr _] _ _); refine dcl_isiC rfl (by exact CT.tN (by assumption)) ?_)
  | ((with_reducible show DCl _ _ _ [(Dat.lst _), Dat.ptr _] _ _); refine dcl_isiC rfl (by exact CT.tL (by assumption)) ?_))
local macro_rules | `(tactic| walk_at "isi") => `(tactic| first
  | ((with_reducible show ∃ _, isiL (Dat.scr _) _ = _ ∧ _); first | (with_reducible refine ⟨_, isi_scr_list_tuple, by decide, ?_⟩) | (with_reducible refine ⟨_, isi_scr_int_str, by decide, ?_⟩) | (with_reducible refine ⟨_, isi_scr_str_int, by decide, ?_⟩) | (with_reducible refine ⟨_, isi_scr_tuple_list, by decide, ?_⟩)))
local macro_rules | `(tactic| walk_at "isi") => `(tactic| first
  | ((with_reducible show ∃ _, isiD (Dat.tup _) _ = _ ∧ _); first | (with_reducible refine ⟨_, isi_tup_int, ?_⟩) | (with_reducible refine ⟨_, isi_tup_str, ?_⟩) | (with_reducible refine ⟨_, isi_tup_bool, ?_⟩) | (with_reducible refine ⟨_, isi_tup_list, ?_⟩) | (with_reducible refine ⟨_, isi_tup_tuple, ?_⟩) | (with_reducible refine ⟨_, isi_tup_dict, ?_⟩))
  | ((with_reducible show ∃ _, isiL (Dat.tup _) _ = _ ∧ _); first | (with_reducible refine ⟨_, isi_tup_list_tuple, by decide, ?_⟩) | (with_reducible refine ⟨_, isi_tup_int_str, by decide, ?_⟩) | (with_reducible refine ⟨_, isi_tup_str_int, by decide, ?_⟩) | (with_reducible refine ⟨_, isi_tup_tuple_list, by decide, ?_⟩))
  | ((with_reducible show ∃ _, isiD (Dat.dct _ _) _ = _ ∧ _); first | (with_reducible refine ⟨_, isi_dct_int, ?_⟩) | (with_reducible refine ⟨_, isi_dct_str, ?_⟩) | (with_reducible refine ⟨_, isi_dct_bool, ?_⟩) | (with_reducible refine ⟨_, isi_dct_list, ?_⟩) | (with_reducible refine ⟨_, isi_dct_tuple, ?_⟩) | (with_reducible refine ⟨_, isi_dct_dict, ?_⟩))
  | ((with_reducible show ∃ _, isiL (Dat.dct _ _) _ = _ ∧ _); first | (with_reducible refine ⟨_, isi_dct_list_tuple, by decide, ?_⟩) | (with_reducible refine ⟨_, isi_dct_int_str, by decide, ?_⟩) | (with_reducible refine ⟨_, isi_dct_str_int, by decide, ?_⟩) | (with_reducible refine ⟨_, isi_dct_tuple_list, by decide, ?_⟩))
  | ((with_reducible show ∃ _, isiD (Dat.scr _) _ = _ ∧ _); first | (with_reducible refine ⟨_, isi_scr_int, ?_⟩) | (with_reducible refine ⟨_, isi_scr_str, ?_⟩) | (with_reducible refine ⟨_, isi_scr_bool, ?_⟩) | (with_reducible refine ⟨_, isi_scr_list, ?_⟩) | (with_reducible refine ⟨_, isi_scr_tuple, ?_⟩) | (with_reducible refine ⟨_, isi_scr_dict, ?_⟩)))
local macro_rules | `(tactic| walk_at "isi") => `(tactic| first
  | ((with_reducible show ∃ _, isiL (Dat.int _) _ = _ ∧ _); first | (with_reducible refine ⟨_, isi_int_list_tuple, by decide, ?_⟩) | (with_reducible refine ⟨_, isi_int_int_str, by decide, ?_⟩) | (with_reducible refine ⟨_, isi_int_str_int, by decide, ?_⟩) | (with_reducible refine ⟨_, isi_int_tuple_list, by decide, ?_⟩))
  | ((with_reducible show ∃ _, isiD (Dat.str _) _ = _ ∧ _); first | (with_reducible refine ⟨_, isi_str_int, ?_⟩) | (with_reducible refine ⟨_, isi_str_str, ?_⟩) | (with_reducible refine ⟨_, isi_str_bool, ?_⟩) | (with_reducible refine ⟨_, isi_str_list, ?_⟩) | (with_reducible refine ⟨_, isi_str_tuple, ?_⟩) | (with_reducible refine ⟨_, isi_str_dict, ?_⟩))
  | ((with_reducible show ∃ _, isiL (Dat.str _) _ = _ ∧ _); first | (with_reducible refine ⟨_, isi_str_list_tuple, by decide, ?_⟩) | (with_reducible refine ⟨_, isi_str_int_str, by decide, ?_⟩) | (with_reducible refine ⟨_, isi_str_str_int, by decide, ?_⟩) | (with_reducible refine ⟨_, isi_str_tuple_list, by decide, ?_⟩))
  | ((with_reducible show ∃ _, isiD (Dat.lst _) _ = _ ∧ _); first | (with_reducible refine ⟨_, isi_lst_int, ?_⟩) | (with_reducible refine ⟨_, isi_lst_str, ?_⟩) | (with_reducible refine ⟨_, isi_lst_bool, ?_⟩) | (with_reducible refine ⟨_, isi_lst_list, ?_⟩) | (with_reducible refine ⟨_, isi_lst_tuple, ?_⟩) | (with_reducible refine ⟨_, isi_lst_dict, ?_⟩))
  | ((with_reducible show ∃ _, isiL (Dat.lst _) _ = _ ∧ _); first | (with_reducible refine ⟨_, isi_lst_list_tuple, by decide, ?_⟩) | (with_reducible refine ⟨_, isi_lst_int_str, by decide, ?_⟩) | (with_reducible refine ⟨_, isi_lst_str_int, by decide, ?_⟩) | (with_reducible refine ⟨_, isi_lst_tuple_list, by decide, ?_⟩)))
local macro_rules | `(tactic| walk_at "isi") => `(tactic| first
  | ((with_reducible show ∃ _, isiD Dat.non _ = _ ∧ _); first | (with_reducible refine ⟨_, isi_non_int, ?_⟩) | (with_reducible refine ⟨_, isi_non_str, ?_⟩) | (with_reducible refine ⟨_, isi_non_bool, ?_⟩) | (with_reducible refine ⟨_, isi_non_list, ?_⟩) | (with_reducible refine ⟨_, isi_non_tuple, ?_⟩) | (with_reducible refine ⟨_, isi_non_dict, ?_⟩))
  | ((with_reducible show ∃ _, isiL Dat.non _ = _ ∧ _); first | (with_reducible refine ⟨_, isi_non_list_tuple, by decide, ?_⟩) | (with_reducible refine ⟨_, isi_non_int_str, by decide, ?_⟩) | (with_reducible refine ⟨_, isi_non_str_int, by decide, ?_⟩) | (with_reducible refine ⟨_, isi_non_tuple_list, by decide, ?_⟩))
  | ((with_reducible show ∃ _, isiD (Dat.bl _) _ = _ ∧ _); first | (with_reducible refine ⟨_, isi_bl_int, ?_⟩) | (with_reducible refine ⟨_, isi_bl_str, ?_⟩) | (with_reducible refine ⟨_, isi_bl_bool, ?_⟩) | (with_reducible refine ⟨_, isi_bl_list, ?_⟩) | (with_reducible refine ⟨_, isi_bl_tuple, ?_⟩) | (with_reducible refine ⟨_, isi_bl_dict, ?_⟩))
  | ((with_reducible show ∃ _, isiL (Dat.bl _) _ = _ ∧ _); first | (with_reducible refine ⟨_, isi_bl_list_tuple, by decide, ?_⟩) | (with_reducible refine ⟨_, isi_bl_int_str, by decide, ?_⟩) | (with_reducible refine ⟨_, isi_bl_str_int, by decide, ?_⟩) | (with_reducible refine ⟨_, isi_bl_tuple_list, by decide, ?_⟩))
  | ((with_reducible show ∃ _, isiD (Dat.int _) _ = _ ∧ _); first | (with_reducible refine ⟨_, isi_int_int, ?_⟩) | (with_reducible refine ⟨_, isi_int_str, ?_⟩) | (with_reducible refine ⟨_, isi_int_bool, ?_⟩) | (with_reducible refine ⟨_, isi_int_list, ?_⟩) | (with_reducible refine ⟨_, isi_int_tuple, ?_⟩) | (with_reducible refine ⟨_, isi_int_dict, ?_⟩)))
local macro_rules | `(tactic| walk_at "isn") => `(tactic| first
  | refine ⟨["list", "tuple"], rfl, ?_⟩
  | refine ⟨["tuple", "list"], rfl, ?_⟩
  | refine ⟨["int", "str"], rfl, ?_⟩
  | refine ⟨["str", "int"], rfl, ?_⟩)
local macro_rules | `(tactic| walk_at "ix") => `(tactic| first
  | ((with_reducible refine dix_cell (ds := ?ds) (d := ?d) ?hM ?hd ?k); (case hM => walk_at "mem"); (case hd => rfl))
  | ((with_reducible refine dix_lst (d := ?d) ?hd ?k); (case hd => rfl))
  | ((with_reducible refine dix_tup (d := ?d) ?hd ?k); (case hd => rfl)))
local macro_rules | `(tactic| walk_at "sl") => `(tactic| first
  | (with_reducible refine dsl_lst ?_)
  | (with_reducible refine dsl_scr ?_)
  | (with_reducible refine dsl_tup ?_)
  | ((with_reducible refine dsl_cell (ds := ?ds) ?hM ?k); (case hM => walk_at "mem"))
  | ((with_reducible refine dsl_str ?hz ?k); (case hz => walk_at "sz")))
local macro_rules | `(tactic| walk_at "bln") => `(tactic| first
  | ((with_reducible show DE _ _ (Expr.Call (Expr.Name "list" _) _ _ _) _ _ _); refine de_callTy (x := "list") rfl (by assumption) b_list ?_)
  | ((with_reducible show DE _ _ (Expr.Call (Expr.Name "tuple" _) _ _ _) _ _ _); refine de_callTy (x := "tuple") rfl (by assumption) b_tuple ?_)
  | ((with_reducible show DE _ _ (Expr.Call (Expr.Name "bool" _) _ _ _) _ _ _); refine de_callTy (x := "bool") rfl (by assumption) b_bool ?_)
  | ((with_reducible show DE _ _ (Expr.Call (Expr.Name "dict" _) _ _ _) _ _ _); refine de_callTy (x := "dict") rfl (by assumption) b_dict ?_))
local macro_rules | `(tactic| walk_at "bln") => `(tactic| first
  | ((with_reducible show DE _ _ (Expr.Call (Expr.Name "isinstance" _) _ _ _) _ _ _); first | refine de_isiX rfl (by assumption) ?_ | refine de_callB (x := "isinstance") rfl (by assumption) b_isinstance ?_)
  | ((with_reducible show DE _ _ (Expr.Call (Expr.Name "sorted" _) _ _ _) _ _ _); refine de_callB (x := "sorted") rfl (by assumption) b_sorted ?_)
  | ((with_reducible show DE _ _ (Expr.Call (Expr.Name "repr" _) _ _ _) _ _ _); refine de_callB (x := "repr") rfl (by assumption) b_repr ?_)
  | ((with_reducible show DE _ _ (Expr.Call (Expr.Name "int" _) _ _ _) _ _ _); refine de_callTy (x := "int") rfl (by assumption) b_int ?_)
  | ((with_reducible show DE _ _ (Expr.Call (Expr.Name "str" _) _ _ _) _ _ _); refine de_callTy (x := "str") rfl (by assumption) b_str ?_))
local macro_rules | `(tactic| walk_at "bln") => `(tactic| first
  | ((with_reducible show DE _ _ (Expr.Call (Expr.Name "len" _) _ _ _) _ _ _); refine de_callB (x := "len") rfl (by assumption) b_len ?_)
  | ((with_reducible show DE _ _ (Expr.Call (Expr.Name "abs" _) _ _ _) _ _ _); refine de_callB (x := "abs") rfl (by assumption) b_abs ?_)
  | ((with_reducible show DE _ _ (Expr.Call (Expr.Name "all" _) _ _ _) _ _ _); refine de_callB (x := "all") rfl (by assumption) b_all ?_)
  | ((with_reducible show DE _ _ (Expr.Call (Expr.Name "any" _) _ _ _) _ _ _); refine de_callB (x := "any") rfl (by assumption) b_any ?_)
  | ((with_reducible show DE _ _ (Expr.Call (Expr.Name "sum" _) _ _ _) _ _ _); refine de_callB (x := "sum") rfl (by assumption) b_sum ?_))
local macro_rules | `(tactic| walk_at "e") => `(tactic| first
  | ((with_reducible show DE _ _ (Expr.JoinedStr [_] _) _ _ _); refine de_js1 ?_)
  | ((with_reducible show DE _ _ (Expr.FormattedValue _ _ _ _) _ _ _); refine de_fmt ?_)
  | ((with_reducible show DE _ _ (Expr.Dict [] [] _) _ _ _); (refine de_dnew ?_; intro _p _hp))
  | ((with_reducible show DE _ _ (Expr.Attribute _ _ _) _ _ _); refine de_at ?_))
local macro_rules | `(tactic| walk_at "e") => `(tactic| first
  | ((with_reducible show DE _ _ (Expr.Call (Expr.Name _ _) _ _ _) _ _ _); first | walk_at "call" | walk_at "bln")
  | ((with_reducible show DE _ _ (Expr.Call (Expr.Attribute _ _ _) _ _ _) _ _ _); first | walk_at "mcall" | walk_at "meth")
  | ((with_reducible show DE _ _ (Expr.ListComp _ _ _ _) _ _ _); walk_at "comp")
  | ((with_reducible show DE _ _ (Expr.DictComp _ _ _ _ _) _ _ _); walk_at "comp")
  | ((with_reducible show DE _ _ (Expr.JoinedStr (_ :: _ :: _) _) _ _ _); refine de_js ?_))
local macro_rules | `(tactic| walk_at "e") => `(tactic| first
  | (with_reducible refine de_not ?_)
  | (with_reducible refine de_un ?_)
  | (with_reducible refine de_and ?_)
  | (with_reducible refine de_or ?_)
  | (with_reducible refine de_and1 ?_))
local macro_rules | `(tactic| walk_at "e") => `(tactic| first
  | ((with_reducible refine de_ix ?k ?p); (case p => exact fun _ _ => rfl))
  | ((with_reducible refine de_chain ?k ?m); (case m => with_unfolding_all rfl))
  | (with_reducible refine de_tup ?_)
  | ((with_reducible show DE _ _ (Expr.List _ _) _ _ _); first | walk_at "cell" | refine de_lst ?_)
  | (with_reducible refine de_if ?_))
local macro_rules | `(tactic| walk_at "e") => `(tactic| first
  | (with_reducible refine de_op ?_)
  | ((with_reducible refine de_cmp ?k ?m); (case m => first | rfl | exact nomark _))
  | walk_at "dix"
  | (with_reducible refine de_rev ?_)
  | (with_reducible refine de_sl ?_))
local macro_rules | `(tactic| walk_at "e") => `(tactic| first
  | (with_reducible refine de_int ?_)
  | (with_reducible refine de_str ?_)
  | (with_reducible refine de_bl ?_)
  | (with_reducible refine de_non ?_)
  | ((with_reducible show DE _ _ (Expr.Name _ _) _ _ _); first | walk_at "var" | walk_at "glob" | ((with_reducible show DE _ _ (Expr.Name "int" _) _ _ _); refine de_bltn rfl (by assumption) b_int ?_) | ((with_reducible show DE _ _ (Expr.Name "str" _) _ _ _); refine de_bltn rfl (by assumption) b_str ?_) | ((with_reducible show DE _ _ (Expr.Name "bool" _) _ _ _); refine de_bltn rfl (by assumption) b_bool ?_) | ((with_reducible show DE _ _ (Expr.Name "list" _) _ _ _); refine de_bltn rfl (by assumption) b_list ?_) | ((with_reducible show DE _ _ (Expr.Name "tuple" _) _ _ _); refine de_bltn rfl (by assumption) b_tuple ?_) | ((with_reducible show DE _ _ (Expr.Name "dict" _) _ _ _); refine de_bltn rfl (by assumption) b_dict ?_)))
local macro_rules | `(tactic| walk_at "mcall") => `(tactic| first
  | fail)
local macro_rules | `(tactic| walk_at "dmc") => `(tactic| first
  | fail)
local macro_rules | `(tactic| walk_at "own") => `(tactic| first
  | fail)
local macro_rules | `(tactic| walk_at "comp") => `(tactic| first
  | fail)
local macro_rules | `(tactic| walk_at "setc") => `(tactic| first
  | fail)
local macro_rules | `(tactic| walk_at "tgtc") => `(tactic| first
  | fail)
local macro_rules | `(tactic| walk_at "attr") => `(tactic| first
  | fail)
local macro_rules | `(tactic| walk_at "dat0") => `(tactic| first
  | refine DAt.fld (by first | exact Or.inl rfl | exact Or.inr ⟨_, rfl, by walk_at "mem"⟩) (by assumption) (by assumption) rfl ?_)
local macro_rules | `(tactic| walk_at "slen") => `(tactic| first
  | (rw [strLen_append, strLen_append, strLen_append, strLen_append]; omega))
local macro_rules | `(tactic| walk_at "slen") => `(tactic| first
  | assumption
  | omega
  | (rw [strLen_append]; omega)
  | (rw [strLen_append, strLen_append]; omega)
  | (rw [strLen_append, strLen_append, strLen_append]; omega))
local macro_rules | `(tactic| walk_at "dat") => `(tactic| first
  | fail)
local macro_rules | `(tactic| walk_at "dix") => `(tactic| first
  | fail)
local macro_rules | `(tactic| walk_at "dput") => `(tactic| first
  | fail)
local macro_rules | `(tactic| walk_at "meth") => `(tactic| first
  | ((with_reducible show DE _ _ (Expr.Call (Expr.Attribute _ "lstrip" _) _ _ _) _ _ _); refine de_mt F.plainAttrs_str F.slot_str_lstrip F.type_str_lstrip ?_))
local macro_rules | `(tactic| walk_at "meth") => `(tactic| first
  | ((with_reducible show DE _ _ (Expr.Call (Expr.Attribute _ "index" _) _ _ _) _ _ _); refine de_mt F.plainAttrs_list F.slot_list_index F.type_list_index ?_)
  | ((with_reducible show DE _ _ (Expr.Call (Expr.Attribute _ "join" _) _ _ _) _ _ _); refine de_mt F.plainAttrs_str F.slot_str_join F.type_str_join ?_)
  | ((with_reducible show DE _ _ (Expr.Call (Expr.Attribute _ "startswith" _) _ _ _) _ _ _); refine de_mt F.plainAttrs_str F.slot_str_startswith F.type_str_startswith ?_)
  | ((with_reducible show DE _ _ (Expr.Call (Expr.Attribute _ "split" _) _ _ _) _ _ _); refine de_mt F.plainAttrs_str F.slot_str_split F.type_str_split ?_)
  | ((with_reducible show DE _ _ (Expr.Call (Expr.Attribute _ "partition" _) _ _ _) _ _ _); refine de_mt F.plainAttrs_str F.slot_str_partition F.type_str_partition ?_))
local macro_rules | `(tactic| walk_at "meth") => `(tactic| first
  | ((with_reducible show DE _ _ (Expr.Call (Expr.Attribute _ "get" _) [_, _] [] _) _ _ _); refine de_dget2 (by assumption) ?_ ⟨rfl, rfl, rfl, rfl⟩)
  | ((with_reducible show DE _ _ (Expr.Call (Expr.Attribute _ "append" _) _ _ _) _ _ _); refine de_mt F.plainAttrs_list F.slot_list_append F.type_list_append ?_)
  | ((with_reducible show DE _ _ (Expr.Call (Expr.Attribute _ "extend" _) _ _ _) _ _ _); refine de_mt F.plainAttrs_list F.slot_list_extend F.type_list_extend ?_)
  | ((with_reducible show DE _ _ (Expr.Call (Expr.Attribute _ "insert" _) _ _ _) _ _ _); refine de_mt F.plainAttrs_list F.slot_list_insert F.type_list_insert ?_)
  | ((with_reducible show DE _ _ (Expr.Call (Expr.Attribute _ "clear" _) _ _ _) _ _ _); refine de_mt0 F.plainAttrs_list F.slot_list_clear F.type_list_clear ?_))
local macro_rules | `(tactic| walk_at "dmt") => `(tactic| first
  | (with_reducible refine dmt_startswith ?k)
  | ((with_reducible refine dmt_split ?hb ?ha ?k); (case hb => rfl); (case ha => walk_at "sz"))
  | ((with_reducible refine dmt_partition ?hb ?ha ?k); (case hb => rfl); (case ha => walk_at "sz"))
  | ((with_reducible refine dmt_lstripC ?ha ?k); (case ha => walk_at "sz")))
local macro_rules | `(tactic| walk_at "dmt") => `(tactic| first
  | ((with_reducible refine dmt_append (ds := ?ds) ?hM ?hz ?k); (case hM => walk_at "mem"); (case hz => walk_at "sz"))
  | ((with_reducible refine dmt_extend (ds := ?ds) ?hM ?hz ?k); (case hM => walk_at "mem"); (case hz => walk_at "sz"))
  | ((with_reducible refine dmt_insert (ds := ?ds) ?hM ?hz ?hi ?k); (case hM => walk_at "mem"); (case hz => walk_at "sz"); (case hi => omega))
  | ((with_reducible refine dmt_clear (ds := ?ds) ?hM ?k); (case hM => walk_at "mem"))
  | ((with_reducible refine dmt_join ?hz ?k); (case hz => walk_at "sz")))
local macro_rules | `(tactic| walk_at "glob") => `(tactic| first
  | fail)
local macro_rules | `(tactic| walk_at "cell") => `(tactic| first
  | fail)
local macro_rules | `(tactic| walk_at "call") => `(tactic| first
  | fail)
local macro_rules | `(tactic| walk_at "same") => `(tactic| first
  | assumption
  | exact DL.Same.refl _ _
  | (refine DL.Same.upd ?_; walk_at "same")
  | (refine DL.Same.trans ?_ (by assumption); walk_at "same"))
local macro_rules | `(tactic| walk_at "take") => `(tactic| first
  | (refine ⟨_, _, _, rfl, by assumption, by omega, by omega, by omega, ?_⟩; intro _dv _Mv _h0 _h1 _hB _hS))
local macro_rules | `(tactic| walk_at "of") => `(tactic| first
  | (refine ⟨_, _, _, rfl, by assumption, by omega, (by intro _z; cases _z), Nat.le_of_ble_eq_true rfl, ?_⟩; intro _dv _Mv _hd _hB _hS))
local macro_rules | `(tactic| walk_at "bag") => `(tactic| first
  | (refine ⟨_, rfl, by assumption, by assumption, ?_⟩; intro _p _Mv _hp _hB _hS))
local macro_rules | `(tactic| walk_at "names") => `(tactic| first
  | (refine ⟨_, 9, _, rfl, by assumption, by omega, by decide, ?_⟩; intro _xs _Mv _hl _hnd _hnm _hB _hS)
  | (refine ⟨_, 1, _, rfl, by assumption, by omega, by decide, ?_⟩; intro _xs _Mv _hl _hnd _hnm _hB _hS)
  | (refine ⟨_, _, _, rfl, by assumption, by omega, by omega, ?_⟩; intro _xs _Mv _hl _hnd _hnm _hB _hS))
local macro_rules | `(tactic| walk_at "spec") => `(tactic| first
  | fail)
local macro_rules | `(tactic| walk_at "sp") => `(tactic| first
  | ((with_reducible show S_take _ _ _ _); walk_at "take"))
local macro_rules | `(tactic| walk_at "t") => `(tactic| first
  | ((with_reducible refine dt_val ?k ?h); (case h => intro _; rfl)))
local macro_rules | `(tactic| walk_at "t") => `(tactic| first
  | (with_reducible refine dt_not ?_)
  | ((with_reducible refine dt_cmp ?k ?m); (case m => first | rfl | exact nomark _))
  | (with_reducible refine dt_w (dw_and ?_))
  | (with_reducible refine dt_w (dw_or ?_))
  | ((with_reducible refine dt_chain ?k ?m); (case m => with_unfolding_all rfl)))
local macro_rules | `(tactic| walk_at "w") => `(tactic| first
  | (with_reducible refine dw_and ?_)
  | (with_reducible refine dw_or ?_)
  | (with_reducible refine dw_and1 ?_)
  | (with_reducible refine dw_or1 ?_))
local macro_rules | `(tactic| walk_at "s") => `(tactic| first
  | (with_reducible refine ds_continue ?_)
  | (with_reducible refine ds_retN ?_))
local macro_rules | `(tactic| walk_at "s") => `(tactic| first
  | ((with_reducible show DS _ _ (Stmt.Assign [Expr.Subscript _ _ _] _ _) _ _ _); first | walk_at "dput" | refine ds_asg ?_)
  | ((with_reducible show DS _ _ (Stmt.Assign [Expr.Attribute _ _ _] _ _) _ _ _); refine ds_fld ?_)
  | ((with_reducible show DS _ _ (Stmt.Expr _ _) _ _ _); refine ds_expr ?_)
  | (with_reducible refine ds_pass ?_)
  | (with_reducible refine ds_break ?_))
local macro_rules | `(tactic| walk_at "s") => `(tactic| first
  | (with_reducible refine ds_ret ?_)
  | (with_reducible refine ds_if ?_)
  | ((with_reducible show DS _ _ (Stmt.Assign [Expr.Name _ _] _ _) _ _ _); first | walk_at "setc" | walk_at "set")
  | ((with_reducible show DS _ _ (Stmt.Assign [Expr.Tuple _ _ _] (Expr.Tuple _ _ _) _) _ _ _); walk_at "par")
  | ((with_reducible show DS _ _ (Stmt.Assign [Expr.Tuple _ _ _] _ _) _ _ _); refine ds_asg ?_))
local macro_rules | `(tactic| walk_at "one") => `(tactic| first
  | walk_at "spec")
local macro_rules | `(tactic| walk_at "one") => `(tactic| first
  | ((with_reducible show ∃ _, _ = _ ∧ _); refine ⟨_, rfl, ?_⟩)
  | ((with_reducible show List.length _ = List.length _ ∧ _); refine And.intro rfl ?_)
  | ((with_reducible show Dat.ptr _ = Dat.ptr _ ∧ _); refine ⟨rfl, ?_⟩)
  | ((with_reducible show _ ≤ List.length _ ∧ List.length _ ≤ _ ∧ List.length _ = _ ∧ _); first | refine ⟨Nat.le_of_ble_eq_true rfl, Nat.le_of_ble_eq_true rfl, rfl, ?_⟩ | refine ⟨by walk_at "sz", by walk_at "sz", rfl, ?_⟩)
  | ((with_reducible show _ ≤ List.length _ ∧ List.length _ ≤ _ ∧ _); first | refine ⟨Nat.le_of_ble_eq_true rfl, Nat.le_of_ble_eq_true rfl, ?_⟩ | refine ⟨by walk_at "sz", by walk_at "sz", ?_⟩))
local macro_rules | `(tactic| walk_at "one") => `(tactic| first
  | ((with_reducible show ∃ _ _, [_, _] = [_, _] ∧ _); refine ⟨_, _, rfl, ?_⟩)
  | ((with_reducible show ∃ _ _ _, [_, _, _] = [_, _, _] ∧ _); refine ⟨_, _, _, rfl, ?_⟩)
  | ((with_reducible show ∀ _ : Addr, _ = none → _); intro _p _hp)
  | ((with_reducible show ∃ _ _, _ = sqD _ _ ∧ _); first | refine ⟨_, _, rfl, ?_⟩ | refine ⟨true, _, rfl, ?_⟩ | refine ⟨false, _, rfl, ?_⟩)
  | ((with_reducible show ∃ _ _ _ _, [_, _] = [sqD _ _, sqD _ _] ∧ _); first | refine ⟨_, _, _, _, rfl, ?_⟩ | refine ⟨true, _, _, _, rfl, ?_⟩ | refine ⟨true, true, _, _, rfl, ?_⟩ | refine ⟨true, false, _, _, rfl, ?_⟩ | refine ⟨false, true, _, _, rfl, ?_⟩ | refine ⟨false, false, _, _, rfl, ?_⟩))
local macro_rules | `(tactic| walk_at "one") => `(tactic| first
  | ((with_reducible show ∃ _, isiD _ _ = _ ∧ _); walk_at "isi")
  | ((with_reducible show ∃ _ _ _ _, _ = Dat.ptr _ ∧ _ = some (MO.obj _ _ _) ∧ _); refine ⟨_, _, _, _, rfl, by walk_at "mem", by assumption, by assumption, Nat.le_of_ble_eq_true rfl, ?_⟩)
  | ((with_reducible show ∃ _ _ _, Ins _ _ _ _ _ ∧ _); first | refine ⟨_, _, _, Or.inl rfl, by assumption, by assumption, _, rfl, ?_⟩ | refine ⟨_, _, _, Or.inr ⟨_, rfl, by walk_at "mem"⟩, by assumption, by assumption, _, rfl, ?_⟩)
  | ((with_reducible show ∃ _, isiL _ _ = _ ∧ _); walk_at "isi")
  | ((with_reducible show ∃ _, _ = List.map Dat.ty _ ∧ _); walk_at "isn"))
local macro_rules | `(tactic| walk_at "one") => `(tactic| first
  | ((with_reducible show ∃ _ _ _, DctAt _ _ _ _ ∧ _); first | refine ⟨_, _, _, Or.inl rfl, keyD_s, ?_⟩ | refine ⟨_, _, _, Or.inl rfl, keyD_i, ?_⟩ | refine ⟨_, _, _, Or.inr ⟨_, rfl, by walk_at "mem"⟩, keyD_s, ?_⟩ | refine ⟨_, _, _, Or.inr ⟨_, rfl, by walk_at "mem"⟩, keyD_i, ?_⟩)
  | ((with_reducible show DMC0 _ _ _ _ _ _ _ _); walk_at "dmc")
  | ((with_reducible show TyD _ _ _ _ ∧ _); refine And.intro (by first | exact rfl | exact Or.inl ⟨_, by walk_at "mem", rfl⟩) ?_)
  | ((with_reducible show List.length _ ≤ _ ∧ _); refine And.intro (by walk_at "sz") ?_)
  | ((with_reducible refine ⟨_, ?ds, _, ?j, rfl, rfl, ?hM, ?hj, ?_⟩); (case hM => walk_at "mem"); (case hj => rfl)))
local macro_rules | `(tactic| walk_at "one") => `(tactic| first
  | ((with_reducible show DAt _ _ _ _ _); first | walk_at "dat0" | walk_at "dat")
  | ((with_reducible show DJ _ _ _ _ _ _ _); first | (with_reducible refine dj_cons ?_) | (with_reducible refine dj_nil ?_))
  | ((with_reducible show _ ∨ ∃ _, _ = Dat.int _ ∧ IB _ _ ∧ _); first | refine Or.inl ⟨_, rfl, by walk_at "slen", ?_⟩ | refine Or.inr ⟨_, rfl, by walk_at "ib", ?_⟩)
  | ((with_reducible show ∃ _, starD _ _ _ ∧ _); first | refine ⟨_, Or.inl rfl, ?_⟩ | refine ⟨_, Or.inr (Or.inl rfl), ?_⟩ | refine ⟨_, Or.inr (Or.inr ⟨_, rfl, by walk_at "mem"⟩), ?_⟩)
  | ((with_reducible show Str.length _ ≤ _ ∧ _); refine And.intro (by walk_at "slen") ?_))
local macro_rules | `(tactic| walk_at "one") => `(tactic| first
  | ((with_reducible show S_of _ _ _ _); walk_at "of")
  | ((with_reducible show S_bag _ _ _ _); walk_at "bag")
  | ((with_reducible show S_names _ _ _ _); walk_at "names")
  | ((with_reducible show DMt _ _ _ _ _ _ _); walk_at "dmt")
  | ((with_reducible show DMC _ _ _ _ _ _ _ _ _); walk_at "dmc"))
local macro_rules | `(tactic| walk_at "one") => `(tactic| first
  | ((with_reducible show DO _ _ _ _ _ _); first | (with_reducible refine do_some ?_) | (with_reducible refine do_none ?_))
  | ((with_reducible show DSl _ _ _ _ _ _ _); walk_at "sl")
  | ((with_reducible show DUn _ _ _ _ _ _); first | (with_reducible refine dun_neg ?_) | walk_at "own")
  | ((with_reducible show DKw _ _ _ _ _ _); first | (with_reducible refine dk_cons ?_) | (with_reducible refine dk_nil ?_))
  | ((with_reducible show S_take _ _ _ _); walk_at "take"))
local macro_rules | `(tactic| walk_at "one") => `(tactic| first
  | ((with_reducible show ∃ _ _ _, _ = Dat.dcf _ _ ∧ _); first | refine ⟨_, _, _, rfl, keyD_s, ?_⟩ | refine ⟨_, _, _, rfl, keyD_i, ?_⟩)
  | ((with_reducible show DSs _ _ _ _ _ _); (try (set_option simprocs false in dsimp only [List.set])); (first | (with_reducible refine dss_cons ?_) | (with_reducible refine dss_nil ?_)))
  | ((with_reducible show DG _ _ _ _ _ _ _ _); first | walk_at "tgtc" | walk_at "tgt" | ((with_reducible show DG _ _ _ (Expr.Tuple _ _ _) (Dat.tup _) _ _ _); refine dg_tup rfl rfl ?_) | ((with_reducible show DG _ _ _ (Expr.Tuple _ _ _) (Dat.lst _) _ _ _); refine dg_lst rfl rfl ?_) | ((with_reducible show DG _ _ _ (Expr.Subscript _ _ _) _ _ _ _); refine dg_sub ?_))
  | ((with_reducible show DGs _ _ _ _ _ _ _ _); first | (with_reducible refine dgs_nil ?_) | refine dgs_cons ?_)
  | ((with_reducible show DW _ _ _ _ _ _); walk_at "w"))
local macro_rules | `(tactic| walk_at "one") => `(tactic| first
  | ((with_reducible show DIx _ _ _ _ _ _); walk_at "ix")
  | ((with_reducible show (_ = true → _) ∧ (_ = false → _)); walk_at "br")
  | ((with_reducible show DS _ _ _ _ _ _); walk_at "s")
  | ((with_reducible show DGt1 _ _ _ _ _ _ _ _); refine ⟨_, _, _, rfl, by walk_at "mem", ?_⟩)
  | ((with_reducible show DGt2 _ _ _ _ _); first | refine ⟨_, _, _, by walk_at "mem", keyD_s, ?_⟩ | refine ⟨_, _, _, by walk_at "mem", keyD_i, ?_⟩))
local macro_rules | `(tactic| walk_at "one") => `(tactic| first
  | ((with_reducible show DE _ _ _ _ _ _); walk_at "e")
  | ((with_reducible show DT _ _ _ _ _ _); walk_at "t")
  | ((with_reducible show DOp _ _ _ _ _ _ _); first | walk_at "op" | walk_at "own")
  | ((with_reducible show DA _ _ _ _ _ _); first | (with_reducible refine da_nil ?_) | ((with_reducible show DA _ _ (Expr.Starred _ _ :: _) _ _ _); refine da_star ?_) | (refine da_cons ?_))
  | ((with_reducible show DCl _ _ _ _ _ _); first | walk_at "cl" | walk_at "own"))
namespace K22
def inS (s : Stmt) (j : Nat) : Stmt := match s with
  | .ClassDef _ _ _ b _ _ _ _ _ _ _ => b.getD j (.Pass ⟨0, 0, 0, 0⟩)
  | _ => .Pass ⟨0, 0, 0, 0⟩
def topS (i : Nat) : Stmt := PySem.Challenge.pw_waitshares_k22_facts_refused.main.body.getD i (.Pass ⟨0, 0, 0, 0⟩)
local macro_rules | `(tactic| walk_at "spec") => `(tactic| first
  | ((with_reducible show DOp _ _ (compareOp CmpOp.NotEq) (Dat.tup _) (Dat.tup _) _ _); refine dop_neD (by assumption) ?_)
  | ((with_reducible show DOp _ _ (compareOp CmpOp.Eq) (Dat.tup _) (Dat.tup _) _ _); refine dop_eqD (by assumption) ?_)
  | ((with_reducible show EqD _ _ _); refine EqD.shp (by walk_at "shp") ?_))
local macro_rules | `(tactic| walk_at "own") => `(tactic| walk_at "spec")
abbrev s__law_bag : Stmt := topS 32
abbrev s__law_take : Stmt := topS 33
abbrev s__law_of : Stmt := topS 34
abbrev s__law_names : Stmt := topS 38
abbrev s__law_fields : Stmt := topS 35
abbrev s__law_why : Stmt := topS 36
abbrev s__law_whys : Stmt := topS 37
abbrev s_added_terms : Stmt := topS 24
abbrev s_is_number : Stmt := topS 13
abbrev s_is_name : Stmt := topS 12
abbrev s_is_term : Stmt := topS 23
abbrev s_Fact___init__ : Stmt := inS (topS 30) 0
abbrev s_Fact_factor : Stmt := inS (topS 30) 7
abbrev s_Fact_most : Stmt := inS (topS 30) 5
abbrev s_law : Stmt := topS 39
abbrev s_InvalidNumber___init__ : Stmt := inS (topS 7) 0
abbrev s_NoTerms___init__ : Stmt := inS (topS 5) 0
abbrev s_InvalidTerm___init__ : Stmt := inS (topS 6) 0
abbrev P0 : Program := PySem.Challenge.rw_waitshares_k22_facts_refused.prog
def facts0 (K : PySem.W.Frag) : List Bool := [
  (He.Fa.free "list").ok K,
  (He.Fa.free "int").ok K,
  (He.Fa.free "len").ok K,
  (He.Fa.free "range").ok K,
  (He.Fa.free "sorted").ok K,
  (He.Fa.free "isinstance").ok K,
  (He.Fa.free "bool").ok K,
  (He.Fa.free "all").ok K,
  (He.Fa.free "str").ok K,
  (He.Fa.free "tuple").ok K,
  (He.Fa.free "enumerate").ok K,
  (He.Fa.free "sum").ok K,
  (He.Fa.free "property").ok K,
  (He.Fa.free "super").ok K,
  (He.Fa.glo "ShareError").ok K,
  (He.Fa.glo "Missing").ok K,
  (He.Fa.glo "NothingLeft").ok K,
  (He.Fa.int "MOST_LETTERS" 8).ok K,
  (He.Fa.str "LETTERS" "abcdefghijklmnopqrstuvwxyz").ok K,
  (He.Fa.int "MOST_FACTOR" 1000).ok K,
  (He.Fa.int "MOST_SIDE" 1000000).ok K,
  xxZ K "InvalidNumber" "InvalidNumber.__init__" "ValueError" [.type "ValueError", .type "Exception", .type "BaseException", .type "object"] "ValueError.__new__" "ValueError.__init__" P0.main.file,
  (He.Fa.noat "InvalidNumber" "given").ok K,
  xxZ K "NoTerms" "NoTerms.__init__" "ValueError" [.type "ValueError", .type "Exception", .type "BaseException", .type "object"] "ValueError.__new__" "ValueError.__init__" P0.main.file,
  xxZ K "InvalidTerm" "InvalidTerm.__init__" "ValueError" [.type "ValueError", .type "Exception", .type "BaseException", .type "object"] "ValueError.__new__" "ValueError.__init__" P0.main.file,
  (He.Fa.noat "InvalidTerm" "at").ok K,
  ctZ K "Fact",
  (He.Fa.noat "Fact" "own_terms").ok K,
  (He.Fa.noat "Fact" "own_most").ok K,
  xcZ K "InvalidTerm" [.ref (He.ga K "ShareError"), .ref (He.ga K "Missing"), .ref (He.ga K "NothingLeft")]]
def facts1 (K : PySem.W.Frag) : List Bool := [
  xcZ K "InvalidNumber" [.ref (He.ga K "ShareError"), .ref (He.ga K "Missing"), .ref (He.ga K "NothingLeft")],
  xcZ K "NoTerms" [.ref (He.ga K "ShareError"), .ref (He.ga K "Missing"), .ref (He.ga K "NothingLeft")],
  codeZ K (He.ga K "_law_bag") "_law_bag",
  PySem.W.keepIn K (.ref (He.ga K "_law_bag")),
  noneV (dflR K (He.ga K "_law_bag")),
  (He.Fa.glo "_law_bag").ok K,
  codeZ K (He.ga K "_law_take") "_law_take",
  PySem.W.keepIn K (.ref (He.ga K "_law_take")),
  noneV (dflR K (He.ga K "_law_take")),
  (He.Fa.glo "_law_take").ok K,
  codeZ K (He.ga K "_law_of") "_law_of",
  PySem.W.keepIn K (.ref (He.ga K "_law_of")),
  noneV (dflR K (He.ga K "_law_of")),
  (He.Fa.glo "_law_of").ok K,
  codeZ K (He.ga K "_law_names") "_law_names",
  PySem.W.keepIn K (.ref (He.ga K "_law_names")),
  noneV (dflR K (He.ga K "_law_names")),
  (He.Fa.glo "_law_names").ok K,
  codeZ K (He.ga K "_law_fields") "_law_fields",
  PySem.W.keepIn K (.ref (He.ga K "_law_fields")),
  noneV (dflR K (He.ga K "_law_fields")),
  (He.Fa.glo "_law_fields").ok K,
  codeZ K (He.ga K "_law_why") "_law_why",
  PySem.W.keepIn K (.ref (He.ga K "_law_why")),
  noneV (dflR K (He.ga K "_law_why")),
  (He.Fa.glo "_law_why").ok K,
  codeZ K (He.ga K "_law_whys") "_law_whys",
  PySem.W.keepIn K (.ref (He.ga K "_law_whys")),
  noneV (dflR K (He.ga K "_law_whys")),
  (He.Fa.glo "_law_whys").ok K]
def facts2 (K : PySem.W.Frag) : List Bool := [
  codeZ K (He.ga K "added_terms") "added_terms",
  PySem.W.keepIn K (.ref (He.ga K "added_terms")),
  noneV (dflR K (He.ga K "added_terms")),
  (He.Fa.glo "added_terms").ok K,
  codeZ K (He.ga K "is_number") "is_number",
  PySem.W.keepIn K (.ref (He.ga K "is_number")),
  noneV (dflR K (He.ga K "is_number")),
  (He.Fa.glo "is_number").ok K,
  codeZ K (He.ga K "is_name") "is_name",
  PySem.W.keepIn K (.ref (He.ga K "is_name")),
  noneV (dflR K (He.ga K "is_name")),
  (He.Fa.glo "is_name").ok K,
  codeZ K (He.ga K "is_term") "is_term",
  PySem.W.keepIn K (.ref (He.ga K "is_term")),
  noneV (dflR K (He.ga K "is_term")),
  (He.Fa.glo "is_term").ok K,
  codeZ K (He.ma K (He.ga K "Fact") "__init__") "Fact.__init__",
  PySem.W.keepIn K (.ref (He.ma K (He.ga K "Fact") "__init__")),
  noneV (dflR K (He.ma K (He.ga K "Fact") "__init__")),
  (He.Fa.mkr "Fact").ok K,
  codeZ K (He.ma K (He.ga K "Fact") "factor") "Fact.factor",
  PySem.W.keepIn K (.ref (He.ma K (He.ga K "Fact") "factor")),
  noneV (dflR K (He.ma K (He.ga K "Fact") "factor")),
  (He.Fa.meth "Fact" "factor").ok K,
  codeZ K (prF K (He.ga K "Fact") "most") "Fact.most",
  PySem.W.keepIn K (.ref (prF K (He.ga K "Fact") "most")),
  noneV (dflR K (prF K (He.ga K "Fact") "most")),
  prpZ K (He.ga K "Fact") "most",
  codeZ K (He.ga K "law") "law",
  PySem.W.keepIn K (.ref (He.ga K "law"))]
def facts3 (K : PySem.W.Frag) : List Bool := [
  noneV (dflR K (He.ga K "law")),
  (He.Fa.glo "law").ok K]
def facts (K : PySem.W.Frag) : List Bool := facts0 K ++ facts1 K ++ facts2 K ++ facts3 K
def fns0 (K : PySem.W.Frag) : List FnZ := [fnZ K (xfI K "InvalidNumber"), fnZ K (xfI K "NoTerms"), fnZ K (xfI K "InvalidTerm"), fnZ K (He.ga K "_law_bag"), fnZ K (He.ga K "_law_take"), fnZ K (He.ga K "_law_of"), fnZ K (He.ga K "_law_names"), fnZ K (He.ga K "_law_fields"), fnZ K (He.ga K "_law_why"), fnZ K (He.ga K "_law_whys"), fnZ K (He.ga K "added_terms"), fnZ K (He.ga K "is_number"), fnZ K (He.ga K "is_name"), fnZ K (He.ga K "is_term"), fnZ K (He.ma K (He.ga K "Fact") "__init__"), fnZ K (He.ma K (He.ga K "Fact") "factor"), fnZ K (prF K (He.ga K "Fact") "most"), fnZ K (He.ga K "law")]
def fvs0 : List FnZ := [fnX "InvalidNumber.__init__" s_InvalidNumber___init__, fnX "NoTerms.__init__" s_NoTerms___init__, fnX "InvalidTerm.__init__" s_InvalidTerm___init__, fnV "_law_bag" "_law_bag" s__law_bag, fnV "_law_take" "_law_take" s__law_take, fnV "_law_of" "_law_of" s__law_of, fnV "_law_names" "_law_names" s__law_names, fnV "_law_fields" "_law_fields" s__law_fields, fnV "_law_why" "_law_why" s__law_why, fnV "_law_whys" "_law_whys" s__law_whys, fnV "added_terms" "added_terms" s_added_terms, fnV "is_number" "is_number" s_is_number, fnV "is_name" "is_name" s_is_name, fnV "is_term" "is_term" s_is_term, fnV "__init__" "Fact.__init__" s_Fact___init__, fnV "factor" "Fact.factor" s_Fact_factor, fnV "most" "Fact.most" s_Fact_most, fnV "law" "law" s_law]
def fns (K : PySem.W.Frag) : List FnZ := fns0 K
def fvs : List FnZ := fvs0
def loose0 : List Str := ["_wall", "ShareError", "Missing", "NothingLeft", "NoTerms", "InvalidTerm", "InvalidNumber", "InvalidText", "LETTERS", "MOST_LETTERS", "is_name", "is_number", "FIGURES_ratios", "MOST_FIGURES", "plain_number", "signed_number", "MOST_FACTOR", "MOST_SIDE", "FIGURES_facts", "is_term", "added_terms", "term_in", "first_term", "parts_in", "need_factor", "term_text", "Fact", "_law_bag", "_law_take", "_law_of"]
def loose1 : List Str := ["_law_fields", "_law_why", "_law_whys", "_law_names"]
def loose : List Str := loose0 ++ loose1
abbrev R0 : PySem.W.OpenRow := PySem.W.OpenLaw.row PySem.Challenge.rw_waitshares_k22_facts_refused
theorem run (w : World) : HandSHeadRun.RunEq R0 (PySem.W.view R0.prog [39]) (hookZ 3 facts fns fvs) (obZ 3 facts fns) 20000 loose w := by
  intro os
  kernel_rfl
theorem nml_term {n : Str} {f : Int} (h : NmL n) (h1 : -1000 ≤ f) (h2 : f ≤ 1000) : TermG (n, f) := ⟨nm_good h, h1, h2⟩
theorem bentT {n : Str} {bad : Dat} {at_ : Int} (hn : NmL n) (h0 : 0 ≤ at_) (h3 : at_ < 3) : ∃ x0 x1 x2 A B, cutD [termD (n, 1), termD (n, 0 - 1)] none (some at_) ++ [bad] ++ cutD [termD (n, 1), termD (n, 0 - 1)] (some at_) none = [x0, x1, x2] ∧ [x0, x1, x2] = A ++ bad :: B ∧ (A.length : Int) = at_ ∧ ∀ d ∈ A ++ B, ∃ t : Term, d = termD t ∧ TermG t := by
  have g1 : TermG (n, 1) := nml_term hn (by decide) (by decide)
  have g2 : TermG (n, 0 - 1) := nml_term hn (by decide) (by decide)
  have hc : at_ = 0 ∨ at_ = 1 ∨ at_ = 2 := by omega
  rcases hc with rfl | rfl | rfl
  · refine ⟨_, _, _, [], [termD (n, 1), termD (n, 0 - 1)], rfl, rfl, rfl, fun d hd => ?_⟩
    simp only [List.nil_append, List.mem_cons, List.not_mem_nil, or_false] at hd
    rcases hd with rfl | rfl
    · exact ⟨_, rfl, g1⟩
    · exact ⟨_, rfl, g2⟩
  · refine ⟨_, _, _, [termD (n, 1)], [termD (n, 0 - 1)], rfl, rfl, rfl, fun d hd => ?_⟩
    simp only [List.cons_append, List.nil_append, List.mem_cons, List.not_mem_nil, or_false] at hd
    rcases hd with rfl | rfl
    · exact ⟨_, rfl, g1⟩
    · exact ⟨_, rfl, g2⟩
  · refine ⟨_, _, _, [termD (n, 1), termD (n, 0 - 1)], [], rfl, rfl, rfl, fun d hd => ?_⟩
    simp only [List.cons_append, List.nil_append, List.append_nil, List.mem_cons, List.not_mem_nil, or_false] at hd
    rcases hd with rfl | rfl
    · exact ⟨_, rfl, g1⟩
    · exact ⟨_, rfl, g2⟩
theorem new_bentT {C : Addr} {c : FXs} {x0 x1 x2 bad m : Dat} {n : String} {A B : List Dat} {M : Mem} {q : DK} {xq : XQ} (hm : tyName m = some n) (e : [x0, x1, x2] = A ++ bad :: B) (hg : ∀ d ∈ A ++ B, ∃ t : Term, d = termD t ∧ TermG t) (ht : RowT bad) (hb : isTermB bad = false)
    (k : ∀ M', SubM M M' → xq (termX c.tm A.length) M') : NewV C (S_finit C c) 0 [] [0, 1] [x0, x1, x2] [m] M q xq := by
  have hl : (A ++ bad :: B).length = 3 := by rw [← e]; rfl
  rw [e]
  refine new_fX hm (by omega) (fun d hd => ?_) (fEnd_bad (fun d hd => ?_) hb k)
  · rcases List.mem_append.mp hd with h | h
    · obtain ⟨r, rfl, hr⟩ := hg d (List.mem_append_left _ h)
      exact hr.tame
    · rcases List.mem_cons.mp h with rfl | h
      · exact ht
      · obtain ⟨r, rfl, hr⟩ := hg d (List.mem_append_right _ h)
        exact hr.tame
  · obtain ⟨r, rfl, hr⟩ := hg d (List.mem_append_left _ hd)
    exact hr.is
theorem new_num {C : Addr} {c : FXs} {ts : List Term} {m : Dat} {n : String} {M : Mem} {q : DK} {xq : XQ} (hl : ts.length ≤ 60) (h : ∀ t ∈ ts, TermG t) (hm : tyName m = some n) (hb : numD m (-1000000) 1000000 = false) (k : ∀ M', SubM M M' → xq (numX c.nb m) M') : NewV C (S_finit C c) 0 [] [0, 1] (ts.map termD) [m] M q xq :=
  new_fX hm (by rw [List.length_map]; exact hl) (fun d hd => by
    obtain ⟨t, ht, rfl⟩ := List.mem_map.mp hd
    exact (h t ht).tame) (fEnd_num h hb k)
theorem new_no {C : Addr} {c : FXs} {ts : List Term} {m : Int} {M : Mem} {q : DK} {xq : XQ} (hl : ts.length ≤ 60) (h : ∀ t ∈ ts, TermG t) (hb : -1000000 ≤ m ∧ m ≤ 1000000) (hz : ∀ n, sumT ts n = 0) (k : ∀ M', SubM M M' → xq (noTX c.no) M') : NewV C (S_finit C c) 0 [] [0, 1] (ts.map termD) [.int m] M q xq :=
  new_fX rfl (by rw [List.length_map]; exact hl) (fun d hd => by
    obtain ⟨t, ht, rfl⟩ := List.mem_map.mp hd
    exact (h t ht).tame) (fEnd_no h (numD_T hb) hz k)
theorem new_fact {C : Addr} {c : FXs} {ts : List Term} {m : Int} {M : Mem} {q : DK} {xq : XQ} {n0 : Str} (hl : ts.length ≤ 60) (h : ∀ t ∈ ts, TermG t) (hb : -1000000 ≤ m ∧ m ≤ 1000000) (hz : sumT ts n0 ≠ 0) (k : ∀ r, IsJoin ts r → r.length ≤ 60 → q (factD C r m) M) : NewV C (S_finit C c) 0 [] [0, 1] (ts.map termD) [.int m] M q xq :=
  new_fX rfl (by rw [List.length_map]; exact hl) (fun d hd => by
    obtain ⟨t, ht, rfl⟩ := List.mem_map.mp hd
    exact (h t ht).tame) (by
    unfold fEnd
    rw [terms_bad h]
    dsimp only
    rw [if_pos (numD_T hb)]
    intro ts2 r e _ hj
    rw [← terms_inj e] at hj
    refine ⟨fun z => ?_, fun _ => k r hj (Nat.le_trans hj.len hl)⟩
    subst z
    exact absurd (hj.all n0 hz) (by simp))
theorem badT_of {n : Str} {d : Dat} (hn : NmL n) (h : d ∈ [.non, .str n, .tup [.str n], .tup [.str n, .int 1, .int 1], .lst [.str n, .int 1], .tup [.str "A", .int 1], .tup [.str "", .int 1], .tup [.str n, .int 1001], .tup [.str n, .int (0 - 1001)], .tup [.str n, .bl true], .tup [.str n, .str "1"], .tup [.int 3, .int 1], .tup [.str n, .non]]) : RowT d ∧ isTermB d = false := by
  have hg := nm_good hn
  have hl := name_len hg
  have sh : ∀ (a : Dat) (es : List Dat), (∀ s, Dat.str s ∈ es → s.length ≤ 100000) → es.all flatD = true → es.length ≤ 1000 → RowT (.tup es) := fun _ es h1 h2 h3 => ⟨⟨_, rfl⟩, fun e z => by cases z; exact ⟨h2, h3, h1⟩⟩
  simp only [List.mem_cons, List.not_mem_nil, or_false] at h
  rcases h with rfl | rfl | rfl | rfl | rfl | rfl | rfl | rfl | rfl | rfl | rfl | rfl | rfl
  · exact ⟨atom_tame rfl fun es e => (by cases e), rfl⟩
  · exact ⟨atom_tame rfl fun es e => (by cases e), rfl⟩
  · exact ⟨sh .non _ (fun s hs => by simp at hs; rw [hs]; omega) rfl (Nat.le_of_ble_eq_true rfl), rfl⟩
  · exact ⟨sh .non _ (fun s hs => by simp at hs; rw [hs]; omega) rfl (Nat.le_of_ble_eq_true rfl), rfl⟩
  · exact ⟨atom_tame rfl fun es e => (by cases e), rfl⟩
  · exact ⟨sh .non _ (fun s hs => by simp at hs; rw [hs]; decide) rfl (Nat.le_of_ble_eq_true rfl), by decide +kernel⟩
  · exact ⟨sh .non _ (fun s hs => by simp at hs; rw [hs]; decide) rfl (Nat.le_of_ble_eq_true rfl), by decide +kernel⟩
  · exact ⟨sh .non _ (fun s hs => by simp at hs; rw [hs]; omega) rfl (Nat.le_of_ble_eq_true rfl), by show (_ && numD (.int 1001) (-1000) 1000) = false; rw [numD_F (by decide), Bool.and_false]⟩
  · exact ⟨sh .non _ (fun s hs => by simp at hs; rw [hs]; omega) rfl (Nat.le_of_ble_eq_true rfl), by show (_ && numD (.int (0 - 1001)) (-1000) 1000) = false; rw [numD_F (by decide), Bool.and_false]⟩
  · exact ⟨sh .non _ (fun s hs => by simp at hs; rw [hs]; omega) rfl (Nat.le_of_ble_eq_true rfl), by show (_ && false) = false; rw [Bool.and_false]⟩
  · exact ⟨sh .non _ (fun s hs => by simp at hs; rcases hs with rfl | rfl; omega; decide) rfl (Nat.le_of_ble_eq_true rfl), by show (_ && false) = false; rw [Bool.and_false]⟩
  · exact ⟨sh .non _ (fun s hs => by simp at hs) rfl (Nat.le_of_ble_eq_true rfl), rfl⟩
  · exact ⟨sh .non _ (fun s hs => by simp at hs; rw [hs]; omega) rfl (Nat.le_of_ble_eq_true rfl), by show (_ && false) = false; rw [Bool.and_false]⟩
theorem oddN_of {d : Dat} (h : d ∈ [.non, .int (10 ^ 6 + 1), .int (0 - 10 ^ 6 - 1), .bl true, .str "1", .int (10 ^ 20)]) : (∃ n, tyName d = some n) ∧ numD d (-1000000) 1000000 = false ∧ Shp 6 d := by
  simp only [List.mem_cons, List.not_mem_nil, or_false] at h
  rcases h with rfl | rfl | rfl | rfl | rfl | rfl
  · exact ⟨⟨_, rfl⟩, rfl, Shp.non⟩
  · exact ⟨⟨_, rfl⟩, numD_F (by decide), Shp.int⟩
  · exact ⟨⟨_, rfl⟩, numD_F (by decide), Shp.int⟩
  · exact ⟨⟨_, rfl⟩, rfl, Shp.bl⟩
  · exact ⟨⟨_, rfl⟩, rfl, Shp.strB (by decide +kernel)⟩
  · exact ⟨⟨_, rfl⟩, numD_F (by decide), Shp.int⟩
theorem sum_opp {n : Str} (z : Str) : sumT [(n, 1), (n, 0 - 1)] z = 0 := by
  show (if n = z then (1 : Int) else 0) + ((if n = z then (0 - 1 : Int) else 0) + 0) = 0
  split <;> rfl
theorem sum_two {n o : Str} (h : ¬ n = o) : sumT [(n, 1000), (o, 0 - 1000)] n = 1000 := by
  show (if n = n then (1000 : Int) else 0) + ((if o = n then (0 - 1000 : Int) else 0) + 0) = 1000
  rw [if_pos rfl, if_neg (fun e => h e.symm)]
  rfl
theorem sum_dbl {n : Str} : sumT [(n, 1000), (n, 1000)] n = 2000 := by
  show (if n = n then (1000 : Int) else 0) + ((if n = n then (1000 : Int) else 0) + 0) = 2000
  rw [if_pos rfl]
  rfl
theorem all2 {p : Term → Prop} {a b : Term} (h1 : p a) (h2 : p b) : ∀ t ∈ [a, b], p t := fun t ht => by
  simp only [List.mem_cons, List.not_mem_nil, or_false] at ht
  rcases ht with rfl | rfl
  · exact h1
  · exact h2
section
variable {P : Program} {w : World} {K : PySem.W.Frag} {mg : Str → Option Value} {base : Heap}
section
abbrev N__law_bag : List Str := ["_law_script", "_law_seed", "_law_cell"]
theorem sc__law_bag : FnScope N__law_bag ["_law_script"] (defScope s__law_bag) := ⟨rfl, rfl, rfl, by decide +kernel, rfl, by decide +kernel, by decide +kernel⟩
theorem nd__law_bag : (N__law_bag).Nodup := by decide +kernel
local macro_rules | `(tactic| walk_at "var") => `(tactic| first
  | (with_reducible refine de_nm (i := 0) (x := "_law_script") ?a ?b ?c); (case a => rfl); (case b => first | exact Or.inl rfl | exact Or.inr (Or.inl rfl) | exact Or.inr (Or.inr rfl))
  | (with_reducible refine de_nm (i := 1) (x := "_law_seed") ?a ?b ?c); (case a => rfl); (case b => first | exact Or.inl rfl | exact Or.inr (Or.inl rfl) | exact Or.inr (Or.inr rfl))
  | (with_reducible refine de_nm (i := 2) (x := "_law_cell") ?a ?b ?c); (case a => rfl); (case b => first | exact Or.inl rfl | exact Or.inr (Or.inl rfl) | exact Or.inr (Or.inr rfl)))
local macro_rules | `(tactic| walk_at "set") => `(tactic| first
  | (with_reducible refine ds_set (i := 1) (x := "_law_seed") ?n ?a ?b ?c ?s ?f); (case n => assumption); (case a => rfl); (case b => first | exact Or.inl rfl | exact Or.inr rfl); (case s => rfl); (case f => first | exact Or.inl rfl | exact Or.inr rfl))
local macro_rules | `(tactic| walk_at "tgt") => `(tactic| first
  | (with_reducible refine dg_name (i := 2) (x := "_law_cell") ?n ?a ?b ?o ?c ?f); (case n => assumption); (case a => rfl); (case b => first | exact Or.inl rfl | exact Or.inr rfl); (case o => rfl); (case f => first | exact Or.inl rfl | exact Or.inr rfl))
theorem ok__law_bag {f : Addr} {fd : FuncData} (F : FunD K "_law_bag" "_law_bag" s__law_bag f fd) (m_list : mg "list" = none) (m_int : mg "int" = none) : FnOk P w K mg base (L2.CX P w) 1 f fd ["_law_script"] (LSp K S_bag) := by
  refine F.ok sc__law_bag (fun ds M q x h => by first | (obtain ⟨_, rfl, _⟩ := h; rfl) | (obtain ⟨_, _, rfl, _⟩ := h; rfl) | (obtain ⟨_, _, _, rfl, _⟩ := h; rfl) | (obtain ⟨_, _, _, _, rfl, _⟩ := h; rfl) | (obtain ⟨_, _, _, _, _, rfl, _⟩ := h; rfl) | (obtain ⟨_, _, _, _, _, _, rfl, _⟩ := h; rfl) | (obtain ⟨_, _, _, _, _, _, _, rfl, _⟩ := h; rfl) | (obtain ⟨_, _, _, _, _, _, _, _, rfl, _⟩ := h; rfl) | (obtain ⟨_, _, _, _, _, _, _, _, _, rfl, _⟩ := h; rfl) | (obtain ⟨_, _, _, _, _, _, _, _, _, _, rfl, _⟩ := h; rfl) | (obtain ⟨_, _, _, _, _, _, _, _, _, _, _, rfl, _⟩ := h; rfl) | (obtain ⟨_, _, _, _, _, _, _, _, _, _, _, _, rfl, _⟩ := h; rfl)) ?_
  intro cdv A outer s H E hr F0 ds M q x h xok
  have hN := nd__law_bag
  obtain ⟨ns, rfl, hl, hns, hq⟩ := h
  refine dss_cons ?_
  repeat walk_at "one"
  refine ds_for pass_body rfl ?_
  refine di_lst ?_
  repeat walk_at "one"
  refine dloop_inv (fun _ ρ M' => M' = M ∧ ∃ sd c, ρ = [some (.scr ns), some (.int sd), c] ∧ 0 ≤ sd ∧ sd < 2147483629) _ 0 _ _ ⟨rfl, _, _, rfl, by decide, by decide⟩ ?_ ?_
  · rintro j d ρ M' hj ⟨rfl, sd, c, rfl, h0, h1⟩
    have hd : d ∈ cutD (ns.map Dat.int) none (some 63) := List.mem_of_getElem? hj
    obtain ⟨z, hz, rfl⟩ := List.mem_map.mp (cutD_mem hd)
    repeat walk_at "one"
    exact ⟨rfl, _, _, rfl, Int.emod_nonneg _ (by decide), Int.emod_lt_of_pos _ (by decide)⟩
  · rintro ρ M' ⟨rfl, sd, c, rfl, h0, h1⟩
    refine dss_one (ds_ret ?_)
    refine de_lstC ?_
    repeat walk_at "one"
    rename_i p hp
    refine hq p _ hp ?_ ?_
    · refine ⟨ns.take 63, 0, 0, sd, 0, ?_, fun z hz => hns z (List.mem_of_mem_take hz), by decide, by decide, IB.small (by decide) (by decide), h0, h1, by decide, by decide⟩
      rw [updM_same, cut63]
    · exact (DL.Same.refl _ _).upd
end
section
abbrev N__law_take : List Str := ["_law_bag_here", "_law_many", "_law_cell", "_law_more", "_law_digit", "_law_old"]
theorem sc__law_take : FnScope N__law_take ["_law_bag_here", "_law_many"] (defScope s__law_take) := ⟨rfl, rfl, rfl, by decide +kernel, rfl, by decide +kernel, by decide +kernel⟩
theorem nd__law_take : (N__law_take).Nodup := by decide +kernel
local macro_rules | `(tactic| walk_at "var") => `(tactic| first
  | (with_reducible refine de_nm (i := 5) (x := "_law_old") ?a ?b ?c); (case a => rfl); (case b => first | exact Or.inl rfl | exact Or.inr (Or.inl rfl) | exact Or.inr (Or.inr rfl)))
local macro_rules | `(tactic| walk_at "var") => `(tactic| first
  | (with_reducible refine de_nm (i := 0) (x := "_law_bag_here") ?a ?b ?c); (case a => rfl); (case b => first | exact Or.inl rfl | exact Or.inr (Or.inl rfl) | exact Or.inr (Or.inr rfl))
  | (with_reducible refine de_nm (i := 1) (x := "_law_many") ?a ?b ?c); (case a => rfl); (case b => first | exact Or.inl rfl | exact Or.inr (Or.inl rfl) | exact Or.inr (Or.inr rfl))
  | (with_reducible refine de_nm (i := 2) (x := "_law_cell") ?a ?b ?c); (case a => rfl); (case b => first | exact Or.inl rfl | exact Or.inr (Or.inl rfl) | exact Or.inr (Or.inr rfl))
  | (with_reducible refine de_nm (i := 3) (x := "_law_more") ?a ?b ?c); (case a => rfl); (case b => first | exact Or.inl rfl | exact Or.inr (Or.inl rfl) | exact Or.inr (Or.inr rfl))
  | (with_reducible refine de_nm (i := 4) (x := "_law_digit") ?a ?b ?c); (case a => rfl); (case b => first | exact Or.inl rfl | exact Or.inr (Or.inl rfl) | exact Or.inr (Or.inr rfl)))
local macro_rules | `(tactic| walk_at "set") => `(tactic| first
  | (with_reducible refine ds_set (i := 2) (x := "_law_cell") ?n ?a ?b ?c ?s ?f); (case n => assumption); (case a => rfl); (case b => first | exact Or.inl rfl | exact Or.inr rfl); (case s => rfl); (case f => first | exact Or.inl rfl | exact Or.inr rfl)
  | (with_reducible refine ds_set (i := 3) (x := "_law_more") ?n ?a ?b ?c ?s ?f); (case n => assumption); (case a => rfl); (case b => first | exact Or.inl rfl | exact Or.inr rfl); (case s => rfl); (case f => first | exact Or.inl rfl | exact Or.inr rfl)
  | (with_reducible refine ds_set (i := 4) (x := "_law_digit") ?n ?a ?b ?c ?s ?f); (case n => assumption); (case a => rfl); (case b => first | exact Or.inl rfl | exact Or.inr rfl); (case s => rfl); (case f => first | exact Or.inl rfl | exact Or.inr rfl)
  | (with_reducible refine ds_set (i := 5) (x := "_law_old") ?n ?a ?b ?c ?s ?f); (case n => assumption); (case a => rfl); (case b => first | exact Or.inl rfl | exact Or.inr rfl); (case s => rfl); (case f => first | exact Or.inl rfl | exact Or.inr rfl))
theorem ok__law_take {f : Addr} {fd : FuncData} (F : FunD K "_law_take" "_law_take" s__law_take f fd) (m_int : mg "int" = none) (m_len : mg "len" = none) : FnOk P w K mg base (L2.CX P w) 1 f fd ["_law_bag_here", "_law_many"] (LSp K S_take) := by
  refine F.ok sc__law_take (fun ds M q x h => by first | (obtain ⟨_, rfl, _⟩ := h; rfl) | (obtain ⟨_, _, rfl, _⟩ := h; rfl) | (obtain ⟨_, _, _, rfl, _⟩ := h; rfl) | (obtain ⟨_, _, _, _, rfl, _⟩ := h; rfl) | (obtain ⟨_, _, _, _, _, rfl, _⟩ := h; rfl) | (obtain ⟨_, _, _, _, _, _, rfl, _⟩ := h; rfl) | (obtain ⟨_, _, _, _, _, _, _, rfl, _⟩ := h; rfl) | (obtain ⟨_, _, _, _, _, _, _, _, rfl, _⟩ := h; rfl) | (obtain ⟨_, _, _, _, _, _, _, _, _, rfl, _⟩ := h; rfl) | (obtain ⟨_, _, _, _, _, _, _, _, _, _, rfl, _⟩ := h; rfl) | (obtain ⟨_, _, _, _, _, _, _, _, _, _, _, rfl, _⟩ := h; rfl) | (obtain ⟨_, _, _, _, _, _, _, _, _, _, _, _, rfl, _⟩ := h; rfl)) ?_
  intro cdv A outer s H E hr F0 ds M q x h xok
  have hN := nd__law_take
  obtain ⟨p, m, c, rfl, hb, hc, h1, h2, hq⟩ := h
  obtain ⟨ns, i, cl, sd, n, hM, hns, hi, hcl, hcb, hs0, hs1, hn0, hn1⟩ := hb
  refine dss_cons ?_
  repeat walk_at "one"
  all_goals try (
    obtain ⟨z, hz, hz2⟩ := atI_ints hi (by assumption)
    refine dix_lst hz2 ?_
    repeat walk_at "one")
  all_goals (
    show q (Dat.int _) _
    refine hq _ _ (Int.emod_nonneg _ (by omega)) (Int.emod_lt_of_pos _ (by omega)) ?_ ?_
    case refine_2 => repeat (first | exact Same.refl _ _ | refine Same.upd ?_)
    refine ⟨ns, _, _, _, _, updM_same, hns, ?_, ?_, ?_, ?_, ?_, ?_, ?_⟩)
  all_goals try rw [e18] at *
  all_goals first
    | assumption
    | omega
    | exact Int.emod_nonneg _ (by omega)
    | exact Int.emod_lt_of_pos _ (by omega)
    | exact Int.ediv_nonneg (by omega) (by omega)
    | exact IB.small (by omega) (by omega)
    | exact hns _ (by assumption)
    | exact IB.ediv (by assumption) (by omega) (by omega)
    | exact IB.ediv (hns _ (by assumption)) (by omega) (by omega)
end
section
abbrev N__law_of : List Str := ["_law_bag_here", "_law_things"]
theorem sc__law_of : FnScope N__law_of ["_law_bag_here", "_law_things"] (defScope s__law_of) := ⟨rfl, rfl, rfl, by decide +kernel, rfl, by decide +kernel, by decide +kernel⟩
theorem nd__law_of : (N__law_of).Nodup := by decide +kernel
local macro_rules | `(tactic| walk_at "var") => `(tactic| first
  | (with_reducible refine de_nm (i := 0) (x := "_law_bag_here") ?a ?b ?c); (case a => rfl); (case b => first | exact Or.inl rfl | exact Or.inr (Or.inl rfl) | exact Or.inr (Or.inr rfl))
  | (with_reducible refine de_nm (i := 1) (x := "_law_things") ?a ?b ?c); (case a => rfl); (case b => first | exact Or.inl rfl | exact Or.inr (Or.inl rfl) | exact Or.inr (Or.inr rfl)))
set_option hygiene false in
local macro_rules | `(tactic| walk_at "call") => `(tactic| first
  | ((with_reducible show DE _ _ (Expr.Call (Expr.Name "_law_take" _) (_ :: _) [] _) _ _ _); refine de_fn c__law_take rfl (by assumption) (by decide) (by first | assumption | exact XOk.none) ?_))
theorem ok__law_of {f__law_take : Addr} {fd__law_take : FuncData} {f : Addr} {fd : FuncData} (F : FunD K "_law_of" "_law_of" s__law_of f fd) (c__law_take : Cal P w K mg base "_law_take" 1 f__law_take fd__law_take ["_law_bag_here", "_law_many"] S_take) (m_len : mg "len" = none) : FnOk P w K mg base (L2.CX P w) 2 f fd ["_law_bag_here", "_law_things"] (LSp K S_of) := by
  refine F.ok sc__law_of (fun ds M q x h => by first | (obtain ⟨_, rfl, _⟩ := h; rfl) | (obtain ⟨_, _, rfl, _⟩ := h; rfl) | (obtain ⟨_, _, _, rfl, _⟩ := h; rfl) | (obtain ⟨_, _, _, _, rfl, _⟩ := h; rfl) | (obtain ⟨_, _, _, _, _, rfl, _⟩ := h; rfl) | (obtain ⟨_, _, _, _, _, _, rfl, _⟩ := h; rfl) | (obtain ⟨_, _, _, _, _, _, _, rfl, _⟩ := h; rfl) | (obtain ⟨_, _, _, _, _, _, _, _, rfl, _⟩ := h; rfl) | (obtain ⟨_, _, _, _, _, _, _, _, _, rfl, _⟩ := h; rfl) | (obtain ⟨_, _, _, _, _, _, _, _, _, _, rfl, _⟩ := h; rfl) | (obtain ⟨_, _, _, _, _, _, _, _, _, _, _, rfl, _⟩ := h; rfl) | (obtain ⟨_, _, _, _, _, _, _, _, _, _, _, _, rfl, _⟩ := h; rfl)) ?_
  intro cdv A outer s H E hr F0 ds M q x h xok
  have hN := nd__law_of
  obtain ⟨p, th, c, rfl, hB, hc, hne, hlen, hq⟩ := h
  have hpos : 0 < (thingsD th).length := List.length_pos_iff.mpr hne
  refine dss_cons ?_
  cases th with
  | lst xs =>
    have hpos' : 0 < xs.length := hpos
    have hlen' : xs.length ≤ 100000 := hlen
    repeat walk_at "one"
    rename_i dv Mv h0 h1 hB' hS
    obtain ⟨e, he, h2⟩ := atI_in (ds := xs) h0 (by omega)
    refine dix_lst h2 ?_
    exact hq _ _ he (by assumption) (by walk_at "same")
  | tup xs =>
    have hpos' : 0 < xs.length := hpos
    have hlen' : xs.length ≤ 100000 := hlen
    repeat walk_at "one"
    rename_i dv Mv h0 h1 hB' hS
    obtain ⟨e, he, h2⟩ := atI_in (ds := xs) h0 (by omega)
    refine dix_tup h2 ?_
    exact hq _ _ he (by assumption) (by walk_at "same")
  | str xs =>
    have hpos' : 0 < xs.length := by
      have := hpos
      unfold thingsD DL.signs at this
      rwa [List.length_map, Array.length_toList] at this
    have hlen' : xs.length ≤ 100000 := by
      have := hlen
      unfold thingsD DL.signs at this
      rwa [List.length_map, Array.length_toList] at this
    repeat walk_at "one"
    rename_i dv Mv h0 h1 hB' hS
    obtain ⟨e, he, h2⟩ := atI_at (cs := xs.cps.toList) h0 (by rw [Array.length_toList]; exact h1)
    refine dix_str (by omega) h2 ?_
    exact hq _ _ (List.mem_map_of_mem he) (by assumption) (by walk_at "same")
  | _ => exact absurd rfl hne
end
section
abbrev N__law_names : List Str := ["_law_bag_here", "_law_many", "_law_abc", "_law_k", "_law_stem", "_law_at", "_law_first", "_law_step", "_law_found", "_law_letter"]
theorem sc__law_names : FnScope N__law_names ["_law_bag_here", "_law_many"] (defScope s__law_names) := ⟨rfl, rfl, rfl, by decide +kernel, rfl, by decide +kernel, by decide +kernel⟩
theorem nd__law_names : (N__law_names).Nodup := by decide +kernel
local macro_rules | `(tactic| walk_at "var") => `(tactic| first
  | (with_reducible refine de_nm (i := 5) (x := "_law_at") ?a ?b ?c); (case a => rfl); (case b => first | exact Or.inl rfl | exact Or.inr (Or.inl rfl) | exact Or.inr (Or.inr rfl))
  | (with_reducible refine de_nm (i := 6) (x := "_law_first") ?a ?b ?c); (case a => rfl); (case b => first | exact Or.inl rfl | exact Or.inr (Or.inl rfl) | exact Or.inr (Or.inr rfl))
  | (with_reducible refine de_nm (i := 7) (x := "_law_step") ?a ?b ?c); (case a => rfl); (case b => first | exact Or.inl rfl | exact Or.inr (Or.inl rfl) | exact Or.inr (Or.inr rfl))
  | (with_reducible refine de_nm (i := 8) (x := "_law_found") ?a ?b ?c); (case a => rfl); (case b => first | exact Or.inl rfl | exact Or.inr (Or.inl rfl) | exact Or.inr (Or.inr rfl))
  | (with_reducible refine de_nm (i := 9) (x := "_law_letter") ?a ?b ?c); (case a => rfl); (case b => first | exact Or.inl rfl | exact Or.inr (Or.inl rfl) | exact Or.inr (Or.inr rfl)))
local macro_rules | `(tactic| walk_at "var") => `(tactic| first
  | (with_reducible refine de_nm (i := 0) (x := "_law_bag_here") ?a ?b ?c); (case a => rfl); (case b => first | exact Or.inl rfl | exact Or.inr (Or.inl rfl) | exact Or.inr (Or.inr rfl))
  | (with_reducible refine de_nm (i := 1) (x := "_law_many") ?a ?b ?c); (case a => rfl); (case b => first | exact Or.inl rfl | exact Or.inr (Or.inl rfl) | exact Or.inr (Or.inr rfl))
  | (with_reducible refine de_nm (i := 2) (x := "_law_abc") ?a ?b ?c); (case a => rfl); (case b => first | exact Or.inl rfl | exact Or.inr (Or.inl rfl) | exact Or.inr (Or.inr rfl))
  | (with_reducible refine de_nm (i := 3) (x := "_law_k") ?a ?b ?c); (case a => rfl); (case b => first | exact Or.inl rfl | exact Or.inr (Or.inl rfl) | exact Or.inr (Or.inr rfl))
  | (with_reducible refine de_nm (i := 4) (x := "_law_stem") ?a ?b ?c); (case a => rfl); (case b => first | exact Or.inl rfl | exact Or.inr (Or.inl rfl) | exact Or.inr (Or.inr rfl)))
local macro_rules | `(tactic| walk_at "set") => `(tactic| first
  | (with_reducible refine ds_set (i := 2) (x := "_law_abc") ?n ?a ?b ?c ?s ?f); (case n => assumption); (case a => rfl); (case b => first | exact Or.inl rfl | exact Or.inr rfl); (case s => rfl); (case f => first | exact Or.inl rfl | exact Or.inr rfl)
  | (with_reducible refine ds_set (i := 4) (x := "_law_stem") ?n ?a ?b ?c ?s ?f); (case n => assumption); (case a => rfl); (case b => first | exact Or.inl rfl | exact Or.inr rfl); (case s => rfl); (case f => first | exact Or.inl rfl | exact Or.inr rfl)
  | (with_reducible refine ds_set (i := 9) (x := "_law_letter") ?n ?a ?b ?c ?s ?f); (case n => assumption); (case a => rfl); (case b => first | exact Or.inl rfl | exact Or.inr rfl); (case s => rfl); (case f => first | exact Or.inl rfl | exact Or.inr rfl))
local macro_rules | `(tactic| walk_at "tgt") => `(tactic| first
  | (with_reducible refine dg_name (i := 3) (x := "_law_k") ?n ?a ?b ?o ?c ?f); (case n => assumption); (case a => rfl); (case b => first | exact Or.inl rfl | exact Or.inr rfl); (case o => rfl); (case f => first | exact Or.inl rfl | exact Or.inr rfl)
  | (with_reducible refine dg_name (i := 5) (x := "_law_at") ?n ?a ?b ?o ?c ?f); (case n => assumption); (case a => rfl); (case b => first | exact Or.inl rfl | exact Or.inr rfl); (case o => rfl); (case f => first | exact Or.inl rfl | exact Or.inr rfl)
  | (with_reducible refine dg_name (i := 6) (x := "_law_first") ?n ?a ?b ?o ?c ?f); (case n => assumption); (case a => rfl); (case b => first | exact Or.inl rfl | exact Or.inr rfl); (case o => rfl); (case f => first | exact Or.inl rfl | exact Or.inr rfl)
  | (with_reducible refine dg_name (i := 7) (x := "_law_step") ?n ?a ?b ?o ?c ?f); (case n => assumption); (case a => rfl); (case b => first | exact Or.inl rfl | exact Or.inr rfl); (case o => rfl); (case f => first | exact Or.inl rfl | exact Or.inr rfl)
  | (with_reducible refine dg_name (i := 8) (x := "_law_found") ?n ?a ?b ?o ?c ?f); (case n => assumption); (case a => rfl); (case b => first | exact Or.inl rfl | exact Or.inr rfl); (case o => rfl); (case f => first | exact Or.inl rfl | exact Or.inr rfl))
local macro_rules | `(tactic| walk_at "cell") => `(tactic| first
  | ((with_reducible show DE _ _ (Expr.List _ ⟨235, 98, 235, 100⟩) _ _ _); refine de_lstC ?_))
local macro_rules | `(tactic| walk_at "par") => `(tactic| first
  | (refine ds_par (i := 5) (j := 6) (x := "_law_at") (y := "_law_first") rfl ?n rfl rfl (by decide) rfl rfl ?k rfl; (case n => assumption))
  | (refine ds_par (i := 7) (j := 8) (x := "_law_step") (y := "_law_found") rfl ?n rfl rfl (by decide) rfl rfl ?k rfl; (case n => assumption)))
local macro_rules | `(tactic| walk_at "comp") => `(tactic| first
  | ((with_reducible show DE _ _ (Expr.ListComp _ _ _ ⟨233, 24, 233, 107⟩) _ _ _); refine de_lcF (own := [("_law_k", 3)]) rfl (by assumption) (blk_ok (N := N__law_names) (sc := defScope s__law_names) (by decide +kernel)) ?_))
local macro_rules | `(tactic| walk_at "tgtc") => `(tactic| first
  | (refine dg_own (i := 3) (x := "_law_k") (by assumption) rfl rfl rfl ?_))
set_option hygiene false in
local macro_rules | `(tactic| walk_at "call") => `(tactic| first
  | ((with_reducible show DE _ _ (Expr.Call (Expr.Name "_law_take" _) (_ :: _) [] _) _ _ _); refine de_fn c__law_take rfl (by assumption) (by decide) (by first | assumption | exact XOk.none) ?_)
  | ((with_reducible show DE _ _ (Expr.Call (Expr.Name "_law_of" _) (_ :: _) [] _) _ _ _); refine de_fn c__law_of rfl (by assumption) (by decide) (by first | assumption | exact XOk.none) ?_))
theorem ok__law_names {f__law_take f__law_of : Addr} {fd__law_take fd__law_of : FuncData} {f : Addr} {fd : FuncData} (F : FunD K "_law_names" "_law_names" s__law_names f fd) (m_range : mg "range" = none) (c__law_take : Cal P w K mg base "_law_take" 1 f__law_take fd__law_take ["_law_bag_here", "_law_many"] S_take) (c__law_of : Cal P w K mg base "_law_of" 2 f__law_of fd__law_of ["_law_bag_here", "_law_things"] S_of) (m_len : mg "len" = none) (m_int : mg "int" = none) : FnOk P w K mg base (L2.CX P w) 3 f fd ["_law_bag_here", "_law_many"] (LSp K S_names) := by
  refine F.ok sc__law_names (fun ds M q x h => by first | (obtain ⟨_, rfl, _⟩ := h; rfl) | (obtain ⟨_, _, rfl, _⟩ := h; rfl) | (obtain ⟨_, _, _, rfl, _⟩ := h; rfl) | (obtain ⟨_, _, _, _, rfl, _⟩ := h; rfl) | (obtain ⟨_, _, _, _, _, rfl, _⟩ := h; rfl) | (obtain ⟨_, _, _, _, _, _, rfl, _⟩ := h; rfl) | (obtain ⟨_, _, _, _, _, _, _, rfl, _⟩ := h; rfl) | (obtain ⟨_, _, _, _, _, _, _, _, rfl, _⟩ := h; rfl) | (obtain ⟨_, _, _, _, _, _, _, _, _, rfl, _⟩ := h; rfl) | (obtain ⟨_, _, _, _, _, _, _, _, _, _, rfl, _⟩ := h; rfl) | (obtain ⟨_, _, _, _, _, _, _, _, _, _, _, rfl, _⟩ := h; rfl) | (obtain ⟨_, _, _, _, _, _, _, _, _, _, _, _, rfl, _⟩ := h; rfl)) ?_
  intro cdv A outer s H E hr F0 ds M q x h xok
  have hN := nd__law_names
  obtain ⟨p, m, c, rfl, hB, hc, hm, hq⟩ := h
  refine dss_cons ?_
  rw [show startD N__law_names [Dat.ptr p, Dat.int (m : Int)] = [some (Dat.ptr p), some (Dat.int (m : Int)), none, none, none, none, none, none, none, none] from rfl]
  repeat walk_at "one"
  rw [abc_is]
  refine di_rng1 rfl m_range ?_
  repeat' walk_at "one"
  rename_i t Mt h0 h1 hB1 hS1
  refine ⟨by omega, by omega, ?_⟩
  refine lck_bag p (fun k acc b => Bag (c + 1 + k) b ∧ ∃ ys : List Nat, acc = ys.map (fun c => Dat.str (tx [c])) ∧ ys.length = k ∧ ∀ c ∈ ys, 97 ≤ c ∧ c ≤ 122) (by rw [rangeD_len]; omega) hB1.some ⟨hB1, [], rfl, rfl, fun _ z => by cases z⟩ ?_ ?_
  · rintro k d acc M' hk ⟨hBk, ys, rfl, hyl, hys⟩ hex s' H' C' cl' fp'
    obtain ⟨hk1, rfl⟩ := rangeD_get hk
    repeat' walk_at "one"
    refine ⟨rfl, fun s2 H2 C2 cl2 fp2 q2 hq2 => ?_⟩
    repeat' walk_at "one"
    rename_i d M2 hd hB2 hS2
    refine hq2 d M2 hS2 ⟨hB2.mono (by omega), ?_⟩
    obtain ⟨e, rfl, he⟩ := abc_mem hd
    refine ⟨ys ++ [e], by rw [List.map_append]; rfl, by rw [List.length_append, hyl]; rfl, fun z hz => ?_⟩
    rcases List.mem_append.mp hz with hz | hz
    · exact hys z hz
    · rw [List.mem_singleton.mp hz]
      exact he
  rintro A1 acc M' hA1 hMA ⟨hB2, ys, rfl, hyl, hys⟩ hx
  refine frz_bag (fun hS2 => ?_) hA1 hx
  have hpA : p ≠ A1 := fun e => hB1.some (by rw [e]; exact hA1)
  have hB3 : Bag (c + 1 + (rangeD 0 (Int.toNat t)).length) ((delM M' A1) p) := by
    rw [delM_ne hpA]
    exact hB2
  clear hB2 hx hMA
  generalize delM M' A1 = M1 at *
  have hB2 := hB3
  rw [rangeD_len] at hyl hB2
  have hl6 : ys.length ≤ 6 := by omega
  repeat walk_at "one"
  rw [show List.map (fun c => Dat.str (tx [c])) ys = (ys.map fun c => tx [c]).map Dat.str by rw [List.map_map]; rfl]
  refine dmt_join ?_ ?_
  · rw [List.map_map, show ((fun x : Str => x.length) ∘ fun c : Nat => tx [c]) = fun _ => 1 from rfl, List.map_const', List.sum_replicate_nat, List.length_map]
    show _ + _ * 0 ≤ _
    omega
  rw [show (Str.ofString "") = tx [] from rfl, tx_join]
  have hlen : (tx ys).length = ys.length := rfl
  repeat walk_at "one"
  rename_i att Mt2 ha0 ha1 hB3 hS3 fst Mt3 hf0 hf1 hB4 hS4 stp M5 hs5 hB5 hS5 D hD
  obtain ⟨st, hsm, rfl⟩ := ints_mem (xs := [1, 3, 5, 7, 9, 11, 15, 17, 19, 21, 23, 25]) hs5
  have hsb : 0 ≤ st ∧ st ≤ 25 := by
    have key : ∀ z ∈ ([1, 3, 5, 7, 9, 11, 15, 17, 19, 21, 23, 25] : List Int), 0 ≤ z ∧ z ≤ 25 := by decide
    exact key st hsm
  have hDp : p ≠ D := fun e => hB5.some (by rw [e]; exact hD)
  refine ds_for pass_body rfl (di_rng1 rfl m_range ?_)
  repeat walk_at "one"
  refine ⟨by omega, by omega, ?_⟩
  refine dloop_inv (fun k ρ M' => ∃ e3 e9, ∃ zs : List (List Nat), ρ = [some (.ptr p), some (.int m), some (.str (tx abcL)), e3, some (.str (tx ys)), some (.int att), some (.int fst), some (.int st), some (.ptr D), e9] ∧ M' D = some (.lst (zs.map fun z => Dat.str (tx z))) ∧ zs.length = k ∧ (∀ (j : Nat) z, zs[j]? = some z → ∃ t, z = nmK ys att.toNat fst st j t) ∧ Bag (c + 1 + t.toNat + 1 + 1 + 1 + k) (M' p) ∧ (∀ a, a ≠ p → a ≠ D → M' a = M5 a)) _ 0 _ _ ⟨_, _, [], rfl, updM_same, rfl, (fun j z hz => by cases hz), by rw [updM_ne hDp]; exact hB5, fun a _ hb => updM_ne hb⟩ ?_ ?_
  · rintro k d ρ M' hk ⟨e3, e9, zs, rfl, hMD, hzl, hz, hB6, hO⟩
    obtain ⟨hk1, rfl⟩ := rangeD_get hk
    rw [Nat.zero_add] at hB6 hzl
    rw [Int.zero_add]
    have hzl2 : (zs.map fun z => Dat.str (tx z)).length < 1000000 := by rw [List.length_map]; omega
    repeat walk_at "one"
    refine dix_str (by decide) (abc_at (Int.emod_nonneg _ (by decide)) (Int.emod_lt_of_pos _ (by decide))) ?_
    repeat walk_at "one"
    have hat : att ≤ (ys.length : Int) := by omega
    have htk : ∀ n, (ys.take n).length ≤ 6 := fun n => by rw [List.length_take]; omega
    rw [tx_cut, cut_to ha0]
    refine dop_addX (a := ys.take att.toNat) (b := [97 + ((fst + (k : Int) * st) % 26).toNat]) (by have := htk att.toNat; rw [List.length_singleton]; omega) ?_
    repeat walk_at "one"
    rename_i u Mu hu0 hu1 hB7 hS7
    rw [tx_cut, cut_mid ha0 (by omega), show (att + u).toNat - att.toNat = u.toNat by omega]
    refine dop_addX (by rw [List.length_append, List.length_singleton, List.length_take, List.length_take, List.length_drop]; omega) ?_
    have hMD2 : Mu D = some (.lst (zs.map fun z => Dat.str (tx z))) := by rw [hS7 D (Ne.symm hDp)]; exact hMD
    repeat walk_at "one"
    refine ⟨_, _, zs ++ [nmK ys att.toNat fst st k u.toNat], rfl, ?_, ?_, ?_, ?_, ?_⟩
    · rw [updM_same, List.map_append]
      rfl
    · rw [List.length_append, hzl, List.length_singleton, Nat.zero_add]
    · intro j z hj
      by_cases hjk : j < zs.length
      · rw [List.getElem?_append_left hjk] at hj
        exact hz j z hj
      · rw [List.getElem?_append_right (by omega)] at hj
        have e : j - zs.length = 0 := by
          by_cases e : j - zs.length = 0
          · exact e
          · rw [List.getElem?_eq_none (by rw [List.length_singleton]; omega)] at hj
            cases hj
        rw [e] at hj
        cases hj
        exact ⟨u.toNat, by rw [show j = k by omega]⟩
    · rw [updM_ne hDp]
      exact hB7.mono (by omega)
    · intro a ha hb
      rw [updM_ne hb, hS7 a ha, hO a ha hb]
  · rintro ρ M' ⟨e3, e9, zs, rfl, hMD, hzl, hz, hB6, hO⟩
    rw [rangeD_len, Nat.zero_add] at hzl hB6
    refine dss_one (ds_ret (de_freeze ?_))
    repeat walk_at "one"
    refine ⟨_, _, rfl, hMD, ?_⟩
    rw [show zs.map (fun z => Dat.str (tx z)) = (zs.map tx).map Dat.str by rw [List.map_map]; rfl]
    refine hq _ _ (by rw [List.length_map]; omega) ?_ ?_ ?_ ?_
    · refine nodup_ix fun i j a h1 h2 => ?_
      rw [List.getElem?_map] at h1 h2
      obtain ⟨z1, e1, rfl⟩ := Option.map_eq_some_iff.mp h1
      obtain ⟨z2, e2, e3⟩ := Option.map_eq_some_iff.mp h2
      have e4 := tx_inj e3
      subst e4
      obtain ⟨t1, e5⟩ := hz i _ e1
      obtain ⟨t2, e6⟩ := hz j _ e2
      have l1 := (List.getElem?_eq_some_iff.mp e1).1
      have l2 := (List.getElem?_eq_some_iff.mp e2).1
      exact nmK_inj hsm (by omega) (by omega) (e5.symm.trans e6)
    · intro s hs
      obtain ⟨z, hz1, rfl⟩ := List.mem_map.mp hs
      obtain ⟨j, hj⟩ := List.mem_iff_getElem?.mp hz1
      obtain ⟨t1, rfl⟩ := hz j _ hj
      exact nmK_ok hys hl6
    · show Bag _ (if p = D then none else M' p)
      rw [if_neg hDp]
      exact hB6.mono (by omega)
    · intro a ha
      show (if a = D then none else M' a) = M a
      have hS : DL.Same p M M5 := by walk_at "same"
      by_cases hb : a = D
      · rw [if_pos hb, hb, ← hD]
        exact hS D (Ne.symm hDp)
      · rw [if_neg hb, hO a ha hb]
        exact hS a ha
end
section
abbrev N__law_fields : List Str := ["_law_e"]
theorem sc__law_fields : FnScope N__law_fields ["_law_e"] (defScope s__law_fields) := ⟨rfl, rfl, rfl, by decide +kernel, rfl, by decide +kernel, by decide +kernel⟩
theorem nd__law_fields : (N__law_fields).Nodup := by decide +kernel
local macro_rules | `(tactic| walk_at "var") => `(tactic| first
  | (with_reducible refine de_nm (i := 0) (x := "_law_e") ?a ?b ?c); (case a => rfl); (case b => first | exact Or.inl rfl | exact Or.inr (Or.inl rfl) | exact Or.inr (Or.inr rfl)))
theorem ok__law_fields {f : Addr} {fd : FuncData} (F : FunD K "_law_fields" "_law_fields" s__law_fields f fd) (hb : ∀ (s : Shared) (us : List Value), us.length = (["_law_e"] : List Str).length → BindsTo s fd ⟨us, []⟩ ((["_law_e"] : List Str).zip us)) : HotFn P w K mg base 1 f (S_lfields K) := by
  refine hotFn_of (N := N__law_fields) (p := "_law_e") F sc__law_fields hb ?_
  intro cdv A outer s H a oe e r F0 M hgd hS hh
  exact fields_dss rfl (.inl rfl) rfl hh hS
end
section
abbrev N__law_why : List Str := ["_law_ask", "_law_e"]
theorem sc__law_why : FnScope N__law_why ["_law_ask"] (defScope s__law_why) := ⟨rfl, rfl, rfl, by decide +kernel, rfl, by decide +kernel, by decide +kernel⟩
theorem nd__law_why : (N__law_why).Nodup := by decide +kernel
local macro_rules | `(tactic| walk_at "var") => `(tactic| first
  | (with_reducible refine de_nm (i := 0) (x := "_law_ask") ?a ?b ?c); (case a => rfl); (case b => first | exact Or.inl rfl | exact Or.inr (Or.inl rfl) | exact Or.inr (Or.inr rfl))
  | (with_reducible refine de_nm (i := 1) (x := "_law_e") ?a ?b ?c); (case a => rfl); (case b => first | exact Or.inl rfl | exact Or.inr (Or.inl rfl) | exact Or.inr (Or.inr rfl)))
set_option hygiene false in
local macro_rules | `(tactic| walk_at "call") => `(tactic| first
  | ((with_reducible show DE _ _ (Expr.Call (Expr.Name "_law_fields" _) (_ :: _) [] _) _ _ _); refine de_fn c__law_fields rfl (by assumption) (by decide) (by first | assumption | exact XOk.none) ?_))
set_option hygiene false in
local macro_rules | `(tactic| walk_at "glob") => `(tactic| first
  | ((with_reducible show DE _ _ (Expr.Name "ShareError" _) _ _ _); refine de_glob T_ShareError.g rfl ?_)
  | ((with_reducible show DE _ _ (Expr.Name "Missing" _) _ _ _); refine de_glob T_Missing.g rfl ?_)
  | ((with_reducible show DE _ _ (Expr.Name "NothingLeft" _) _ _ _); refine de_glob T_NothingLeft.g rfl ?_))
theorem ok__law_why {C_ShareError C_Missing C_NothingLeft f__law_fields : Addr} {f : Addr} {fd : FuncData} (F : FunD K "_law_why" "_law_why" s__law_why f fd) (e_ShareError : mg "ShareError" = some (.ref C_ShareError)) (e_Missing : mg "Missing" = some (.ref C_Missing)) (e_NothingLeft : mg "NothingLeft" = some (.ref C_NothingLeft)) (c__law_fields : CalH P w K mg base "_law_fields" 1 f__law_fields (S_lfields K)) : FnG P w K mg base 13 f fd ["_law_ask"] (LSp K (S_lwhy P w K mg base 12 [.ref C_ShareError, .ref C_Missing, .ref C_NothingLeft])) := by
  refine F.okG sc__law_why (fun ds M q x h => by first | (obtain ⟨_, rfl, _⟩ := h; rfl) | (obtain ⟨_, _, rfl, _⟩ := h; rfl) | (obtain ⟨_, _, _, rfl, _⟩ := h; rfl) | (obtain ⟨_, _, _, _, rfl, _⟩ := h; rfl) | (obtain ⟨_, _, _, _, _, rfl, _⟩ := h; rfl) | (obtain ⟨_, _, _, _, _, _, rfl, _⟩ := h; rfl) | (obtain ⟨_, _, _, _, _, _, _, rfl, _⟩ := h; rfl) | (obtain ⟨_, _, _, _, _, _, _, _, rfl, _⟩ := h; rfl) | (obtain ⟨_, _, _, _, _, _, _, _, _, rfl, _⟩ := h; rfl) | (obtain ⟨_, _, _, _, _, _, _, _, _, _, rfl, _⟩ := h; rfl) | (obtain ⟨_, _, _, _, _, _, _, _, _, _, _, rfl, _⟩ := h; rfl) | (obtain ⟨_, _, _, _, _, _, _, _, _, _, _, _, rfl, _⟩ := h; rfl)) ?_
  intro cdv A outer s H E hgd hr F0 ds M q x h xok
  have hN := nd__law_why
  have hgd' : (A.deeper (envOfC "_law_why" (defScope s__law_why) s.heap.objs.size f cdv)).guards = some [] := hgd
  obtain ⟨l, r, rfl, hL, hq⟩ := h
  exact why_dss rfl (.inl rfl) rfl rfl rfl ⟨rfl, by decide, .inl e_ShareError⟩ ⟨rfl, by decide, .inl e_Missing⟩ ⟨rfl, by decide, .inl e_NothingLeft⟩ hr hgd' (by decide) (by decide) c__law_fields.ok rfl c__law_fields.at_ c__law_fields.kp hL hq
end
section
abbrev N__law_whys : List Str := ["_law_asks", "_law_ask"]
theorem sc__law_whys : FnScope N__law_whys ["_law_asks"] (defScope s__law_whys) := ⟨rfl, rfl, rfl, by decide +kernel, rfl, by decide +kernel, by decide +kernel⟩
theorem nd__law_whys : (N__law_whys).Nodup := by decide +kernel
local macro_rules | `(tactic| walk_at "var") => `(tactic| first
  | (with_reducible refine de_nm (i := 0) (x := "_law_asks") ?a ?b ?c); (case a => rfl); (case b => first | exact Or.inl rfl | exact Or.inr (Or.inl rfl) | exact Or.inr (Or.inr rfl))
  | (with_reducible refine de_nm (i := 1) (x := "_law_ask") ?a ?b ?c); (case a => rfl); (case b => first | exact Or.inl rfl | exact Or.inr (Or.inl rfl) | exact Or.inr (Or.inr rfl)))
local macro_rules | `(tactic| walk_at "comp") => `(tactic| first
  | ((with_reducible show DE _ _ (Expr.ListComp _ _ _ ⟨230, 11, 230, 57⟩) _ _ _); refine de_lcF (own := [("_law_ask", 1)]) rfl (by assumption) (blk_ok (N := N__law_whys) (sc := defScope s__law_whys) (by decide +kernel)) ?_))
local macro_rules | `(tactic| walk_at "tgtc") => `(tactic| first
  | (refine dg_own (i := 1) (x := "_law_ask") (by assumption) rfl rfl rfl ?_))
set_option hygiene false in
local macro_rules | `(tactic| walk_at "call") => `(tactic| first
  | ((with_reducible show DE _ _ (Expr.Call (Expr.Name "_law_why" _) _ [] _) _ _ _); refine de_fnG c__law_why rfl (by assumption) (by assumption) (by decide) (by first | assumption | exact XOk.none) ?_))
local macro_rules | `(tactic| walk_at "spec") => `(tactic| first
  | ((with_reducible show S_lwhy _ _ _ _ _ _ _ _ _ _ _); refine ⟨_, _, rfl, by assumption, ?_⟩))
theorem ok__law_whys {f__law_why C_ShareError C_Missing C_NothingLeft : Addr} {fd__law_why : FuncData} {f : Addr} {fd : FuncData} (F : FunD K "_law_whys" "_law_whys" s__law_whys f fd) (c__law_why : CalG P w K mg base "_law_why" 13 f__law_why fd__law_why ["_law_ask"] (S_lwhy P w K mg base 12 [.ref C_ShareError, .ref C_Missing, .ref C_NothingLeft])) : FnG P w K mg base 14 f fd ["_law_asks"] (LSp K (S_lwhys P w K mg base 12 [.ref C_ShareError, .ref C_Missing, .ref C_NothingLeft])) := by
  refine F.okG sc__law_whys (fun ds M q x h => by first | (obtain ⟨_, rfl, _⟩ := h; rfl) | (obtain ⟨_, _, rfl, _⟩ := h; rfl) | (obtain ⟨_, _, _, rfl, _⟩ := h; rfl) | (obtain ⟨_, _, _, _, rfl, _⟩ := h; rfl) | (obtain ⟨_, _, _, _, _, rfl, _⟩ := h; rfl) | (obtain ⟨_, _, _, _, _, _, rfl, _⟩ := h; rfl) | (obtain ⟨_, _, _, _, _, _, _, rfl, _⟩ := h; rfl) | (obtain ⟨_, _, _, _, _, _, _, _, rfl, _⟩ := h; rfl) | (obtain ⟨_, _, _, _, _, _, _, _, _, rfl, _⟩ := h; rfl) | (obtain ⟨_, _, _, _, _, _, _, _, _, _, rfl, _⟩ := h; rfl) | (obtain ⟨_, _, _, _, _, _, _, _, _, _, _, rfl, _⟩ := h; rfl) | (obtain ⟨_, _, _, _, _, _, _, _, _, _, _, _, rfl, _⟩ := h; rfl)) ?_
  intro cdv A outer s H E hgd hr F0 ds M q x h xok
  have hN := nd__law_whys
  have hgd' : (A.deeper (envOfC "_law_whys" (defScope s__law_whys) s.heap.objs.size f cdv)).guards = some [] := hgd
  obtain ⟨ls, rs, rfl, hl, hp, hq⟩ := h
  refine dss_cons ?_
  repeat' walk_at "one"
  refine di_lst ?_
  repeat' walk_at "one"
  refine lck_mapR rs _ (by omega) hp ?_ fun A2 hA2 => frz_upd ?_ hA2
  · rintro d y hd M7 hex s' H' C' cl' fp'
    repeat' walk_at "one"
    refine ⟨rfl, fun s2 H2 C2 cl2 fp2 q2 hq2 => ?_⟩
    have hd7 := hd.mono hex
    repeat' walk_at "one"
    exact hq2
  exact hq
end
section
abbrev N_added_terms : List Str := ["terms", "found", "name", "factor", "left"]
theorem sc_added_terms : FnScope N_added_terms ["terms"] (defScope s_added_terms) := ⟨rfl, rfl, rfl, by decide +kernel, rfl, by decide +kernel, by decide +kernel⟩
theorem nd_added_terms : (N_added_terms).Nodup := by decide +kernel
local macro_rules | `(tactic| walk_at "var") => `(tactic| first
  | (with_reducible refine de_nm (i := 0) (x := "terms") ?a ?b ?c); (case a => rfl); (case b => first | exact Or.inl rfl | exact Or.inr (Or.inl rfl) | exact Or.inr (Or.inr rfl))
  | (with_reducible refine de_nm (i := 1) (x := "found") ?a ?b ?c); (case a => rfl); (case b => first | exact Or.inl rfl | exact Or.inr (Or.inl rfl) | exact Or.inr (Or.inr rfl))
  | (with_reducible refine de_nm (i := 2) (x := "name") ?a ?b ?c); (case a => rfl); (case b => first | exact Or.inl rfl | exact Or.inr (Or.inl rfl) | exact Or.inr (Or.inr rfl))
  | (with_reducible refine de_nm (i := 3) (x := "factor") ?a ?b ?c); (case a => rfl); (case b => first | exact Or.inl rfl | exact Or.inr (Or.inl rfl) | exact Or.inr (Or.inr rfl))
  | (with_reducible refine de_nm (i := 4) (x := "left") ?a ?b ?c); (case a => rfl); (case b => first | exact Or.inl rfl | exact Or.inr (Or.inl rfl) | exact Or.inr (Or.inr rfl)))
local macro_rules | `(tactic| walk_at "set") => `(tactic| first
  | (with_reducible refine ds_set (i := 1) (x := "found") ?n ?a ?b ?c ?s ?f); (case n => assumption); (case a => rfl); (case b => first | exact Or.inl rfl | exact Or.inr rfl); (case s => rfl); (case f => first | exact Or.inl rfl | exact Or.inr rfl)
  | (with_reducible refine ds_set (i := 4) (x := "left") ?n ?a ?b ?c ?s ?f); (case n => assumption); (case a => rfl); (case b => first | exact Or.inl rfl | exact Or.inr rfl); (case s => rfl); (case f => first | exact Or.inl rfl | exact Or.inr rfl))
local macro_rules | `(tactic| walk_at "tgt") => `(tactic| first
  | (with_reducible refine dg_name (i := 2) (x := "name") ?n ?a ?b ?o ?c ?f); (case n => assumption); (case a => rfl); (case b => first | exact Or.inl rfl | exact Or.inr rfl); (case o => rfl); (case f => first | exact Or.inl rfl | exact Or.inr rfl)
  | (with_reducible refine dg_name (i := 3) (x := "factor") ?n ?a ?b ?o ?c ?f); (case n => assumption); (case a => rfl); (case b => first | exact Or.inl rfl | exact Or.inr rfl); (case o => rfl); (case f => first | exact Or.inl rfl | exact Or.inr rfl))
local macro_rules | `(tactic| walk_at "comp") => `(tactic| first
  | ((with_reducible show DE _ _ (Expr.ListComp _ _ _ ⟨70, 18, 70, 73⟩) _ _ _); refine de_lcF (own := [("name", 2), ("factor", 3)]) rfl (by assumption) (blk_ok (N := N_added_terms) (sc := defScope s_added_terms) (by decide +kernel)) ?_)
  | ((with_reducible show DE _ _ (Expr.ListComp _ _ _ ⟨71, 11, 71, 49⟩) _ _ _); refine de_lcF (own := [("name", 2)]) rfl (by assumption) (blk_ok (N := N_added_terms) (sc := defScope s_added_terms) (by decide +kernel)) ?_))
local macro_rules | `(tactic| walk_at "tgtc") => `(tactic| first
  | (refine dg_own (i := 2) (x := "name") (by assumption) rfl rfl rfl ?_)
  | (refine dg_own (i := 3) (x := "factor") (by assumption) rfl rfl rfl ?_))
set_option hygiene false in
local macro_rules | `(tactic| walk_at "dix") => `(tactic| first
  | ((with_reducible show DE _ _ (Expr.Subscript _ _ ⟨71, 19, 71, 30⟩) _ _ _); refine de_dixF (by assumption) ?_))
set_option hygiene false in
local macro_rules | `(tactic| walk_at "dput") => `(tactic| first
  | ((with_reducible show DS _ _ (Stmt.Assign [Expr.Subscript _ _ ⟨69, 8, 69, 19⟩] _ _) _ _ _); refine ds_dput (by assumption) ?_))
theorem ok_added_terms {f : Addr} {fd : FuncData} (F : FunD K "added_terms" "added_terms" s_added_terms f fd) (m_sorted : mg "sorted" = none) : FnOk P w K mg base (L2.CX P w) 1 f fd ["terms"] (LSp K S_added) := by
  refine F.ok sc_added_terms (fun ds M q x h => by first | (obtain ⟨_, rfl, _⟩ := h; rfl) | (obtain ⟨_, _, rfl, _⟩ := h; rfl) | (obtain ⟨_, _, _, rfl, _⟩ := h; rfl) | (obtain ⟨_, _, _, _, rfl, _⟩ := h; rfl) | (obtain ⟨_, _, _, _, _, rfl, _⟩ := h; rfl) | (obtain ⟨_, _, _, _, _, _, rfl, _⟩ := h; rfl) | (obtain ⟨_, _, _, _, _, _, _, rfl, _⟩ := h; rfl) | (obtain ⟨_, _, _, _, _, _, _, _, rfl, _⟩ := h; rfl) | (obtain ⟨_, _, _, _, _, _, _, _, _, rfl, _⟩ := h; rfl) | (obtain ⟨_, _, _, _, _, _, _, _, _, _, rfl, _⟩ := h; rfl) | (obtain ⟨_, _, _, _, _, _, _, _, _, _, _, rfl, _⟩ := h; rfl) | (obtain ⟨_, _, _, _, _, _, _, _, _, _, _, _, rfl, _⟩ := h; rfl)) ?_
  intro cdv A outer s H E hr F0 ds M q x h xok
  have hN := nd_added_terms
  obtain ⟨ts, d, rfl, hd, hl, hq⟩ := h
  have hlm : (ts.map termD).length = ts.length := List.length_map ..
  refine dss_cons ?_
  repeat' walk_at "one"
  rename_i fp hfp
  refine ds_meet (fun ρ M' => ∃ acc, Acc ts acc ∧ M' fp = some (.dct (keysT acc) (valsT acc)) ∧ (∀ b, b ≠ fp → M' b = M b) ∧ ∃ c2 c3 c4, ρ = [some (d), some (.ptr fp), c2, c3, c4]) ?_ ?_
  · have hd' := hd
    rcases hd with hd | hd
    · refine ds_for pass_body rfl (di_lst ?_)
      repeat' walk_at "one"
      refine ⟨ts.map termD, hd, ?_⟩
      refine dloop_inv (fun k ρ M' => ∃ acc, Acc (ts.take k) acc ∧ M' fp = some (.dct (keysT acc) (valsT acc)) ∧ (∀ b, b ≠ fp → M' b = M b) ∧ ∃ c2 c3 c4, ρ = [some (d), some (.ptr fp), c2, c3, c4]) _ 0 _ _ ⟨[], Acc.nil, updM_same, fun b h => updM_ne h, _, _, _, rfl⟩ ?_ ?_
      · rintro j y ρ M' hj ⟨acc, hA, hM, hS, c2, c3, c4, rfl⟩
        rw [Nat.zero_add] at hA
        rw [List.getElem?_map] at hj
        obtain ⟨t, ht, rfl⟩ := Option.map_eq_some_iff.mp hj
        repeat' walk_at "one"
        rw [valT hA.nd]
        repeat' walk_at "one"
        have hal := hA.len
        rw [List.length_take] at hal
        refine ⟨_, _, _, _, rfl, hM, keyD_s, ?_, ?_⟩
        · unfold keysT
          rw [List.length_map]
          omega
        rw [putT_is]
        repeat' walk_at "one"
        refine ⟨_, ?_, updM_same, fun b h => by rw [updM_ne h]; exact hS b h, _, _, _, rfl⟩
        rw [Nat.zero_add, List.take_add_one, ht]
        exact hA.put t
      · rintro ρ M' ⟨acc, hA, hM, hS, c2, c3, c4, rfl⟩
        rw [Nat.zero_add, hlm, List.take_length] at hA
        exact ⟨acc, hA, hM, hS, _, _, _, rfl⟩
    · refine ds_for pass_body rfl (di_tup ?_)
      repeat' walk_at "one"
      refine ⟨ts.map termD, hd, ?_⟩
      refine dloop_inv (fun k ρ M' => ∃ acc, Acc (ts.take k) acc ∧ M' fp = some (.dct (keysT acc) (valsT acc)) ∧ (∀ b, b ≠ fp → M' b = M b) ∧ ∃ c2 c3 c4, ρ = [some (d), some (.ptr fp), c2, c3, c4]) _ 0 _ _ ⟨[], Acc.nil, updM_same, fun b h => updM_ne h, _, _, _, rfl⟩ ?_ ?_
      · rintro j y ρ M' hj ⟨acc, hA, hM, hS, c2, c3, c4, rfl⟩
        rw [Nat.zero_add] at hA
        rw [List.getElem?_map] at hj
        obtain ⟨t, ht, rfl⟩ := Option.map_eq_some_iff.mp hj
        repeat' walk_at "one"
        rw [valT hA.nd]
        repeat' walk_at "one"
        have hal := hA.len
        rw [List.length_take] at hal
        refine ⟨_, _, _, _, rfl, hM, keyD_s, ?_, ?_⟩
        · unfold keysT
          rw [List.length_map]
          omega
        rw [putT_is]
        repeat' walk_at "one"
        refine ⟨_, ?_, updM_same, fun b h => by rw [updM_ne h]; exact hS b h, _, _, _, rfl⟩
        rw [Nat.zero_add, List.take_add_one, ht]
        exact hA.put t
      · rintro ρ M' ⟨acc, hA, hM, hS, c2, c3, c4, rfl⟩
        rw [Nat.zero_add, hlm, List.take_length] at hA
        exact ⟨acc, hA, hM, hS, _, _, _, rfl⟩
  rintro ρ' M2 ⟨acc, hA, hM, hS, c2, c3, c4, rfl⟩
  have hal := hA.len
  refine dss_lockD (i := 1) rfl hM ?_
  rw [delM_back hfp hS]
  repeat' walk_at "one"
  refine di_items ?_
  repeat' walk_at "one"
  refine ⟨_, _, rfl, ?_⟩
  rw [show itemsD (keysT acc) (valsT acc) = acc.map termD by unfold itemsD; rw [zip_kv, List.map_map]; rfl]
  refine lck_filt (fun d => match d with | .tup [_, .int i] => !decide (i = 0) | _ => false) (fun d => match d with | .tup [n, _] => n | _ => .non) (by rw [List.length_map]; omega) ?_ fun A2 hA2 => frz_upd ?_ hA2
  · rintro y hy M7 hex s' H' C' cl' fp'
    obtain ⟨t, ht, rfl⟩ := List.mem_map.mp hy
    repeat' walk_at "one"
    refine ⟨rfl, fun s2 H2 C2 cl2 fp2 q2 hq2 => ?_, fun hg s2 H2 C2 cl2 fp2 q2 hq2 => ?_⟩
    · repeat' walk_at "one"
      exact hq2
    · repeat' walk_at "one"
      exact hq2
  rw [List.filter_map, List.map_map, show List.map (_ ∘ termD) _ = ((acc.filter fun t => !decide (t.2 = 0)).map (·.1)).map Dat.str by rw [List.map_map]; rfl]
  repeat' walk_at "one"
  have hfl : (acc.filter fun t => !decide (t.2 = 0)).length ≤ acc.length := List.length_filter_le ..
  refine dcl_sortedT (by rw [List.length_map]; omega) fun zs hp hs => ?_
  have hzl : zs.length ≤ 60 := by rw [hp.length_eq, List.length_map]; omega
  repeat' walk_at "one"
  refine di_lst ?_
  repeat' walk_at "one"
  refine lck_map (fun d => .tup [d, .int (sumT acc (strOf d))]) (by rw [List.length_map]; omega) ?_ fun A3 hA3 => frz_upd ?_ hA3
  · rintro y hy M7 hex s' H' C' cl' fp'
    obtain ⟨n, hn, rfl⟩ := List.mem_map.mp hy
    have hm : n ∈ acc.map (·.1) := by
      obtain ⟨t, ht, rfl⟩ := List.mem_map.mp (hp.mem_iff.mp hn)
      exact List.mem_map_of_mem (List.mem_filter.mp ht).1
    repeat' walk_at "one"
    refine ⟨rfl, fun s2 H2 C2 cl2 fp2 q2 hq2 => ?_⟩
    repeat' walk_at "one"
    refine ⟨_, valT_at hA.nd hm, ?_⟩
    repeat' walk_at "one"
    exact hq2
  rw [List.map_map]
  have hj := hq _ (hA.join hp hs)
  rw [List.map_map] at hj
  exact hj
end
section
abbrev N_is_number : List Str := ["value", "least", "most"]
theorem sc_is_number : FnScope N_is_number ["value", "least", "most"] (defScope s_is_number) := ⟨rfl, rfl, rfl, by decide +kernel, rfl, by decide +kernel, by decide +kernel⟩
theorem nd_is_number : (N_is_number).Nodup := by decide +kernel
local macro_rules | `(tactic| walk_at "var") => `(tactic| first
  | (with_reducible refine de_nm (i := 0) (x := "value") ?a ?b ?c); (case a => rfl); (case b => first | exact Or.inl rfl | exact Or.inr (Or.inl rfl) | exact Or.inr (Or.inr rfl))
  | (with_reducible refine de_nm (i := 1) (x := "least") ?a ?b ?c); (case a => rfl); (case b => first | exact Or.inl rfl | exact Or.inr (Or.inl rfl) | exact Or.inr (Or.inr rfl))
  | (with_reducible refine de_nm (i := 2) (x := "most") ?a ?b ?c); (case a => rfl); (case b => first | exact Or.inl rfl | exact Or.inr (Or.inl rfl) | exact Or.inr (Or.inr rfl)))
theorem ok_is_number {f : Addr} {fd : FuncData} (F : FunD K "is_number" "is_number" s_is_number f fd) (m_isinstance : mg "isinstance" = none) (m_int : mg "int" = none) (m_bool : mg "bool" = none) : FnOk P w K mg base (L2.CX P w) 1 f fd ["value", "least", "most"] (LSp K S_is_number) := by
  refine F.ok sc_is_number (fun ds M q x h => by first | (obtain ⟨_, rfl, _⟩ := h; rfl) | (obtain ⟨_, _, rfl, _⟩ := h; rfl) | (obtain ⟨_, _, _, rfl, _⟩ := h; rfl) | (obtain ⟨_, _, _, _, rfl, _⟩ := h; rfl) | (obtain ⟨_, _, _, _, _, rfl, _⟩ := h; rfl) | (obtain ⟨_, _, _, _, _, _, rfl, _⟩ := h; rfl) | (obtain ⟨_, _, _, _, _, _, _, rfl, _⟩ := h; rfl) | (obtain ⟨_, _, _, _, _, _, _, _, rfl, _⟩ := h; rfl) | (obtain ⟨_, _, _, _, _, _, _, _, _, rfl, _⟩ := h; rfl) | (obtain ⟨_, _, _, _, _, _, _, _, _, _, rfl, _⟩ := h; rfl) | (obtain ⟨_, _, _, _, _, _, _, _, _, _, _, rfl, _⟩ := h; rfl) | (obtain ⟨_, _, _, _, _, _, _, _, _, _, _, _, rfl, _⟩ := h; rfl)) ?_
  intro cdv A outer s H E hr F0 ds M q x h xok
  have hN := nd_is_number
  obtain ⟨d, n, a, b, _, rfl, hn, rfl, hq⟩ := h
  refine dss_cons ?_
  cases d
  case int i =>
    repeat walk_at "one"
    · rw [numD_t (by assumption)] at hq
      exact hq
    · rw [numD_f (by assumption)] at hq
      exact hq
  all_goals first
    | (exfalso; cases hn; done)
    | (repeat walk_at "one"
       exact hq)
end
section
abbrev N_is_name : List Str := ["value", "letter"]
theorem sc_is_name : FnScope N_is_name ["value"] (defScope s_is_name) := ⟨rfl, rfl, rfl, by decide +kernel, rfl, by decide +kernel, by decide +kernel⟩
theorem nd_is_name : (N_is_name).Nodup := by decide +kernel
local macro_rules | `(tactic| walk_at "var") => `(tactic| first
  | (with_reducible refine de_nm (i := 0) (x := "value") ?a ?b ?c); (case a => rfl); (case b => first | exact Or.inl rfl | exact Or.inr (Or.inl rfl) | exact Or.inr (Or.inr rfl))
  | (with_reducible refine de_nm (i := 1) (x := "letter") ?a ?b ?c); (case a => rfl); (case b => first | exact Or.inl rfl | exact Or.inr (Or.inl rfl) | exact Or.inr (Or.inr rfl)))
local macro_rules | `(tactic| walk_at "comp") => `(tactic| first
  | ((with_reducible show DE _ _ (Expr.ListComp _ _ _ ⟨43, 15, 43, 54⟩) _ _ _); refine de_lcF (own := [("letter", 1)]) rfl (by assumption) (blk_ok (N := N_is_name) (sc := defScope s_is_name) (by decide +kernel)) ?_))
local macro_rules | `(tactic| walk_at "tgtc") => `(tactic| first
  | (refine dg_own (i := 1) (x := "letter") (by assumption) rfl rfl rfl ?_))
set_option hygiene false in
local macro_rules | `(tactic| walk_at "glob") => `(tactic| first
  | ((with_reducible show DE _ _ (Expr.Name "MOST_LETTERS" _) _ _ _); refine de_glob g_MOST_LETTERS rfl ?_)
  | ((with_reducible show DE _ _ (Expr.Name "LETTERS" _) _ _ _); refine de_glob g_LETTERS rfl ?_))
theorem ok_is_name {f : Addr} {fd : FuncData} (F : FunD K "is_name" "is_name" s_is_name f fd) (m_all : mg "all" = none) (m_isinstance : mg "isinstance" = none) (m_str : mg "str" = none) (g_MOST_LETTERS : GlobD K mg "MOST_LETTERS" (.int 8)) (g_LETTERS : GlobD K mg "LETTERS" (.str "abcdefghijklmnopqrstuvwxyz")) (m_len : mg "len" = none) : FnOk P w K mg base (L2.CX P w) 1 f fd ["value"] (LSp K S_is_name) := by
  refine F.ok sc_is_name (fun ds M q x h => by first | (obtain ⟨_, rfl, _⟩ := h; rfl) | (obtain ⟨_, _, rfl, _⟩ := h; rfl) | (obtain ⟨_, _, _, rfl, _⟩ := h; rfl) | (obtain ⟨_, _, _, _, rfl, _⟩ := h; rfl) | (obtain ⟨_, _, _, _, _, rfl, _⟩ := h; rfl) | (obtain ⟨_, _, _, _, _, _, rfl, _⟩ := h; rfl) | (obtain ⟨_, _, _, _, _, _, _, rfl, _⟩ := h; rfl) | (obtain ⟨_, _, _, _, _, _, _, _, rfl, _⟩ := h; rfl) | (obtain ⟨_, _, _, _, _, _, _, _, _, rfl, _⟩ := h; rfl) | (obtain ⟨_, _, _, _, _, _, _, _, _, _, rfl, _⟩ := h; rfl) | (obtain ⟨_, _, _, _, _, _, _, _, _, _, _, rfl, _⟩ := h; rfl) | (obtain ⟨_, _, _, _, _, _, _, _, _, _, _, _, rfl, _⟩ := h; rfl)) ?_
  intro cdv A outer s H E hr F0 ds M q x h xok
  have hN := nd_is_name
  rw [abc_is] at g_LETTERS
  obtain ⟨d, n, _, rfl, hn, hz, rfl, hq⟩ := h
  refine dss_cons ?_
  cases d
  case str z =>
    have hz1 := hz z rfl
    repeat walk_at "one"
    · rw [nameD_f (by omega)] at hq
      exact hq
    · refine di_str ?_
      repeat walk_at "one"
      refine lck_map letD ?_ ?_ fun A1 hA1 => frz_upd ?_ hA1
      · show (z.cps.toList.map _).length ≤ _
        rw [List.length_map, Array.length_toList]
        exact hz1
      · rintro d hd M' hex s' H' C' cl' fp'
        obtain ⟨c, hc, rfl⟩ := List.mem_map.mp hd
        repeat walk_at "one"
        refine ⟨rfl, fun s2 H2 C2 cl2 fp2 q2 hq2 => ?_⟩
        repeat walk_at "one"
        exact hq2
      · repeat walk_at "one"
        rw [show (DL.signs z).map letD = (z.cps.toList.map fun c => decide (c ∈ abcL)).map Dat.bl by unfold DL.signs; rw [List.map_map, List.map_map]; rfl]
        refine dcl_all rfl ?_
        rw [List.all_map]
        rw [nameD_t (by omega)] at hq
        exact hq
    · rw [nameD_f (by omega)] at hq
      exact hq
  all_goals first
    | (exfalso; cases hn; done)
    | (repeat walk_at "one"
       exact hq)
end
section
abbrev N_is_term : List Str := ["value"]
theorem sc_is_term : FnScope N_is_term ["value"] (defScope s_is_term) := ⟨rfl, rfl, rfl, by decide +kernel, rfl, by decide +kernel, by decide +kernel⟩
theorem nd_is_term : (N_is_term).Nodup := by decide +kernel
local macro_rules | `(tactic| walk_at "var") => `(tactic| first
  | (with_reducible refine de_nm (i := 0) (x := "value") ?a ?b ?c); (case a => rfl); (case b => first | exact Or.inl rfl | exact Or.inr (Or.inl rfl) | exact Or.inr (Or.inr rfl)))
set_option hygiene false in
local macro_rules | `(tactic| walk_at "call") => `(tactic| first
  | ((with_reducible show DE _ _ (Expr.Call (Expr.Name "is_number" _) (_ :: _) [] _) _ _ _); refine de_fn c_is_number rfl (by assumption) (by decide) (by first | assumption | exact XOk.none) ?_)
  | ((with_reducible show DE _ _ (Expr.Call (Expr.Name "is_name" _) (_ :: _) [] _) _ _ _); refine de_fn c_is_name rfl (by assumption) (by decide) (by first | assumption | exact XOk.none) ?_))
set_option hygiene false in
local macro_rules | `(tactic| walk_at "glob") => `(tactic| first
  | ((with_reducible show DE _ _ (Expr.Name "MOST_FACTOR" _) _ _ _); refine de_glob g_MOST_FACTOR rfl ?_))
local macro_rules | `(tactic| walk_at "spec") => `(tactic| first
  | ((with_reducible show S_is_name _ _ _ _); refine ⟨_, _, _, rfl, by assumption, by assumption, rfl, ?_⟩)
  | ((with_reducible show S_is_number _ _ _ _); refine ⟨_, _, _, _, _, rfl, by assumption, rfl, ?_⟩))
local macro_rules | `(tactic| walk_at "own") => `(tactic| walk_at "spec")
theorem ok_is_term {f_is_number f_is_name : Addr} {fd_is_number fd_is_name : FuncData} {f : Addr} {fd : FuncData} (F : FunD K "is_term" "is_term" s_is_term f fd) (c_is_number : Cal P w K mg base "is_number" 1 f_is_number fd_is_number ["value", "least", "most"] S_is_number) (g_MOST_FACTOR : GlobD K mg "MOST_FACTOR" (.int 1000)) (m_isinstance : mg "isinstance" = none) (m_tuple : mg "tuple" = none) (m_len : mg "len" = none) (c_is_name : Cal P w K mg base "is_name" 1 f_is_name fd_is_name ["value"] S_is_name) : FnOk P w K mg base (L2.CX P w) 2 f fd ["value"] (LSp K S_isterm) := by
  refine F.ok sc_is_term (fun ds M q x h => by first | (obtain ⟨_, rfl, _⟩ := h; rfl) | (obtain ⟨_, _, rfl, _⟩ := h; rfl) | (obtain ⟨_, _, _, rfl, _⟩ := h; rfl) | (obtain ⟨_, _, _, _, rfl, _⟩ := h; rfl) | (obtain ⟨_, _, _, _, _, rfl, _⟩ := h; rfl) | (obtain ⟨_, _, _, _, _, _, rfl, _⟩ := h; rfl) | (obtain ⟨_, _, _, _, _, _, _, rfl, _⟩ := h; rfl) | (obtain ⟨_, _, _, _, _, _, _, _, rfl, _⟩ := h; rfl) | (obtain ⟨_, _, _, _, _, _, _, _, _, rfl, _⟩ := h; rfl) | (obtain ⟨_, _, _, _, _, _, _, _, _, _, rfl, _⟩ := h; rfl) | (obtain ⟨_, _, _, _, _, _, _, _, _, _, _, rfl, _⟩ := h; rfl) | (obtain ⟨_, _, _, _, _, _, _, _, _, _, _, _, rfl, _⟩ := h; rfl)) ?_
  intro cdv A outer s H E hr F0 ds M q x h xok
  have hN := nd_is_term
  obtain ⟨d, _, rfl, hT, rfl, hq⟩ := h
  obtain ⟨n, hn⟩ := hT.ty
  refine dss_cons ?_
  cases d
  case tup es =>
    obtain ⟨hf, hl, hs⟩ := hT.es es rfl
    by_cases h3 : es.length = 2
    · match es, h3 with
      | [a, b], _ =>
        have hf' := List.all_eq_true.mp hf
        have fa : flatD a = true := hf' a (by simp)
        have fb : flatD b = true := hf' b (by simp)
        obtain ⟨na, ha⟩ := flat_ty fa
        obtain ⟨nb, hb⟩ := flat_ty fb
        have sa : ∀ s, a = .str s → s.length ≤ 100000 := fun s e => hs s (by rw [← e]; simp)
        have hq' : q (.bl (nameD a && numD b (-1000) 1000)) M := hq
        clear hq hf hl hs hf'
        repeat' walk_at "one"
        all_goals first
          | (have e1 := ‹nameD a = true›
             rw [e1] at hq'
             exact hq')
          | (have e1 := ‹nameD a = false›
             rw [e1] at hq'
             exact hq')
    · rw [isTerm_len h3] at hq
      have h3' : ¬ (es.length : Int) = 2 := by omega
      repeat' walk_at "one"
      all_goals exact hq
  all_goals first
    | (exfalso; cases hn; done)
    | (repeat' walk_at "one"
       all_goals exact hq)
end
section
abbrev N_Fact___init__ : List Str := ["self", "most", "terms", "at", "term"]
theorem sc_Fact___init__ : FnScope N_Fact___init__ ["self", "most", "terms"] (defScope s_Fact___init__) := ⟨rfl, rfl, rfl, by decide +kernel, rfl, by decide +kernel, by decide +kernel⟩
theorem nd_Fact___init__ : (N_Fact___init__).Nodup := by decide +kernel
local macro_rules | `(tactic| walk_at "var") => `(tactic| first
  | (with_reducible refine de_nm (i := 0) (x := "self") ?a ?b ?c); (case a => rfl); (case b => first | exact Or.inl rfl | exact Or.inr (Or.inl rfl) | exact Or.inr (Or.inr rfl))
  | (with_reducible refine de_nm (i := 1) (x := "most") ?a ?b ?c); (case a => rfl); (case b => first | exact Or.inl rfl | exact Or.inr (Or.inl rfl) | exact Or.inr (Or.inr rfl))
  | (with_reducible refine de_nm (i := 2) (x := "terms") ?a ?b ?c); (case a => rfl); (case b => first | exact Or.inl rfl | exact Or.inr (Or.inl rfl) | exact Or.inr (Or.inr rfl))
  | (with_reducible refine de_nm (i := 3) (x := "at") ?a ?b ?c); (case a => rfl); (case b => first | exact Or.inl rfl | exact Or.inr (Or.inl rfl) | exact Or.inr (Or.inr rfl))
  | (with_reducible refine de_nm (i := 4) (x := "term") ?a ?b ?c); (case a => rfl); (case b => first | exact Or.inl rfl | exact Or.inr (Or.inl rfl) | exact Or.inr (Or.inr rfl)))
local macro_rules | `(tactic| walk_at "tgt") => `(tactic| first
  | (with_reducible refine dg_name (i := 3) (x := "at") ?n ?a ?b ?o ?c ?f); (case n => assumption); (case a => rfl); (case b => first | exact Or.inl rfl | exact Or.inr rfl); (case o => rfl); (case f => first | exact Or.inl rfl | exact Or.inr rfl)
  | (with_reducible refine dg_name (i := 4) (x := "term") ?n ?a ?b ?o ?c ?f); (case n => assumption); (case a => rfl); (case b => first | exact Or.inl rfl | exact Or.inr rfl); (case o => rfl); (case f => first | exact Or.inl rfl | exact Or.inr rfl))
set_option hygiene false in
local macro_rules | `(tactic| walk_at "call") => `(tactic| first
  | ((with_reducible show DE _ _ (Expr.Call (Expr.Name "added_terms" _) (_ :: _) [] _) _ _ _); refine de_fn c_added_terms rfl (by assumption) (by decide) (by first | assumption | exact XOk.none) ?_)
  | ((with_reducible show DE _ _ (Expr.Call (Expr.Name "is_number" _) (_ :: _) [] _) _ _ _); refine de_fn c_is_number rfl (by assumption) (by decide) (by first | assumption | exact XOk.none) ?_)
  | ((with_reducible show DE _ _ (Expr.Call (Expr.Name "is_term" _) (_ :: _) [] _) _ _ _); refine de_fn c_is_term rfl (by assumption) (by decide) (by first | assumption | exact XOk.none) ?_))
set_option hygiene false in
local macro_rules | `(tactic| walk_at "glob") => `(tactic| first
  | ((with_reducible show DE _ _ (Expr.Name "MOST_SIDE" _) _ _ _); refine de_glob g_MOST_SIDE rfl ?_)
  | ((with_reducible show DE _ _ (Expr.Name "InvalidNumber" _) _ _ _); refine de_glob T_InvalidNumber.g rfl ?_)
  | ((with_reducible show DE _ _ (Expr.Name "NoTerms" _) _ _ _); refine de_glob T_NoTerms.g rfl ?_)
  | ((with_reducible show DE _ _ (Expr.Name "InvalidTerm" _) _ _ _); refine de_glob T_InvalidTerm.g rfl ?_))
set_option hygiene false in
local macro_rules | `(tactic| walk_at "s") => `(tactic| first
  | ((with_reducible show DS _ _ (Stmt.Raise (some (Expr.Call (Expr.Name "InvalidNumber" _) [_] [] _)) _ _) _ _ _); refine ds_raise1 x_InvalidNumber (Room.mono (by assumption) (by decide)) rfl xok rfl ?_)
  | ((with_reducible show DS _ _ (Stmt.Raise (some (Expr.Call (Expr.Name "NoTerms" _) [] [] _)) _ _) _ _ _); refine ds_raise0 x_NoTerms (Room.mono (by assumption) (by decide)) rfl xok rfl ?_)
  | ((with_reducible show DS _ _ (Stmt.Raise (some (Expr.Call (Expr.Name "InvalidTerm" _) [_] [] _)) _ _) _ _ _); refine ds_raise1 x_InvalidTerm (Room.mono (by assumption) (by decide)) rfl xok rfl ?_))
local macro_rules | `(tactic| walk_at "spec") => `(tactic| first
  | ((with_reducible show S_isterm _ _ _ _); refine ⟨_, _, rfl, by assumption, by assumption, ?_⟩)
  | ((with_reducible show S_is_number _ _ _ _); refine ⟨_, _, _, _, _, rfl, by assumption, by assumption, ?_⟩))
theorem ok_Fact___init__ {f_added_terms f_is_number C_InvalidNumber C_NoTerms f_is_term C_InvalidTerm C_Fact : Addr} {fd_added_terms fd_is_number fd_is_term : FuncData} {f : Addr} {fd : FuncData} (F : FunD K "__init__" "Fact.__init__" s_Fact___init__ f fd) (m_enumerate : mg "enumerate" = none) (c_added_terms : Cal P w K mg base "added_terms" 1 f_added_terms fd_added_terms ["terms"] S_added) (c_is_number : Cal P w K mg base "is_number" 1 f_is_number fd_is_number ["value", "least", "most"] S_is_number) (g_MOST_SIDE : GlobD K mg "MOST_SIDE" (.int 1000000)) (x_InvalidNumber : Xn1 P K mg "InvalidNumber" C_InvalidNumber "given" "InvalidNumber") (x_NoTerms : Xn0 P K mg "NoTerms" C_NoTerms "NoTerms") (c_is_term : Cal P w K mg base "is_term" 2 f_is_term fd_is_term ["value"] S_isterm) (x_InvalidTerm : Xn1 P K mg "InvalidTerm" C_InvalidTerm "at" "InvalidTerm") (T_Fact : CT K mg "Fact" C_Fact) (n_Fact_own_terms : NoAttr K C_Fact "own_terms") (n_Fact_own_most : NoAttr K C_Fact "own_most") : FnV P w K mg base 3 f fd ["self", "most"] "terms" (S_finit C_Fact ⟨C_InvalidTerm, C_InvalidNumber, C_NoTerms⟩) := by
  refine F.okV (ps := ["self", "most"]) (pv := "terms") sc_Fact___init__ (fun ds M q x h => by first | (obtain ⟨_, rfl, _⟩ := h; rfl) | (obtain ⟨_, _, rfl, _⟩ := h; rfl) | (obtain ⟨_, _, _, rfl, _⟩ := h; rfl) | (obtain ⟨_, _, _, _, rfl, _⟩ := h; rfl) | (obtain ⟨_, _, _, _, _, rfl, _⟩ := h; rfl) | (obtain ⟨_, _, _, _, _, _, rfl, _⟩ := h; rfl) | (obtain ⟨_, _, _, _, _, _, _, rfl, _⟩ := h; rfl) | (obtain ⟨_, _, _, _, _, _, _, _, rfl, _⟩ := h; rfl) | (obtain ⟨_, _, _, _, _, _, _, _, _, rfl, _⟩ := h; rfl) | (obtain ⟨_, _, _, _, _, _, _, _, _, _, rfl, _⟩ := h; rfl) | (obtain ⟨_, _, _, _, _, _, _, _, _, _, _, rfl, _⟩ := h; rfl) | (obtain ⟨_, _, _, _, _, _, _, _, _, _, _, _, rfl, _⟩ := h; rfl)) ?_
  intro cdv A outer s H E hr F0 ds M q x h xok
  have hN := nd_Fact___init__
  have cl_Fact := T_Fact.ok.cls
  obtain ⟨a, m, n, rs, rfl, hn, hM, hl, hT, hE⟩ := h
  have upM : ∀ e, (∀ o, x e (updM M a o)) → x e M := fun e h => by
    have h2 := h (.obj C_Fact [] [])
    rwa [updM_self hM] at h2
  unfold fEnd at hE
  refine dss_cons ?_
  refine ds_for pass_body rfl ?_
  refine di_enumT rfl (by assumption) ?_
  repeat' walk_at "one"
  refine dloop_inv (fun k ρ M' => M' = M ∧ badT 0 rs = badT k (rs.drop k) ∧ ∃ c3 c4, ρ = [some (.ptr a), some (m), some (.tup rs), c3, c4]) _ 0 _ _ ⟨rfl, rfl, _, _, rfl⟩ ?_ ?_
  · rintro j d ρ M' hj ⟨rfl, hbad, c3, c4, rfl⟩
    obtain ⟨y, hy, rfl⟩ := enumD_get hj
    have hTy := hT y (List.mem_of_getElem? hy)
    rw [Nat.zero_add] at hbad
    rw [drop_at hy] at hbad
    rw [badT_cons] at hbad
    cases hb : isTermB y with
    | true =>
      rw [hb, if_pos rfl] at hbad
      repeat' walk_at "one"
      exact ⟨rfl, by rw [Nat.zero_add]; exact hbad, _, _, rfl⟩
    | false =>
      rw [hb, if_neg Bool.false_ne_true] at hbad
      rw [hbad] at hE
      repeat' walk_at "one"
      rw [Nat.zero_add]
      exact upM _ hE
  rintro ρ M' ⟨rfl, hbad, c3, c4, rfl⟩
  rw [Nat.zero_add, enumD_len, List.drop_length] at hbad
  have hall := badT_none (hbad.trans rfl)
  rw [hbad] at hE
  have hE : if numD m (-1000000) 1000000 = true then ∀ ts r : List Term, rs = ts.map termD → (∀ t ∈ ts, TermG t) → IsJoin ts r → (r = [] → ∀ o, x (noTX C_NoTerms) (updM M' a o)) ∧ (r ≠ [] → q .non (updM M' a (.obj C_Fact ["own_terms", "own_most"] [.lst (r.map termD), m]))) else ∀ o, x (numX C_InvalidNumber m) (updM M' a o) := hE
  obtain ⟨ts, rfl, hG⟩ := terms_of hall
  by_cases hb : numD m (-1000000) 1000000 = true
  · rw [if_pos hb] at hE
    repeat' walk_at "one"
    refine ⟨ts, _, rfl, .inr rfl, by rw [List.length_map] at hl; exact hl, fun r hj => ?_⟩
    obtain ⟨h1, h2⟩ := hE ts r rfl hG hj
    repeat' walk_at "one"
    have hrG : ∀ t ∈ r, StrG t.1 ∧ True := fun t ht => ⟨by
      obtain ⟨u, hu, e⟩ := List.mem_map.mp (hj.mem_of ht)
      rw [← e]
      exact name_strG (hG u hu).nm, trivial⟩
    refine terms_nil.eqD (a := r) (b := []) hrG (fun t ht => by cases ht) ?_
    by_cases hr0 : r = []
    · rw [decide_eq_true hr0]
      repeat' walk_at "one"
      rw [updM_updM]
      exact h1 hr0 _
    · rw [decide_eq_false hr0]
      repeat' walk_at "one"
      rw [updM_updM]
      exact h2 hr0
  · rw [if_neg hb] at hE
    have hb := Bool.eq_false_iff.mpr hb
    repeat' walk_at "one"
    exact upM _ hE
end
section
abbrev N_Fact_factor : List Str := ["self", "name", "one", "factor"]
theorem sc_Fact_factor : FnScope N_Fact_factor ["self", "name"] (defScope s_Fact_factor) := ⟨rfl, rfl, rfl, by decide +kernel, rfl, by decide +kernel, by decide +kernel⟩
theorem nd_Fact_factor : (N_Fact_factor).Nodup := by decide +kernel
local macro_rules | `(tactic| walk_at "var") => `(tactic| first
  | (with_reducible refine de_nm (i := 0) (x := "self") ?a ?b ?c); (case a => rfl); (case b => first | exact Or.inl rfl | exact Or.inr (Or.inl rfl) | exact Or.inr (Or.inr rfl))
  | (with_reducible refine de_nm (i := 1) (x := "name") ?a ?b ?c); (case a => rfl); (case b => first | exact Or.inl rfl | exact Or.inr (Or.inl rfl) | exact Or.inr (Or.inr rfl))
  | (with_reducible refine de_nm (i := 2) (x := "one") ?a ?b ?c); (case a => rfl); (case b => first | exact Or.inl rfl | exact Or.inr (Or.inl rfl) | exact Or.inr (Or.inr rfl))
  | (with_reducible refine de_nm (i := 3) (x := "factor") ?a ?b ?c); (case a => rfl); (case b => first | exact Or.inl rfl | exact Or.inr (Or.inl rfl) | exact Or.inr (Or.inr rfl)))
local macro_rules | `(tactic| walk_at "comp") => `(tactic| first
  | ((with_reducible show DE _ _ (Expr.ListComp _ _ _ ⟨157, 19, 157, 76⟩) _ _ _); refine de_lcF (own := [("one", 2), ("factor", 3)]) rfl (by assumption) (blk_ok (N := N_Fact_factor) (sc := defScope s_Fact_factor) (by decide +kernel)) ?_))
local macro_rules | `(tactic| walk_at "tgtc") => `(tactic| first
  | (refine dg_own (i := 2) (x := "one") (by assumption) rfl rfl rfl ?_)
  | (refine dg_own (i := 3) (x := "factor") (by assumption) rfl rfl rfl ?_))
theorem ok_Fact_factor {C_Fact : Addr} {f : Addr} {fd : FuncData} (F : FunD K "factor" "Fact.factor" s_Fact_factor f fd) (m_sum : mg "sum" = none) (T_Fact : CT K mg "Fact" C_Fact) (n_Fact_own_terms : NoAttr K C_Fact "own_terms") : FnOk P w K mg base (L2.CX P w) 1 f fd ["self", "name"] (LSp K (S_factor C_Fact)) := by
  refine F.ok sc_Fact_factor (fun ds M q x h => by first | (obtain ⟨_, rfl, _⟩ := h; rfl) | (obtain ⟨_, _, rfl, _⟩ := h; rfl) | (obtain ⟨_, _, _, rfl, _⟩ := h; rfl) | (obtain ⟨_, _, _, _, rfl, _⟩ := h; rfl) | (obtain ⟨_, _, _, _, _, rfl, _⟩ := h; rfl) | (obtain ⟨_, _, _, _, _, _, rfl, _⟩ := h; rfl) | (obtain ⟨_, _, _, _, _, _, _, rfl, _⟩ := h; rfl) | (obtain ⟨_, _, _, _, _, _, _, _, rfl, _⟩ := h; rfl) | (obtain ⟨_, _, _, _, _, _, _, _, _, rfl, _⟩ := h; rfl) | (obtain ⟨_, _, _, _, _, _, _, _, _, _, rfl, _⟩ := h; rfl) | (obtain ⟨_, _, _, _, _, _, _, _, _, _, _, rfl, _⟩ := h; rfl) | (obtain ⟨_, _, _, _, _, _, _, _, _, _, _, _, rfl, _⟩ := h; rfl)) ?_
  intro cdv A outer s H E hr F0 ds M q x h xok
  have hN := nd_Fact_factor
  have cl_Fact := T_Fact.ok.cls
  obtain ⟨r, m, n, rfl, hl, hq⟩ := h
  refine dss_cons ?_
  repeat' walk_at "one"
  refine di_lst ?_
  repeat' walk_at "one"
  refine lck_filt (fun d => match d with | .tup [.str o, _] => decide (o = n) | _ => false) (fun d => match d with | .tup [_, f] => f | _ => .non) (by rw [List.length_map]; omega) ?_ fun A2 hA2 => frz_upd ?_ hA2
  · rintro y hy M7 hex s' H' C' cl' fp'
    obtain ⟨t, ht, rfl⟩ := List.mem_map.mp hy
    repeat' walk_at "one"
    refine ⟨rfl, fun s2 H2 C2 cl2 fp2 q2 hq2 => ?_, fun hg s2 H2 C2 cl2 fp2 q2 hq2 => ?_⟩
    · repeat' walk_at "one"
      exact hq2
    · repeat' walk_at "one"
      exact hq2
  rw [List.filter_map, List.map_map, show List.map (_ ∘ termD) _ = ((r.filter fun t => decide (t.1 = n)).map (·.2)).map Dat.int by rw [List.map_map]; rfl]
  repeat' walk_at "one"
  refine dcl_sum rfl ?_
  repeat' walk_at "one"
  rw [sum_filt]
  exact hq
end
section
abbrev N_Fact_most : List Str := ["self"]
theorem sc_Fact_most : FnScope N_Fact_most ["self"] (defScope s_Fact_most) := ⟨rfl, rfl, rfl, by decide +kernel, rfl, by decide +kernel, by decide +kernel⟩
theorem nd_Fact_most : (N_Fact_most).Nodup := by decide +kernel
local macro_rules | `(tactic| walk_at "var") => `(tactic| first
  | (with_reducible refine de_nm (i := 0) (x := "self") ?a ?b ?c); (case a => rfl); (case b => first | exact Or.inl rfl | exact Or.inr (Or.inl rfl) | exact Or.inr (Or.inr rfl)))
theorem ok_Fact_most {C_Fact : Addr} {f : Addr} {fd : FuncData} (F : FunD K "most" "Fact.most" s_Fact_most f fd) (m_property : mg "property" = none) (T_Fact : CT K mg "Fact" C_Fact) (n_Fact_own_most : NoAttr K C_Fact "own_most") : FnOk P w K mg base (L2.CX P w) 1 f fd ["self"] (LSp K (S_fmost C_Fact)) := by
  refine F.ok sc_Fact_most (fun ds M q x h => by first | (obtain ⟨_, rfl, _⟩ := h; rfl) | (obtain ⟨_, _, rfl, _⟩ := h; rfl) | (obtain ⟨_, _, _, rfl, _⟩ := h; rfl) | (obtain ⟨_, _, _, _, rfl, _⟩ := h; rfl) | (obtain ⟨_, _, _, _, _, rfl, _⟩ := h; rfl) | (obtain ⟨_, _, _, _, _, _, rfl, _⟩ := h; rfl) | (obtain ⟨_, _, _, _, _, _, _, rfl, _⟩ := h; rfl) | (obtain ⟨_, _, _, _, _, _, _, _, rfl, _⟩ := h; rfl) | (obtain ⟨_, _, _, _, _, _, _, _, _, rfl, _⟩ := h; rfl) | (obtain ⟨_, _, _, _, _, _, _, _, _, _, rfl, _⟩ := h; rfl) | (obtain ⟨_, _, _, _, _, _, _, _, _, _, _, rfl, _⟩ := h; rfl) | (obtain ⟨_, _, _, _, _, _, _, _, _, _, _, _, rfl, _⟩ := h; rfl)) ?_
  intro cdv A outer s H E hr F0 ds M q x h xok
  have hN := nd_Fact_most
  have cl_Fact := T_Fact.ok.cls
  obtain ⟨r, m, rfl, hq⟩ := h
  refine dss_cons ?_
  repeat' walk_at "one"
  exact hq
end
section
abbrev N_law : List Str := ["_law_script", "_law_bag_here", "_law_k", "_law_other", "_law_bad", "_law_at", "_law_asks", "_law_due", "_law_made", "_law_bent", "_law_name", "_law_odd", "_law_rows"]
theorem sc_law : FnScope N_law ["_law_script"] (defScope s_law) := ⟨rfl, rfl, rfl, by decide +kernel, rfl, by decide +kernel, by decide +kernel⟩
theorem nd_law : (N_law).Nodup := by decide +kernel
local macro_rules | `(tactic| walk_at "var") => `(tactic| first
  | (with_reducible refine de_nm (i := 11) (x := "_law_odd") ?a ?b ?c); (case a => rfl); (case b => first | exact Or.inl rfl | exact Or.inr (Or.inl rfl) | exact Or.inr (Or.inr rfl))
  | (with_reducible refine de_nm (i := 12) (x := "_law_rows") ?a ?b ?c); (case a => rfl); (case b => first | exact Or.inl rfl | exact Or.inr (Or.inl rfl) | exact Or.inr (Or.inr rfl)))
local macro_rules | `(tactic| walk_at "var") => `(tactic| first
  | (with_reducible refine de_nm (i := 6) (x := "_law_asks") ?a ?b ?c); (case a => rfl); (case b => first | exact Or.inl rfl | exact Or.inr (Or.inl rfl) | exact Or.inr (Or.inr rfl))
  | (with_reducible refine de_nm (i := 7) (x := "_law_due") ?a ?b ?c); (case a => rfl); (case b => first | exact Or.inl rfl | exact Or.inr (Or.inl rfl) | exact Or.inr (Or.inr rfl))
  | (with_reducible refine de_nm (i := 8) (x := "_law_made") ?a ?b ?c); (case a => rfl); (case b => first | exact Or.inl rfl | exact Or.inr (Or.inl rfl) | exact Or.inr (Or.inr rfl))
  | (with_reducible refine de_nm (i := 9) (x := "_law_bent") ?a ?b ?c); (case a => rfl); (case b => first | exact Or.inl rfl | exact Or.inr (Or.inl rfl) | exact Or.inr (Or.inr rfl))
  | (with_reducible refine de_nm (i := 10) (x := "_law_name") ?a ?b ?c); (case a => rfl); (case b => first | exact Or.inl rfl | exact Or.inr (Or.inl rfl) | exact Or.inr (Or.inr rfl)))
local macro_rules | `(tactic| walk_at "var") => `(tactic| first
  | (with_reducible refine de_nm (i := 0) (x := "_law_script") ?a ?b ?c); (case a => rfl); (case b => first | exact Or.inl rfl | exact Or.inr (Or.inl rfl) | exact Or.inr (Or.inr rfl))
  | (with_reducible refine de_nm (i := 1) (x := "_law_bag_here") ?a ?b ?c); (case a => rfl); (case b => first | exact Or.inl rfl | exact Or.inr (Or.inl rfl) | exact Or.inr (Or.inr rfl))
  | (with_reducible refine de_nm (i := 3) (x := "_law_other") ?a ?b ?c); (case a => rfl); (case b => first | exact Or.inl rfl | exact Or.inr (Or.inl rfl) | exact Or.inr (Or.inr rfl))
  | (with_reducible refine de_nm (i := 4) (x := "_law_bad") ?a ?b ?c); (case a => rfl); (case b => first | exact Or.inl rfl | exact Or.inr (Or.inl rfl) | exact Or.inr (Or.inr rfl))
  | (with_reducible refine de_nm (i := 5) (x := "_law_at") ?a ?b ?c); (case a => rfl); (case b => first | exact Or.inl rfl | exact Or.inr (Or.inl rfl) | exact Or.inr (Or.inr rfl)))
local macro_rules | `(tactic| walk_at "set") => `(tactic| first
  | (with_reducible refine ds_set (i := 9) (x := "_law_bent") ?n ?a ?b ?c ?s ?f); (case n => assumption); (case a => rfl); (case b => first | exact Or.inl rfl | exact Or.inr rfl); (case s => rfl); (case f => first | exact Or.inl rfl | exact Or.inr rfl)
  | (with_reducible refine ds_set (i := 12) (x := "_law_rows") ?n ?a ?b ?c ?s ?f); (case n => assumption); (case a => rfl); (case b => first | exact Or.inl rfl | exact Or.inr rfl); (case s => rfl); (case f => first | exact Or.inl rfl | exact Or.inr rfl))
local macro_rules | `(tactic| walk_at "set") => `(tactic| first
  | (with_reducible refine ds_set (i := 1) (x := "_law_bag_here") ?n ?a ?b ?c ?s ?f); (case n => assumption); (case a => rfl); (case b => first | exact Or.inl rfl | exact Or.inr rfl); (case s => rfl); (case f => first | exact Or.inl rfl | exact Or.inr rfl)
  | (with_reducible refine ds_set (i := 4) (x := "_law_bad") ?n ?a ?b ?c ?s ?f); (case n => assumption); (case a => rfl); (case b => first | exact Or.inl rfl | exact Or.inr rfl); (case s => rfl); (case f => first | exact Or.inl rfl | exact Or.inr rfl)
  | (with_reducible refine ds_set (i := 6) (x := "_law_asks") ?n ?a ?b ?c ?s ?f); (case n => assumption); (case a => rfl); (case b => first | exact Or.inl rfl | exact Or.inr rfl); (case s => rfl); (case f => first | exact Or.inl rfl | exact Or.inr rfl)
  | (with_reducible refine ds_set (i := 7) (x := "_law_due") ?n ?a ?b ?c ?s ?f); (case n => assumption); (case a => rfl); (case b => first | exact Or.inl rfl | exact Or.inr rfl); (case s => rfl); (case f => first | exact Or.inl rfl | exact Or.inr rfl)
  | (with_reducible refine ds_set (i := 8) (x := "_law_made") ?n ?a ?b ?c ?s ?f); (case n => assumption); (case a => rfl); (case b => first | exact Or.inl rfl | exact Or.inr rfl); (case s => rfl); (case f => first | exact Or.inl rfl | exact Or.inr rfl))
local macro_rules | `(tactic| walk_at "tgt") => `(tactic| first
  | (with_reducible refine dg_name (i := 2) (x := "_law_k") ?n ?a ?b ?o ?c ?f); (case n => assumption); (case a => rfl); (case b => first | exact Or.inl rfl | exact Or.inr rfl); (case o => rfl); (case f => first | exact Or.inl rfl | exact Or.inr rfl)
  | (with_reducible refine dg_name (i := 3) (x := "_law_other") ?n ?a ?b ?o ?c ?f); (case n => assumption); (case a => rfl); (case b => first | exact Or.inl rfl | exact Or.inr rfl); (case o => rfl); (case f => first | exact Or.inl rfl | exact Or.inr rfl)
  | (with_reducible refine dg_name (i := 5) (x := "_law_at") ?n ?a ?b ?o ?c ?f); (case n => assumption); (case a => rfl); (case b => first | exact Or.inl rfl | exact Or.inr rfl); (case o => rfl); (case f => first | exact Or.inl rfl | exact Or.inr rfl)
  | (with_reducible refine dg_name (i := 10) (x := "_law_name") ?n ?a ?b ?o ?c ?f); (case n => assumption); (case a => rfl); (case b => first | exact Or.inl rfl | exact Or.inr rfl); (case o => rfl); (case f => first | exact Or.inl rfl | exact Or.inr rfl)
  | (with_reducible refine dg_name (i := 11) (x := "_law_odd") ?n ?a ?b ?o ?c ?f); (case n => assumption); (case a => rfl); (case b => first | exact Or.inl rfl | exact Or.inr rfl); (case o => rfl); (case f => first | exact Or.inl rfl | exact Or.inr rfl))
local macro_rules | `(tactic| walk_at "par") => `(tactic| first
  | (refine ds_par (i := 5) (j := 11) (x := "_law_at") (y := "_law_odd") rfl ?n rfl rfl (by decide) rfl rfl ?k rfl; (case n => assumption)))
set_option hygiene false in
local macro_rules | `(tactic| walk_at "call") => `(tactic| first
  | ((with_reducible show DE _ _ (Expr.Call (Expr.Name "_law_why" _) _ [] _) _ _ _); refine de_fnG c__law_why rfl (by assumption) (by assumption) (by decide) (by first | assumption | exact XOk.none) ?_)
  | ((with_reducible show DE _ _ (Expr.Call (Expr.Name "Fact" _) [_, _] [_] _) _ _ _); refine de_newVK K_Fact b_Fact___init___1_most rfl (by assumption) (by decide) (by first | assumption | exact XOk.none) rfl ?_)
  | ((with_reducible show DE _ _ (Expr.Call (Expr.Name "Fact" _) [_, _, _] [_] _) _ _ _); refine de_newVK K_Fact b_Fact___init___1_most rfl (by assumption) (by decide) (by first | assumption | exact XOk.none) rfl ?_)
  | ((with_reducible show DE _ _ (Expr.Call (Expr.Name "Fact" _) [] [_] _) _ _ _); refine de_newV0K K_Fact b_Fact___init___1_most rfl (by assumption) (by decide) (by first | assumption | exact XOk.none) rfl ?_)
  | ((with_reducible show DE _ _ (Expr.Call (Expr.Name "Fact" _) [_] [_] _) _ _ _); refine de_newVK K_Fact b_Fact___init___1_most rfl (by assumption) (by decide) (by first | assumption | exact XOk.none) rfl ?_))
set_option hygiene false in
local macro_rules | `(tactic| walk_at "call") => `(tactic| first
  | ((with_reducible show DE _ _ (Expr.Call (Expr.Name "_law_bag" _) (_ :: _) [] _) _ _ _); refine de_fn c__law_bag rfl (by assumption) (by decide) (by first | assumption | exact XOk.none) ?_)
  | ((with_reducible show DE _ _ (Expr.Call (Expr.Name "_law_names" _) (_ :: _) [] _) _ _ _); refine de_fn c__law_names rfl (by assumption) (by decide) (by first | assumption | exact XOk.none) ?_)
  | ((with_reducible show DE _ _ (Expr.Call (Expr.Name "_law_of" _) (_ :: _) [] _) _ _ _); refine de_fn c__law_of rfl (by assumption) (by decide) (by first | assumption | exact XOk.none) ?_)
  | ((with_reducible show DE _ _ (Expr.Call (Expr.Name "_law_take" _) (_ :: _) [] _) _ _ _); refine de_fn c__law_take rfl (by assumption) (by decide) (by first | assumption | exact XOk.none) ?_)
  | ((with_reducible show DE _ _ (Expr.Call (Expr.Name "_law_whys" _) _ [] _) _ _ _); refine de_fnG c__law_whys rfl (by assumption) (by assumption) (by decide) (by first | assumption | exact XOk.none) ?_))
set_option hygiene false in
local macro_rules | `(tactic| walk_at "mcall") => `(tactic| first
  | ((with_reducible show DE _ _ (Expr.Call (Expr.Attribute _ "factor" _) [_] [] _) _ _ _); refine de_methX ?_))
set_option hygiene false in
local macro_rules | `(tactic| walk_at "dmc") => `(tactic| first
  | ((with_reducible show DMC _ _ "factor" [_] [] _ _ _ _); refine DMC.posn M_Fact_factor T_Fact.ok.cls (by assumption) (by decide) (by first | assumption | exact XOk.none) (by first | exact Or.inl rfl | exact Or.inr ⟨_, rfl, by walk_at "mem"⟩) (by decide) ?_))
set_option hygiene false in
local macro_rules | `(tactic| walk_at "dat") => `(tactic| first
  | ((with_reducible show DAt _ "most" _ _ _); refine DAt.prp p_Fact_most T_Fact.ok.cls (by assumption) (by decide) (by first | exact Or.inl rfl | exact Or.inr ⟨_, rfl, by walk_at "mem"⟩) ?_))
set_option hygiene false in
local macro_rules | `(tactic| walk_at "glob") => `(tactic| first
  | ((with_reducible show DE _ _ (Expr.Name "Fact" _) _ _ _); refine de_glob T_Fact.g rfl ?_))
set_option hygiene false in
local macro_rules | `(tactic| walk_at "call") => `(tactic| first
  | ((with_reducible show DE _ _ (Expr.Call (Expr.Name "_law_why" _) [_] [] _) _ _ _); refine de_lend c__law_why rfl (by assumption) (by assumption) (by decide) nd_law (fun _ _ e => cells_cell cn_law e) (fun _ => rfl) ?_)
  | ((with_reducible show DE _ _ (Expr.Call (Expr.Name "_law_whys" _) [_] [] _) _ _ _); refine de_lend c__law_whys rfl (by assumption) (by assumption) (by decide) nd_law (fun _ _ e => cells_cell cn_law e) (fun _ => rfl) ?_))
set_option hygiene false in
local macro_rules | `(tactic| walk_at "e") => `(tactic| first
  | ((with_reducible show DE _ _ (Expr.Lambda _ _ _ _) _ _ _); first | refine de_lam0 TB rfl (by walk_at "mem") (by kernel_rfl) rfl rfl ?_ | refine de_lam1 TB rfl (by walk_at "mem") (by kernel_rfl) rfl rfl ?_))
local macro_rules | `(tactic| walk_at "lam") => `(tactic| first
  | refine lamR_args (by assumption) (by kernel_rfl) (by kernel_rfl) (by kernel_rfl) rfl (fun _ _ _ _ _ _ => rfl) (fun h => absurd rfl h) ?_
  | refine lamR_args (by assumption) (by kernel_rfl) (by kernel_rfl) (by kernel_rfl) rfl (fun h => by cases h) (fun _ _ _ _ _ _ _ its hl => match its, hl with | [_], _ => ⟨_, rfl, rfl⟩) ?_)
local macro_rules | `(tactic| walk_at "spec") => `(tactic| first
  | ((with_reducible show S_factor _ _ _ _ _); refine ⟨_, _, _, rfl, by assumption, ?_⟩)
  | ((with_reducible show S_fmost _ _ _ _ _); refine ⟨_, _, rfl, ?_⟩)
  | ((with_reducible show EqD _ _ _); refine EqD.shp (by first | assumption | walk_at "shp") ?_))
theorem cn_law : (((defScope s_law).names).map (·.1)).Nodup := by decide +kernel
theorem ok_law {f__law_bag f__law_names f__law_of C_Fact f__law_take f__law_whys C_ShareError C_Missing C_NothingLeft f__law_why f_Fact___init__ C_InvalidTerm C_InvalidNumber C_NoTerms f_Fact_factor f_Fact_most : Addr} {fd__law_bag fd__law_names fd__law_of fd__law_take fd__law_whys fd__law_why fd_Fact___init__ fd_Fact_factor : FuncData} {f : Addr} {fd : FuncData} {c_T P_T : Addr} (F : FunD K "law" "law" s_law f fd) (hcT : fd.code = .ref c_T) (TB : LamX.TabB base mg c_T P_T) (c__law_bag : Cal P w K mg base "_law_bag" 1 f__law_bag fd__law_bag ["_law_script"] S_bag) (m_range : mg "range" = none) (c__law_names : Cal P w K mg base "_law_names" 3 f__law_names fd__law_names ["_law_bag_here", "_law_many"] S_names) (c__law_of : Cal P w K mg base "_law_of" 2 f__law_of fd__law_of ["_law_bag_here", "_law_things"] S_of) (T_Fact : CT K mg "Fact" C_Fact) (c__law_take : Cal P w K mg base "_law_take" 1 f__law_take fd__law_take ["_law_bag_here", "_law_many"] S_take) (c__law_whys : CalG P w K mg base "_law_whys" 14 f__law_whys fd__law_whys ["_law_asks"] (S_lwhys P w K mg base 12 [.ref C_ShareError, .ref C_Missing, .ref C_NothingLeft])) (c__law_why : CalG P w K mg base "_law_why" 13 f__law_why fd__law_why ["_law_ask"] (S_lwhy P w K mg base 12 [.ref C_ShareError, .ref C_Missing, .ref C_NothingLeft])) (K_Fact : MkV P w K mg base "Fact" C_Fact f_Fact___init__ fd_Fact___init__ 3 ["self", "most"] "terms" (S_finit C_Fact ⟨C_InvalidTerm, C_InvalidNumber, C_NoTerms⟩)) (b_Fact___init___1_most : BndV K fd_Fact___init__ ["self", "most"] "terms" 1 ["most"] [] [0, 1]) (M_Fact_factor : Met P w K mg base C_Fact "factor" 1 f_Fact_factor fd_Fact_factor ["self", "name"] (S_factor C_Fact)) (p_Fact_most : Prp P w K mg base C_Fact "most" 1 f_Fact_most (S_fmost C_Fact)) (xc_InvalidTerm : XcA K [.ref C_ShareError, .ref C_Missing, .ref C_NothingLeft] C_InvalidTerm) (xa_InvalidTerm : PySem.W.findIn K (.ref C_InvalidTerm) "at" = some none) (xc_InvalidNumber : XcA K [.ref C_ShareError, .ref C_Missing, .ref C_NothingLeft] C_InvalidNumber) (xa_InvalidNumber : PySem.W.findIn K (.ref C_InvalidNumber) "given" = some none) (xc_NoTerms : XcA K [.ref C_ShareError, .ref C_Missing, .ref C_NothingLeft] C_NoTerms) : FnG P w K mg base 15 f fd ["_law_script"] (LSp K (SLawT P_T ("law" ++ ".<locals>." ++ "<lambda>"))) := by
  refine F.okGc hcT sc_law (fun ds M q x h => by first | (obtain ⟨_, rfl, _⟩ := h; rfl) | (obtain ⟨_, _, rfl, _⟩ := h; rfl) | (obtain ⟨_, _, _, rfl, _⟩ := h; rfl) | (obtain ⟨_, _, _, _, rfl, _⟩ := h; rfl) | (obtain ⟨_, _, _, _, _, rfl, _⟩ := h; rfl) | (obtain ⟨_, _, _, _, _, _, rfl, _⟩ := h; rfl) | (obtain ⟨_, _, _, _, _, _, _, rfl, _⟩ := h; rfl) | (obtain ⟨_, _, _, _, _, _, _, _, rfl, _⟩ := h; rfl) | (obtain ⟨_, _, _, _, _, _, _, _, _, rfl, _⟩ := h; rfl) | (obtain ⟨_, _, _, _, _, _, _, _, _, _, rfl, _⟩ := h; rfl) | (obtain ⟨_, _, _, _, _, _, _, _, _, _, _, rfl, _⟩ := h; rfl) | (obtain ⟨_, _, _, _, _, _, _, _, _, _, _, _, rfl, _⟩ := h; rfl)) ?_
  intro A outer s H E hgd hr F0 ds M q x h xok
  have hN := nd_law
  have hgd' : (A.deeper (envOfC "law" (defScope s_law) s.heap.objs.size f (.ref c_T))).guards = some [] := hgd
  have cl_Fact := T_Fact.ok.cls
  obtain ⟨ns, rfl, hl, hns, hMT, hq⟩ := h
  refine dss_cons ?_
  repeat' walk_at "one"
  rename_i p M1 hp hB hS
  have hPp : P_T ≠ p := fun e => by rw [e, hp] at hMT; cases hMT
  have xwT : ∀ n : Nat, WhyOf K [.ref C_ShareError, .ref C_Missing, .ref C_NothingLeft] (termX C_InvalidTerm n) (.tup [.str "InvalidTerm", .tup [.int (n : Int)]]) := fun n => why1 xc_InvalidTerm xa_InvalidTerm rfl (by decide) (by decide +kernel)
  have xwN : ∀ d : Dat, WhyOf K [.ref C_ShareError, .ref C_Missing, .ref C_NothingLeft] (numX C_InvalidNumber d) (.tup [.str "InvalidNumber", .tup [d]]) := fun n => why1 xc_InvalidNumber xa_InvalidNumber rfl (by decide) (by decide +kernel)
  have xwZ : WhyOf K [.ref C_ShareError, .ref C_Missing, .ref C_NothingLeft] (noTX C_NoTerms) (.tup [.str "NoTerms", .tup []]) := why0 xc_NoTerms rfl (by decide +kernel)
  refine ds_for pass_body rfl (di_rng1 rfl m_range ?_)
  repeat' walk_at "one"
  refine ⟨by decide, by decide, ?_⟩
  refine dloop_inv (fun k ρ M' => Bag (200 * k) (M' p) ∧ M' P_T = some (.tbl ("law" ++ ".<locals>." ++ "<lambda>")) ∧ ∃ a2 a3 a4 a5 a6 a7 a8 a9 a10 a11 a12, ρ = [some (.scr ns), some (.ptr p), a2, a3, a4, a5, a6, a7, a8, a9, a10, a11, a12]) _ 0 _ _ ⟨hB, hS.at hPp hMT, _, _, _, _, _, _, _, _, _, _, _, rfl⟩ ?_ ?_
  · rintro k d ρ M2 hk ⟨hB2, hT2, a2, a3, a4, a5, a6, a7, a8, a9, a10, a11, a12, rfl⟩
    obtain ⟨hk1, rfl⟩ := rangeD_get hk
    have hk6 : k < 6 := hk1
    rw [Nat.zero_add] at hB2
    repeat' walk_at "one"
    refine ⟨p, 2, _, rfl, hB2, by omega, by decide, ?_⟩
    intro xs M3 hxl hnd hnm hB3 hS3
    obtain ⟨nn, oo, rfl⟩ : ∃ nn oo, xs = [nn, oo] := match xs, hxl with
      | [nn, oo], _ => ⟨nn, oo, rfl⟩
    have hN : NmL nn := hnm nn (by simp)
    have hO : NmL oo := hnm oo (by simp)
    have hne : ¬ nn = oo := fun e => by rw [e] at hnd; simp at hnd
    repeat' walk_at "one"
    refine dgs_nil ?_
    repeat' walk_at "one"
    rename_i bad M4 hbad hB4 hS4 at_ M5 h0 h1 hB5 hS5 odd M6 hodd hB6 hS6
    obtain ⟨hbt, hbf⟩ := badT_of hN hbad
    obtain ⟨⟨on, hon⟩, hof, hos⟩ := oddN_of hodd
    obtain ⟨x0, x1, x2, A3, B3, e1, e2, e3, e4⟩ := bentT (bad := bad) hN h0 h1
    have hT6 : M6 P_T = some (.tbl ("law" ++ ".<locals>." ++ "<lambda>")) := hS6.at hPp (hS5.at hPp (hS4.at hPp (hS3.at hPp hT2)))
    have hc2 : ∀ u v, (cutD [Dat.tup [.str nn, .int 1], .tup [.str nn, .int (0 - 1)]] u v).length ≤ 2 := fun u v => cutD_le
    have hc3 := hc2 none (some at_)
    have hc4 := hc2 (some at_) none
    have g1 : TermG (nn, 1) := nml_term hN (by decide) (by decide)
    have g2 : TermG (nn, 0 - 1) := nml_term hN (by decide) (by decide)
    have g3 : TermG (nn, 0) := nml_term hN (by decide) (by decide)
    refine dop_cat (by show _ + 1 ≤ _; omega) ?_
    repeat' walk_at "one"
    refine dop_cat (by rw [List.length_append]; show _ + 1 + _ ≤ _; omega) ?_
    have e1 : cutD [Dat.tup [.str nn, .int 1], .tup [.str nn, .int (0 - 1)]] none (some at_) ++ [bad] ++ cutD [Dat.tup [.str nn, .int 1], .tup [.str nn, .int (0 - 1)]] (some at_) none = [x0, x1, x2] := e1
    rw [e1]
    repeat' walk_at "one"
    intro L lx
    refine ⟨.lst [.tup [.str "InvalidTerm", .tup [.int at_]], .tup [.str "InvalidNumber", .tup [odd]], .tup [.str "NoTerms", .tup []], .tup [.str "InvalidNumber", .tup [odd]], .tup [.str "NoTerms", .tup []]], ⟨[_, _, _, _, _], _, rfl, Nat.le_of_ble_eq_true rfl, .cons ?_ (.cons ?_ (.cons ?_ (.cons ?_ (.cons ?_ .nil)))), rfl, rfl⟩, ?_⟩
    · walk_at "lam"
      intro M2 sub A2 outer2 s2 H2 E2 F2 f2 c2 hr2 hgd2 xok2
      repeat' walk_at "one"
      exact new_bentT hon e2 e4 hbt hbf fun M' s => ⟨s, by rw [← e3]; exact xwT _⟩
    · walk_at "lam"
      intro M2 sub A2 outer2 s2 H2 E2 F2 f2 c2 hr2 hgd2 xok2
      repeat' walk_at "one"
      exact new_num (ts := [(nn, 1), (nn, 0 - 1)]) (Nat.le_of_ble_eq_true rfl) (all2 g1 g2) hon hof fun M' s => ⟨s, xwN _⟩
    · walk_at "lam"
      intro M2 sub A2 outer2 s2 H2 E2 F2 f2 c2 hr2 hgd2 xok2
      repeat' walk_at "one"
      exact new_no (ts := [(nn, 1), (nn, 0 - 1)]) (Nat.le_of_ble_eq_true rfl) (all2 g1 g2) (by decide) sum_opp fun M' s => ⟨s, xwZ⟩
    · walk_at "lam"
      intro M2 sub A2 outer2 s2 H2 E2 F2 f2 c2 hr2 hgd2 xok2
      repeat' walk_at "one"
      exact new_num (ts := []) (Nat.le_of_ble_eq_true rfl) (fun t ht => by cases ht) hon hof fun M' s => ⟨s, xwN _⟩
    · walk_at "lam"
      intro M2 sub A2 outer2 s2 H2 E2 F2 f2 c2 hr2 hgd2 xok2
      repeat' walk_at "one"
      exact new_no (ts := []) (Nat.le_of_ble_eq_true rfl) (fun t ht => by cases ht) (by decide) (fun _ => rfl) fun M' s => ⟨s, xwZ⟩
    repeat' walk_at "one"
    intro L lx
    refine ⟨.tup [.str "NoTerms", .tup []], ⟨_, _, rfl, ?_, rfl, rfl⟩, ?_⟩
    · walk_at "lam"
      intro M2 sub A2 outer2 s2 H2 E2 F2 f2 c2 hr2 hgd2 xok2
      repeat' walk_at "one"
      exact new_no (ts := [(nn, 0)]) (Nat.le_of_ble_eq_true rfl) (fun t ht => by rw [List.mem_singleton.mp ht]; exact g3) (by decide) (fun z => by show (if nn = z then (0 : Int) else 0) + 0 = 0; split <;> rfl) fun M' s => ⟨s, xwZ⟩
    repeat' walk_at "one"
    refine new_fact (ts := [(nn, 1000), (oo, 0 - 1000)]) (n0 := nn) (Nat.le_of_ble_eq_true rfl) (all2 (nml_term hN (by decide) (by decide)) (nml_term hO (by decide) (by decide))) (by decide) (by rw [sum_two hne]; decide) fun r hj hrl => ?_
    have e10 : sumT r nn = 1000 := by rw [hj.sum, sum_two hne]
    repeat' walk_at "one"
    refine new_fact (ts := [(nn, 1000), (nn, 1000)]) (n0 := nn) (Nat.le_of_ble_eq_true rfl) (all2 (nml_term hN (by decide) (by decide)) (nml_term hN (by decide) (by decide))) (by decide) (by rw [sum_dbl]; decide) fun r2 hj2 hrl2 => ?_
    have e11 : sumT r2 nn = 2000 := by rw [hj2.sum, sum_dbl]
    repeat' walk_at "one"
    exact ⟨by rw [Nat.zero_add]; exact hB6.mono (by omega), hT6, _, _, _, _, _, _, _, _, _, _, _, rfl⟩
  · rintro ρ M2 ⟨hB2, hT2, a2, a3, a4, a5, a6, a7, a8, a9, a10, a11, a12, rfl⟩
    repeat' walk_at "one"
    exact hq _
end
end
section
variable {w : World} {K : PySem.W.Frag} {mg : Str → Option Value}
theorem all_mk {P : Program} {base : Heap} {C_ShareError C_Missing C_NothingLeft C_InvalidNumber C_NoTerms C_InvalidTerm C_Fact f__law_bag f__law_take f__law_of f__law_names f__law_fields f__law_why f__law_whys f_added_terms f_is_number f_is_name f_is_term f_Fact___init__ f_Fact_factor f_Fact_most f_law : Addr} {fd__law_bag fd__law_take fd__law_of fd__law_names fd__law_fields fd__law_why fd__law_whys fd_added_terms fd_is_number fd_is_name fd_is_term fd_Fact___init__ fd_Fact_factor fd_Fact_most fd_law : FuncData}
    (m_list : mg "list" = none)
    (m_int : mg "int" = none)
    (m_len : mg "len" = none)
    (m_range : mg "range" = none)
    (m_sorted : mg "sorted" = none)
    (m_isinstance : mg "isinstance" = none)
    (m_bool : mg "bool" = none)
    (m_all : mg "all" = none)
    (m_str : mg "str" = none)
    (m_tuple : mg "tuple" = none)
    (m_enumerate : mg "enumerate" = none)
    (m_sum : mg "sum" = none)
    (m_property : mg "property" = none)
    (e_ShareError : mg "ShareError" = some (.ref C_ShareError))
    (e_Missing : mg "Missing" = some (.ref C_Missing))
    (e_NothingLeft : mg "NothingLeft" = some (.ref C_NothingLeft))
    (g_MOST_LETTERS : GlobD K mg "MOST_LETTERS" (.int 8))
    (g_LETTERS : GlobD K mg "LETTERS" (.str "abcdefghijklmnopqrstuvwxyz"))
    (g_MOST_FACTOR : GlobD K mg "MOST_FACTOR" (.int 1000))
    (g_MOST_SIDE : GlobD K mg "MOST_SIDE" (.int 1000000))
    (x_InvalidNumber : Xn1 P K mg "InvalidNumber" C_InvalidNumber "given" "InvalidNumber")
    (x_NoTerms : Xn0 P K mg "NoTerms" C_NoTerms "NoTerms")
    (x_InvalidTerm : Xn1 P K mg "InvalidTerm" C_InvalidTerm "at" "InvalidTerm")
    (T_Fact : CT K mg "Fact" C_Fact)
    (n_Fact_own_terms : NoAttr K C_Fact "own_terms")
    (n_Fact_own_most : NoAttr K C_Fact "own_most")
    (xc_InvalidTerm : XcA K [.ref C_ShareError, .ref C_Missing, .ref C_NothingLeft] C_InvalidTerm)
    (xa_InvalidTerm : PySem.W.findIn K (.ref C_InvalidTerm) "at" = some none)
    (xc_InvalidNumber : XcA K [.ref C_ShareError, .ref C_Missing, .ref C_NothingLeft] C_InvalidNumber)
    (xa_InvalidNumber : PySem.W.findIn K (.ref C_InvalidNumber) "given" = some none)
    (xc_NoTerms : XcA K [.ref C_ShareError, .ref C_Missing, .ref C_NothingLeft] C_NoTerms)
    (F__law_bag : FunN K "_law_bag" "_law_bag" s__law_bag f__law_bag fd__law_bag)
    (a__law_bag : mg "_law_bag" = some (.ref f__law_bag))
    (F__law_take : FunN K "_law_take" "_law_take" s__law_take f__law_take fd__law_take)
    (a__law_take : mg "_law_take" = some (.ref f__law_take))
    (F__law_of : FunN K "_law_of" "_law_of" s__law_of f__law_of fd__law_of)
    (a__law_of : mg "_law_of" = some (.ref f__law_of))
    (F__law_names : FunN K "_law_names" "_law_names" s__law_names f__law_names fd__law_names)
    (a__law_names : mg "_law_names" = some (.ref f__law_names))
    (F__law_fields : FunN K "_law_fields" "_law_fields" s__law_fields f__law_fields fd__law_fields)
    (a__law_fields : mg "_law_fields" = some (.ref f__law_fields))
    (F__law_why : FunN K "_law_why" "_law_why" s__law_why f__law_why fd__law_why)
    (a__law_why : mg "_law_why" = some (.ref f__law_why))
    (F__law_whys : FunN K "_law_whys" "_law_whys" s__law_whys f__law_whys fd__law_whys)
    (a__law_whys : mg "_law_whys" = some (.ref f__law_whys))
    (F_added_terms : FunN K "added_terms" "added_terms" s_added_terms f_added_terms fd_added_terms)
    (a_added_terms : mg "added_terms" = some (.ref f_added_terms))
    (F_is_number : FunN K "is_number" "is_number" s_is_number f_is_number fd_is_number)
    (a_is_number : mg "is_number" = some (.ref f_is_number))
    (F_is_name : FunN K "is_name" "is_name" s_is_name f_is_name fd_is_name)
    (a_is_name : mg "is_name" = some (.ref f_is_name))
    (F_is_term : FunN K "is_term" "is_term" s_is_term f_is_term fd_is_term)
    (a_is_term : mg "is_term" = some (.ref f_is_term))
    (F_Fact___init__ : FunN K "__init__" "Fact.__init__" s_Fact___init__ f_Fact___init__ fd_Fact___init__)
    (a_Fact___init__ : Mk K C_Fact f_Fact___init__)
    (F_Fact_factor : FunN K "factor" "Fact.factor" s_Fact_factor f_Fact_factor fd_Fact_factor)
    (a_Fact_factor : Meth K C_Fact "factor" f_Fact_factor)
    (F_Fact_most : FunN K "most" "Fact.most" s_Fact_most f_Fact_most fd_Fact_most)
    (a_Fact_most : ∃ p, PropOf K C_Fact "most" p f_Fact_most)
    (F_law : FunN K "law" "law" s_law f_law fd_law) :
    ∀ (c_T P_T : Addr), LamX.TabB base mg c_T P_T → fd_law.code = .ref c_T → FnG P w K mg base 15 f_law fd_law ["_law_script"] (LSp K (SLawT P_T ("law" ++ ".<locals>." ++ "<lambda>"))) := by
  intro c_T P_T TB hcT
  have q__law_bag := FunN.pos (ps := ["_law_script"]) F__law_bag fun _ _ _ _ _ _ us hl => match us, hl with | [_], _ => rfl
  have q__law_take := FunN.pos (ps := ["_law_bag_here", "_law_many"]) F__law_take fun _ _ _ _ _ _ us hl => match us, hl with | [_, _], _ => rfl
  have q__law_of := FunN.pos (ps := ["_law_bag_here", "_law_things"]) F__law_of fun _ _ _ _ _ _ us hl => match us, hl with | [_, _], _ => rfl
  have q__law_names := FunN.pos (ps := ["_law_bag_here", "_law_many"]) F__law_names fun _ _ _ _ _ _ us hl => match us, hl with | [_, _], _ => rfl
  have q__law_fields := FunN.pos (ps := ["_law_e"]) F__law_fields fun _ _ _ _ _ _ us hl => match us, hl with | [_], _ => rfl
  have q__law_why := FunN.pos (ps := ["_law_ask"]) F__law_why fun _ _ _ _ _ _ us hl => match us, hl with | [_], _ => rfl
  have q__law_whys := FunN.pos (ps := ["_law_asks"]) F__law_whys fun _ _ _ _ _ _ us hl => match us, hl with | [_], _ => rfl
  have q_added_terms := FunN.pos (ps := ["terms"]) F_added_terms fun _ _ _ _ _ _ us hl => match us, hl with | [_], _ => rfl
  have q_is_number := FunN.pos (ps := ["value", "least", "most"]) F_is_number fun _ _ _ _ _ _ us hl => match us, hl with | [_, _, _], _ => rfl
  have q_is_name := FunN.pos (ps := ["value"]) F_is_name fun _ _ _ _ _ _ us hl => match us, hl with | [_], _ => rfl
  have q_is_term := FunN.pos (ps := ["value"]) F_is_term fun _ _ _ _ _ _ us hl => match us, hl with | [_], _ => rfl
  have q_Fact_factor := FunN.pos (ps := ["self", "name"]) F_Fact_factor fun _ _ _ _ _ _ us hl => match us, hl with | [_, _], _ => rfl
  have q_Fact_most := FunN.pos (ps := ["self"]) F_Fact_most fun _ _ _ _ _ _ us hl => match us, hl with | [_], _ => rfl
  have q_law := FunN.pos (ps := ["_law_script"]) F_law fun _ _ _ _ _ _ us hl => match us, hl with | [_], _ => rfl
  have b_Fact___init___1_most := FunN.bndV (ps := ["self", "most"]) (ks := ["most"]) (pv := "terms") (n := 1) (perm := [0, 1]) F_Fact___init__ fun _ _ _ _ _ _ us rest ws h1 h2 => match us, rest, ws, h1, h2 with | [_], [], [_], _, _ => rfl | [_], _ :: _, [_], _, _ => rfl
  have c__law_bag : Cal P w K mg base "_law_bag" 1 f__law_bag _ ["_law_script"] S_bag := ⟨a__law_bag, (fun ds M q x h => by first | (obtain ⟨_, rfl, _⟩ := h; rfl) | (obtain ⟨_, _, rfl, _⟩ := h; rfl) | (obtain ⟨_, _, _, rfl, _⟩ := h; rfl) | (obtain ⟨_, _, _, _, rfl, _⟩ := h; rfl) | (obtain ⟨_, _, _, _, _, rfl, _⟩ := h; rfl) | (obtain ⟨_, _, _, _, _, _, rfl, _⟩ := h; rfl) | (obtain ⟨_, _, _, _, _, _, _, rfl, _⟩ := h; rfl) | (obtain ⟨_, _, _, _, _, _, _, _, rfl, _⟩ := h; rfl) | (obtain ⟨_, _, _, _, _, _, _, _, _, rfl, _⟩ := h; rfl) | (obtain ⟨_, _, _, _, _, _, _, _, _, _, rfl, _⟩ := h; rfl) | (obtain ⟨_, _, _, _, _, _, _, _, _, _, _, rfl, _⟩ := h; rfl) | (obtain ⟨_, _, _, _, _, _, _, _, _, _, _, _, rfl, _⟩ := h; rfl)), F__law_bag.kp, (ok__law_bag F__law_bag.toD m_list m_int), q__law_bag⟩
  have c__law_take : Cal P w K mg base "_law_take" 1 f__law_take _ ["_law_bag_here", "_law_many"] S_take := ⟨a__law_take, (fun ds M q x h => by first | (obtain ⟨_, rfl, _⟩ := h; rfl) | (obtain ⟨_, _, rfl, _⟩ := h; rfl) | (obtain ⟨_, _, _, rfl, _⟩ := h; rfl) | (obtain ⟨_, _, _, _, rfl, _⟩ := h; rfl) | (obtain ⟨_, _, _, _, _, rfl, _⟩ := h; rfl) | (obtain ⟨_, _, _, _, _, _, rfl, _⟩ := h; rfl) | (obtain ⟨_, _, _, _, _, _, _, rfl, _⟩ := h; rfl) | (obtain ⟨_, _, _, _, _, _, _, _, rfl, _⟩ := h; rfl) | (obtain ⟨_, _, _, _, _, _, _, _, _, rfl, _⟩ := h; rfl) | (obtain ⟨_, _, _, _, _, _, _, _, _, _, rfl, _⟩ := h; rfl) | (obtain ⟨_, _, _, _, _, _, _, _, _, _, _, rfl, _⟩ := h; rfl) | (obtain ⟨_, _, _, _, _, _, _, _, _, _, _, _, rfl, _⟩ := h; rfl)), F__law_take.kp, (ok__law_take F__law_take.toD m_int m_len), q__law_take⟩
  have c__law_of : Cal P w K mg base "_law_of" 2 f__law_of _ ["_law_bag_here", "_law_things"] S_of := ⟨a__law_of, (fun ds M q x h => by first | (obtain ⟨_, rfl, _⟩ := h; rfl) | (obtain ⟨_, _, rfl, _⟩ := h; rfl) | (obtain ⟨_, _, _, rfl, _⟩ := h; rfl) | (obtain ⟨_, _, _, _, rfl, _⟩ := h; rfl) | (obtain ⟨_, _, _, _, _, rfl, _⟩ := h; rfl) | (obtain ⟨_, _, _, _, _, _, rfl, _⟩ := h; rfl) | (obtain ⟨_, _, _, _, _, _, _, rfl, _⟩ := h; rfl) | (obtain ⟨_, _, _, _, _, _, _, _, rfl, _⟩ := h; rfl) | (obtain ⟨_, _, _, _, _, _, _, _, _, rfl, _⟩ := h; rfl) | (obtain ⟨_, _, _, _, _, _, _, _, _, _, rfl, _⟩ := h; rfl) | (obtain ⟨_, _, _, _, _, _, _, _, _, _, _, rfl, _⟩ := h; rfl) | (obtain ⟨_, _, _, _, _, _, _, _, _, _, _, _, rfl, _⟩ := h; rfl)), F__law_of.kp, (ok__law_of F__law_of.toD c__law_take m_len), q__law_of⟩
  have c__law_names : Cal P w K mg base "_law_names" 3 f__law_names _ ["_law_bag_here", "_law_many"] S_names := ⟨a__law_names, (fun ds M q x h => by first | (obtain ⟨_, rfl, _⟩ := h; rfl) | (obtain ⟨_, _, rfl, _⟩ := h; rfl) | (obtain ⟨_, _, _, rfl, _⟩ := h; rfl) | (obtain ⟨_, _, _, _, rfl, _⟩ := h; rfl) | (obtain ⟨_, _, _, _, _, rfl, _⟩ := h; rfl) | (obtain ⟨_, _, _, _, _, _, rfl, _⟩ := h; rfl) | (obtain ⟨_, _, _, _, _, _, _, rfl, _⟩ := h; rfl) | (obtain ⟨_, _, _, _, _, _, _, _, rfl, _⟩ := h; rfl) | (obtain ⟨_, _, _, _, _, _, _, _, _, rfl, _⟩ := h; rfl) | (obtain ⟨_, _, _, _, _, _, _, _, _, _, rfl, _⟩ := h; rfl) | (obtain ⟨_, _, _, _, _, _, _, _, _, _, _, rfl, _⟩ := h; rfl) | (obtain ⟨_, _, _, _, _, _, _, _, _, _, _, _, rfl, _⟩ := h; rfl)), F__law_names.kp, (ok__law_names F__law_names.toD m_range c__law_take c__law_of m_len m_int), q__law_names⟩
  have c__law_fields : CalH P w K mg base "_law_fields" 1 f__law_fields (S_lfields K) := ⟨a__law_fields, F__law_fields.kp, (ok__law_fields F__law_fields.toD q__law_fields)⟩
  have c__law_why : CalG P w K mg base "_law_why" 13 f__law_why _ ["_law_ask"] (S_lwhy P w K mg base 12 [.ref C_ShareError, .ref C_Missing, .ref C_NothingLeft]) := ⟨a__law_why, (fun ds M q x h => by first | (obtain ⟨_, rfl, _⟩ := h; rfl) | (obtain ⟨_, _, rfl, _⟩ := h; rfl) | (obtain ⟨_, _, _, rfl, _⟩ := h; rfl) | (obtain ⟨_, _, _, _, rfl, _⟩ := h; rfl) | (obtain ⟨_, _, _, _, _, rfl, _⟩ := h; rfl) | (obtain ⟨_, _, _, _, _, _, rfl, _⟩ := h; rfl) | (obtain ⟨_, _, _, _, _, _, _, rfl, _⟩ := h; rfl) | (obtain ⟨_, _, _, _, _, _, _, _, rfl, _⟩ := h; rfl) | (obtain ⟨_, _, _, _, _, _, _, _, _, rfl, _⟩ := h; rfl) | (obtain ⟨_, _, _, _, _, _, _, _, _, _, rfl, _⟩ := h; rfl) | (obtain ⟨_, _, _, _, _, _, _, _, _, _, _, rfl, _⟩ := h; rfl) | (obtain ⟨_, _, _, _, _, _, _, _, _, _, _, _, rfl, _⟩ := h; rfl)), F__law_why.kp, (ok__law_why F__law_why.toD e_ShareError e_Missing e_NothingLeft c__law_fields), q__law_why⟩
  have c__law_whys : CalG P w K mg base "_law_whys" 14 f__law_whys _ ["_law_asks"] (S_lwhys P w K mg base 12 [.ref C_ShareError, .ref C_Missing, .ref C_NothingLeft]) := ⟨a__law_whys, (fun ds M q x h => by first | (obtain ⟨_, rfl, _⟩ := h; rfl) | (obtain ⟨_, _, rfl, _⟩ := h; rfl) | (obtain ⟨_, _, _, rfl, _⟩ := h; rfl) | (obtain ⟨_, _, _, _, rfl, _⟩ := h; rfl) | (obtain ⟨_, _, _, _, _, rfl, _⟩ := h; rfl) | (obtain ⟨_, _, _, _, _, _, rfl, _⟩ := h; rfl) | (obtain ⟨_, _, _, _, _, _, _, rfl, _⟩ := h; rfl) | (obtain ⟨_, _, _, _, _, _, _, _, rfl, _⟩ := h; rfl) | (obtain ⟨_, _, _, _, _, _, _, _, _, rfl, _⟩ := h; rfl) | (obtain ⟨_, _, _, _, _, _, _, _, _, _, rfl, _⟩ := h; rfl) | (obtain ⟨_, _, _, _, _, _, _, _, _, _, _, rfl, _⟩ := h; rfl) | (obtain ⟨_, _, _, _, _, _, _, _, _, _, _, _, rfl, _⟩ := h; rfl)), F__law_whys.kp, (ok__law_whys F__law_whys.toD c__law_why), q__law_whys⟩
  have c_added_terms : Cal P w K mg base "added_terms" 1 f_added_terms _ ["terms"] S_added := ⟨a_added_terms, (fun ds M q x h => by first | (obtain ⟨_, rfl, _⟩ := h; rfl) | (obtain ⟨_, _, rfl, _⟩ := h; rfl) | (obtain ⟨_, _, _, rfl, _⟩ := h; rfl) | (obtain ⟨_, _, _, _, rfl, _⟩ := h; rfl) | (obtain ⟨_, _, _, _, _, rfl, _⟩ := h; rfl) | (obtain ⟨_, _, _, _, _, _, rfl, _⟩ := h; rfl) | (obtain ⟨_, _, _, _, _, _, _, rfl, _⟩ := h; rfl) | (obtain ⟨_, _, _, _, _, _, _, _, rfl, _⟩ := h; rfl) | (obtain ⟨_, _, _, _, _, _, _, _, _, rfl, _⟩ := h; rfl) | (obtain ⟨_, _, _, _, _, _, _, _, _, _, rfl, _⟩ := h; rfl) | (obtain ⟨_, _, _, _, _, _, _, _, _, _, _, rfl, _⟩ := h; rfl) | (obtain ⟨_, _, _, _, _, _, _, _, _, _, _, _, rfl, _⟩ := h; rfl)), F_added_terms.kp, (ok_added_terms F_added_terms.toD m_sorted), q_added_terms⟩
  have c_is_number : Cal P w K mg base "is_number" 1 f_is_number _ ["value", "least", "most"] S_is_number := ⟨a_is_number, (fun ds M q x h => by first | (obtain ⟨_, rfl, _⟩ := h; rfl) | (obtain ⟨_, _, rfl, _⟩ := h; rfl) | (obtain ⟨_, _, _, rfl, _⟩ := h; rfl) | (obtain ⟨_, _, _, _, rfl, _⟩ := h; rfl) | (obtain ⟨_, _, _, _, _, rfl, _⟩ := h; rfl) | (obtain ⟨_, _, _, _, _, _, rfl, _⟩ := h; rfl) | (obtain ⟨_, _, _, _, _, _, _, rfl, _⟩ := h; rfl) | (obtain ⟨_, _, _, _, _, _, _, _, rfl, _⟩ := h; rfl) | (obtain ⟨_, _, _, _, _, _, _, _, _, rfl, _⟩ := h; rfl) | (obtain ⟨_, _, _, _, _, _, _, _, _, _, rfl, _⟩ := h; rfl) | (obtain ⟨_, _, _, _, _, _, _, _, _, _, _, rfl, _⟩ := h; rfl) | (obtain ⟨_, _, _, _, _, _, _, _, _, _, _, _, rfl, _⟩ := h; rfl)), F_is_number.kp, (ok_is_number F_is_number.toD m_isinstance m_int m_bool), q_is_number⟩
  have c_is_name : Cal P w K mg base "is_name" 1 f_is_name _ ["value"] S_is_name := ⟨a_is_name, (fun ds M q x h => by first | (obtain ⟨_, rfl, _⟩ := h; rfl) | (obtain ⟨_, _, rfl, _⟩ := h; rfl) | (obtain ⟨_, _, _, rfl, _⟩ := h; rfl) | (obtain ⟨_, _, _, _, rfl, _⟩ := h; rfl) | (obtain ⟨_, _, _, _, _, rfl, _⟩ := h; rfl) | (obtain ⟨_, _, _, _, _, _, rfl, _⟩ := h; rfl) | (obtain ⟨_, _, _, _, _, _, _, rfl, _⟩ := h; rfl) | (obtain ⟨_, _, _, _, _, _, _, _, rfl, _⟩ := h; rfl) | (obtain ⟨_, _, _, _, _, _, _, _, _, rfl, _⟩ := h; rfl) | (obtain ⟨_, _, _, _, _, _, _, _, _, _, rfl, _⟩ := h; rfl) | (obtain ⟨_, _, _, _, _, _, _, _, _, _, _, rfl, _⟩ := h; rfl) | (obtain ⟨_, _, _, _, _, _, _, _, _, _, _, _, rfl, _⟩ := h; rfl)), F_is_name.kp, (ok_is_name F_is_name.toD m_all m_isinstance m_str g_MOST_LETTERS g_LETTERS m_len), q_is_name⟩
  have c_is_term : Cal P w K mg base "is_term" 2 f_is_term _ ["value"] S_isterm := ⟨a_is_term, (fun ds M q x h => by first | (obtain ⟨_, rfl, _⟩ := h; rfl) | (obtain ⟨_, _, rfl, _⟩ := h; rfl) | (obtain ⟨_, _, _, rfl, _⟩ := h; rfl) | (obtain ⟨_, _, _, _, rfl, _⟩ := h; rfl) | (obtain ⟨_, _, _, _, _, rfl, _⟩ := h; rfl) | (obtain ⟨_, _, _, _, _, _, rfl, _⟩ := h; rfl) | (obtain ⟨_, _, _, _, _, _, _, rfl, _⟩ := h; rfl) | (obtain ⟨_, _, _, _, _, _, _, _, rfl, _⟩ := h; rfl) | (obtain ⟨_, _, _, _, _, _, _, _, _, rfl, _⟩ := h; rfl) | (obtain ⟨_, _, _, _, _, _, _, _, _, _, rfl, _⟩ := h; rfl) | (obtain ⟨_, _, _, _, _, _, _, _, _, _, _, rfl, _⟩ := h; rfl) | (obtain ⟨_, _, _, _, _, _, _, _, _, _, _, _, rfl, _⟩ := h; rfl)), F_is_term.kp, (ok_is_term F_is_term.toD c_is_number g_MOST_FACTOR m_isinstance m_tuple m_len c_is_name), q_is_term⟩
  have K_Fact : MkV P w K mg base "Fact" C_Fact f_Fact___init__ _ 3 ["self", "most"] "terms" (S_finit C_Fact ⟨C_InvalidTerm, C_InvalidNumber, C_NoTerms⟩) := ⟨a_Fact___init__, (ok_Fact___init__ F_Fact___init__.toD m_enumerate c_added_terms c_is_number g_MOST_SIDE x_InvalidNumber x_NoTerms c_is_term x_InvalidTerm T_Fact n_Fact_own_terms n_Fact_own_most), T_Fact.at_⟩
  have M_Fact_factor : Met P w K mg base C_Fact "factor" 1 f_Fact_factor _ ["self", "name"] (S_factor C_Fact) := ⟨a_Fact_factor.at_, a_Fact_factor.fn, (fun ds M q x h => by first | (obtain ⟨_, rfl, _⟩ := h; rfl) | (obtain ⟨_, _, rfl, _⟩ := h; rfl) | (obtain ⟨_, _, _, rfl, _⟩ := h; rfl) | (obtain ⟨_, _, _, _, rfl, _⟩ := h; rfl) | (obtain ⟨_, _, _, _, _, rfl, _⟩ := h; rfl) | (obtain ⟨_, _, _, _, _, _, rfl, _⟩ := h; rfl) | (obtain ⟨_, _, _, _, _, _, _, rfl, _⟩ := h; rfl) | (obtain ⟨_, _, _, _, _, _, _, _, rfl, _⟩ := h; rfl) | (obtain ⟨_, _, _, _, _, _, _, _, _, rfl, _⟩ := h; rfl) | (obtain ⟨_, _, _, _, _, _, _, _, _, _, rfl, _⟩ := h; rfl) | (obtain ⟨_, _, _, _, _, _, _, _, _, _, _, rfl, _⟩ := h; rfl) | (obtain ⟨_, _, _, _, _, _, _, _, _, _, _, _, rfl, _⟩ := h; rfl)), a_Fact_factor.kp, (ok_Fact_factor F_Fact_factor.toD m_sum T_Fact n_Fact_own_terms), q_Fact_factor⟩
  have p_Fact_most : Prp P w K mg base C_Fact "most" 1 f_Fact_most (S_fmost C_Fact) := ⟨a_Fact_most, _, q_Fact_most, (ok_Fact_most F_Fact_most.toD m_property T_Fact n_Fact_own_most)⟩
  exact (ok_law F_law.toD hcT TB c__law_bag m_range c__law_names c__law_of T_Fact c__law_take c__law_whys c__law_why K_Fact b_Fact___init___1_most M_Fact_factor p_Fact_most xc_InvalidTerm xa_InvalidTerm xc_InvalidNumber xa_InvalidNumber xc_NoTerms)
end
section
variable {w : World} {K : PySem.W.Frag} {h : Heap} {mg : Str → Option Value} {fa : Addr}
theorem ends (X : K.In h) (G : h.Ns mainGlobals mg) (hfa : mg "law" = some (.ref fa)) (hb : (facts K).all id = true) (hf : fns K = fvs) :
    ∃ fd : FuncData, (∃ oc od osl, K.lookup fa = some ⟨oc, od, .func fd, osl⟩) ∧ (∀ (s : Shared) (v : Value), BindsTo s fd ⟨[v], []⟩ [("_law_script", v)]) ∧ ∀ (base : Heap) (c_T P_T : Addr), K.In base → base.Ns mainGlobals mg → LamX.TabB base mg c_T P_T → fd.code = .ref c_T → FnG P0 w K mg base 15 fa fd ["_law_script"] (LSp K (SLawT P_T ("law" ++ ".<locals>." ++ "<lambda>"))) := by
  have e := hfa.symm.trans (He.glo_ok X G (fact_at hb 91))
  have e : fa = He.ga K "law" := by injection e with e; injection e
  subst e
  have top_super : (P0.main.scope.names.lookup ("super" : Str)).isSome = false := by kernel_rfl
  have m_list : mg "list" = none := He.free_ok X G (fact_at hb 0)
  have m_int : mg "int" = none := He.free_ok X G (fact_at hb 1)
  have m_len : mg "len" = none := He.free_ok X G (fact_at hb 2)
  have m_range : mg "range" = none := He.free_ok X G (fact_at hb 3)
  have m_sorted : mg "sorted" = none := He.free_ok X G (fact_at hb 4)
  have m_isinstance : mg "isinstance" = none := He.free_ok X G (fact_at hb 5)
  have m_bool : mg "bool" = none := He.free_ok X G (fact_at hb 6)
  have m_all : mg "all" = none := He.free_ok X G (fact_at hb 7)
  have m_str : mg "str" = none := He.free_ok X G (fact_at hb 8)
  have m_tuple : mg "tuple" = none := He.free_ok X G (fact_at hb 9)
  have m_enumerate : mg "enumerate" = none := He.free_ok X G (fact_at hb 10)
  have m_sum : mg "sum" = none := He.free_ok X G (fact_at hb 11)
  have m_property : mg "property" = none := He.free_ok X G (fact_at hb 12)
  have m_super : mg "super" = none := He.free_ok X G (fact_at hb 13)
  have e_ShareError : mg "ShareError" = some (.ref (He.ga K "ShareError")) := He.glo_ok X G (fact_at hb 14)
  have e_Missing : mg "Missing" = some (.ref (He.ga K "Missing")) := He.glo_ok X G (fact_at hb 15)
  have e_NothingLeft : mg "NothingLeft" = some (.ref (He.ga K "NothingLeft")) := He.glo_ok X G (fact_at hb 16)
  have g_MOST_LETTERS : GlobD K mg "MOST_LETTERS" (.int 8) := globZ_int X G (fact_at hb 17)
  have g_LETTERS : GlobD K mg "LETTERS" (.str "abcdefghijklmnopqrstuvwxyz") := globZ_str X G (fact_at hb 18)
  have g_MOST_FACTOR : GlobD K mg "MOST_FACTOR" (.int 1000) := globZ_int X G (fact_at hb 19)
  have g_MOST_SIDE : GlobD K mg "MOST_SIDE" (.int 1000000) := globZ_int X G (fact_at hb 20)
  obtain ⟨hm_InvalidNumber, hc_InvalidNumber, hX_InvalidNumber⟩ := xxZ_ok (P := P0) (qual := "InvalidNumber.__init__") (st := s_InvalidNumber___init__) (ps := ["given"]) X G PySem.DX.xbVE (fn_at hf 0) (fact_at hb 21) top_super m_super (by decide +kernel) ⟨_, rfl, rfl⟩ (fun _ _ _ _ _ _ _ s a us h => match us, h with | [_], _ => .of_eq rfl)
  have x_InvalidNumber : L2.Xn1 P0 K mg "InvalidNumber" (He.ga K "InvalidNumber") "given" "InvalidNumber" := PySem.DX.xn1_mk (st := s_InvalidNumber___init__) (prm := "given") hm_InvalidNumber hX_InvalidNumber rfl (fun L => ⟨_, rfl⟩) hc_InvalidNumber (He.noat_ok (fact_at hb 22)) (by decide) (by decide)
  obtain ⟨hm_NoTerms, hc_NoTerms, hX_NoTerms⟩ := xxZ_ok (P := P0) (qual := "NoTerms.__init__") (st := s_NoTerms___init__) (ps := []) X G PySem.DX.xbVE (fn_at hf 1) (fact_at hb 23) top_super m_super (by decide +kernel) ⟨_, rfl, rfl⟩ (fun _ _ _ _ _ _ _ s a us h => match us, h with | [], _ => .of_eq rfl)
  have x_NoTerms : L2.Xn0 P0 K mg "NoTerms" (He.ga K "NoTerms") "NoTerms" := PySem.DX.xn0_mk (st := s_NoTerms___init__) hm_NoTerms hX_NoTerms rfl (fun L => ⟨_, rfl⟩) hc_NoTerms
  obtain ⟨hm_InvalidTerm, hc_InvalidTerm, hX_InvalidTerm⟩ := xxZ_ok (P := P0) (qual := "InvalidTerm.__init__") (st := s_InvalidTerm___init__) (ps := ["at"]) X G PySem.DX.xbVE (fn_at hf 2) (fact_at hb 24) top_super m_super (by decide +kernel) ⟨_, rfl, rfl⟩ (fun _ _ _ _ _ _ _ s a us h => match us, h with | [_], _ => .of_eq rfl)
  have x_InvalidTerm : L2.Xn1 P0 K mg "InvalidTerm" (He.ga K "InvalidTerm") "at" "InvalidTerm" := PySem.DX.xn1_mk (st := s_InvalidTerm___init__) (prm := "at") hm_InvalidTerm hX_InvalidTerm rfl (fun L => ⟨_, rfl⟩) hc_InvalidTerm (He.noat_ok (fact_at hb 25)) (by decide) (by decide)
  have T_Fact : CT K mg "Fact" (He.ga K "Fact") := ctZ_ok X G (fact_at hb 26)
  have n_Fact_own_terms : NoAttr K (He.ga K "Fact") "own_terms" := He.noat_ok (fact_at hb 27)
  have n_Fact_own_most : NoAttr K (He.ga K "Fact") "own_most" := He.noat_ok (fact_at hb 28)
  have xc_InvalidTerm : XcA K [.ref (He.ga K "ShareError"), .ref (He.ga K "Missing"), .ref (He.ga K "NothingLeft")] (He.ga K "InvalidTerm") := xcZ_ok (fact_at hb 29)
  have xa_InvalidTerm : PySem.W.findIn K (.ref (He.ga K "InvalidTerm")) "at" = some none := He.noat_ok (fact_at hb 25)
  have xc_InvalidNumber : XcA K [.ref (He.ga K "ShareError"), .ref (He.ga K "Missing"), .ref (He.ga K "NothingLeft")] (He.ga K "InvalidNumber") := xcZ_ok (fact_at hb 30)
  have xa_InvalidNumber : PySem.W.findIn K (.ref (He.ga K "InvalidNumber")) "given" = some none := He.noat_ok (fact_at hb 22)
  have xc_NoTerms : XcA K [.ref (He.ga K "ShareError"), .ref (He.ga K "Missing"), .ref (He.ga K "NothingLeft")] (He.ga K "NoTerms") := xcZ_ok (fact_at hb 31)
  obtain ⟨fd__law_bag, F__law_bag⟩ := funN_of (fn_at hf 3) (fact_at hb 32) (fact_at hb 34) (fact_at hb 33)
  have a__law_bag : mg "_law_bag" = some (.ref (He.ga K "_law_bag")) := He.glo_ok X G (fact_at hb 35)
  obtain ⟨fd__law_take, F__law_take⟩ := funN_of (fn_at hf 4) (fact_at hb 36) (fact_at hb 38) (fact_at hb 37)
  have a__law_take : mg "_law_take" = some (.ref (He.ga K "_law_take")) := He.glo_ok X G (fact_at hb 39)
  obtain ⟨fd__law_of, F__law_of⟩ := funN_of (fn_at hf 5) (fact_at hb 40) (fact_at hb 42) (fact_at hb 41)
  have a__law_of : mg "_law_of" = some (.ref (He.ga K "_law_of")) := He.glo_ok X G (fact_at hb 43)
  obtain ⟨fd__law_names, F__law_names⟩ := funN_of (fn_at hf 6) (fact_at hb 44) (fact_at hb 46) (fact_at hb 45)
  have a__law_names : mg "_law_names" = some (.ref (He.ga K "_law_names")) := He.glo_ok X G (fact_at hb 47)
  obtain ⟨fd__law_fields, F__law_fields⟩ := funN_of (fn_at hf 7) (fact_at hb 48) (fact_at hb 50) (fact_at hb 49)
  have a__law_fields : mg "_law_fields" = some (.ref (He.ga K "_law_fields")) := He.glo_ok X G (fact_at hb 51)
  obtain ⟨fd__law_why, F__law_why⟩ := funN_of (fn_at hf 8) (fact_at hb 52) (fact_at hb 54) (fact_at hb 53)
  have a__law_why : mg "_law_why" = some (.ref (He.ga K "_law_why")) := He.glo_ok X G (fact_at hb 55)
  obtain ⟨fd__law_whys, F__law_whys⟩ := funN_of (fn_at hf 9) (fact_at hb 56) (fact_at hb 58) (fact_at hb 57)
  have a__law_whys : mg "_law_whys" = some (.ref (He.ga K "_law_whys")) := He.glo_ok X G (fact_at hb 59)
  obtain ⟨fd_added_terms, F_added_terms⟩ := funN_of (fn_at hf 10) (fact_at hb 60) (fact_at hb 62) (fact_at hb 61)
  have a_added_terms : mg "added_terms" = some (.ref (He.ga K "added_terms")) := He.glo_ok X G (fact_at hb 63)
  obtain ⟨fd_is_number, F_is_number⟩ := funN_of (fn_at hf 11) (fact_at hb 64) (fact_at hb 66) (fact_at hb 65)
  have a_is_number : mg "is_number" = some (.ref (He.ga K "is_number")) := He.glo_ok X G (fact_at hb 67)
  obtain ⟨fd_is_name, F_is_name⟩ := funN_of (fn_at hf 12) (fact_at hb 68) (fact_at hb 70) (fact_at hb 69)
  have a_is_name : mg "is_name" = some (.ref (He.ga K "is_name")) := He.glo_ok X G (fact_at hb 71)
  obtain ⟨fd_is_term, F_is_term⟩ := funN_of (fn_at hf 13) (fact_at hb 72) (fact_at hb 74) (fact_at hb 73)
  have a_is_term : mg "is_term" = some (.ref (He.ga K "is_term")) := He.glo_ok X G (fact_at hb 75)
  obtain ⟨fd_Fact___init__, F_Fact___init__⟩ := funN_of (fn_at hf 14) (fact_at hb 76) (fact_at hb 78) (fact_at hb 77)
  have a_Fact___init__ : Mk K (He.ga K "Fact") (He.ma K (He.ga K "Fact") "__init__") := He.mkr_ok (fact_at hb 79)
  obtain ⟨fd_Fact_factor, F_Fact_factor⟩ := funN_of (fn_at hf 15) (fact_at hb 80) (fact_at hb 82) (fact_at hb 81)
  have a_Fact_factor : Meth K (He.ga K "Fact") "factor" (He.ma K (He.ga K "Fact") "factor") := He.meth_ok (fact_at hb 83)
  obtain ⟨fd_Fact_most, F_Fact_most⟩ := funN_of (fn_at hf 16) (fact_at hb 84) (fact_at hb 86) (fact_at hb 85)
  have a_Fact_most : ∃ p, PropOf K (He.ga K "Fact") "most" p (prF K (He.ga K "Fact") "most") := ⟨_, prpZ_ok (fact_at hb 87)⟩
  obtain ⟨fd_law, F_law⟩ := funN_of (fn_at hf 17) (fact_at hb 88) (fact_at hb 90) (fact_at hb 89)
  have q_law := FunN.pos (ps := ["_law_script"]) F_law fun _ _ _ _ _ _ us hl => match us, hl with | [_], _ => rfl
  have lk : ∃ oc od osl, K.lookup (He.ga K "law") = some ⟨oc, od, .func fd_law, osl⟩ := by
    obtain ⟨⟨oc, od, _, _, _, _, _, _, osl, _, hl, _⟩, _⟩ := F_law
    exact ⟨oc, od, osl, hl⟩
  exact ⟨fd_law, lk, fun s v => q_law s [v] rfl, fun base c_T P_T _ _ TB hcT => all_mk m_list m_int m_len m_range m_sorted m_isinstance m_bool m_all m_str m_tuple m_enumerate m_sum m_property e_ShareError e_Missing e_NothingLeft g_MOST_LETTERS g_LETTERS g_MOST_FACTOR g_MOST_SIDE x_InvalidNumber x_NoTerms x_InvalidTerm T_Fact n_Fact_own_terms n_Fact_own_most xc_InvalidTerm xa_InvalidTerm xc_InvalidNumber xa_InvalidNumber xc_NoTerms F__law_bag a__law_bag F__law_take a__law_take F__law_of a__law_of F__law_names a__law_names F__law_fields a__law_fields F__law_why a__law_why F__law_whys a__law_whys F_added_terms a_added_terms F_is_number a_is_number F_is_name a_is_name F_is_term a_is_term F_Fact___init__ a_Fact___init__ F_Fact_factor a_Fact_factor F_Fact_most a_Fact_most F_law c_T P_T TB hcT⟩
end
end K22
open PySem PySem.W PyProof.Rows
set_option maxRecDepth 100000 in
set_option maxHeartbeats 0 in
theorem PySem.Challenge.cw_waitshares_k22_facts_refused_holds : PySem.Challenge.rw_waitshares_k22_facts_refused.Holds := by
  w_on; o_law
  refine HandSHeadRun.head_any (r := K22.R0) (q := view K22.R0.prog [39]) (H := DL.hookZ 3 K22.facts K22.fns K22.fvs) (ob := DL.obZ 3 K22.facts K22.fns) (M := 20000) (loose := K22.loose) (d := HandSHeadRun.topDef K22.R0.prog 39) (kwd := []) (fun s => DL.obZ_eq s)
    (by kernel_rfl) (fun s => by kernel_rfl) K22.run (by kernel_rfl) (by kernel_rfl) (by kernel_rfl) (by rfl) (by first | assumption | decide +kernel) (by decide +kernel) ⟨rfl, rfl, rfl, rfl, rfl, by decide +kernel⟩ ?hw ?hc
  case hw => w_witness2
  case hc =>
    refine DL.walkZT (l := PySem.Challenge.rw_waitshares_k22_facts_refused) (k := 15) (x := "_law_script") (qn := ("law" : Str) ++ ".<locals>." ++ "<lambda>") rfl (by kernel_rfl) ⟨rfl, by decide, by decide⟩ (by kernel_rfl) ?F
    intro w mg fa h Y G hmg0
    obtain ⟨K, KX, hT, hb, hf⟩ := Y
    have hmg : mg ("law" : PySem.Str) = some (.ref fa) := by
      have e : (HandSHeadRun.topDef K22.R0.prog 39).name = ("law" : PySem.Str) := by kernel_rfl
      rw [← e]
      exact hmg0
    obtain ⟨fd, h1, h2, h3⟩ := K22.ends KX G hmg hb hf
    exact ⟨K, fd, KX, hT, h1, h2, h3⟩
