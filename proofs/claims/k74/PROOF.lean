import PyProof.Rows.All
import HandS.ForMost
import HandS.ForExc
import HandS.Defaults
import HandS.Flow
import HandS.Lambda
import HandS.Wide
import HandS.WordsDict
import HandS.TupAny
import HandS.Text
import HandS.IsInst
import HandS.FStr
import HandS.Iter
import HandS.Comp
import HandS.StrMore
import HandS.HeadHook4
import HandS.Star
import PyProof.StrOps2
import KE.KExcSuper
import HandS.HeadWalk
import HandS.ExcInit
import HandS.ExcIs
import HandS.ExcField
import KE.KExcIs
import KE.KNest
import PyProof.RulesMatch
import HandS.Zip
import KE.GoesEnum
import PyProof.ReprRoads
import HandS.RaiseMore
import HandS.Head2
import HandS.Exc
import HandS.EndTab
import HandS.Head0
import HandS.Head1
import HandS.HeadEnd
import PySem.Challenge.RW_centbook_k74_rows_and_errors
import KE.IntText
import PyProof.StrLawsRepr
import PyProof.Rows.StrDigitsNeg
set_option Elab.async false
set_option linter.all false
set_option maxRecDepth 100000
/-! Values of Python as trees (D), a small heap of the objects that change (PH), and what it means that HandS's abstract heap bears them. -/
namespace MI
open PySem L2

/-- a value: lists and instances that never change again are trees; ref i is the i-th object that may change; fn k is the k-th def (or class) as a value -/
inductive D where
  | non | bl (b : Bool) | int (i : Int) | str (s : Str)
  | tup (xs : List D) | lst (xs : List D) | frz (xs : List D) | obj (c : Nat) (fs : List (Str × D))
  | ref (i : Nat) | fn (k : Nat) | ty (n : String)
  /-- an exception; a lambda that captures nothing; a lambda at f, its code object at c -/
  | exv (c : Nat) (fs : List (Str × D)) | lam (k : Nat) | clo (f c : Addr) (q : Str) (ds : List D) (vs : List V)
  /-- a class -/
  | cls (c : Nat)
  deriving Inhabited

/-- an object that may change -/
inductive O where
  | lst (xs : List D)
  | ins (c : Nat) (fs : List (Str × D))
  /-- a table of code objects of the name q -/
  | tbl (q : Str)
  deriving Inhabited
abbrev PH := List O
/-- an exception: its class, its fields -/
structure Xc where
  c : Nat
  fs : List (Str × D)
inductive Res (β : Type) where
  | ok (b : β) (π : PH)
  | exc (x : Xc) (π : PH)
  | stuck
abbrev Env := List (Option D)
abbrev M (β : Type) := Env → PH → Res β

/-- what stands for the numbers of defs and classes -/
structure LamD where
  qual : Str
  params : Arguments
  body : Expr
  scope : Scope
  deriving Inhabited
structure G where
  K : PySem.W.Frag
  fadr : Nat → Addr
  cadr : Nat → Addr
  lamD : Nat → LamD
  /-- the tables of code objects: they stand at the head of the small heap -/
  tab : Nat → Addr
/-- an exception that was caught, its dict at dx -/
def ExT (cls : Value) (dx a : Addr) : HO := .ext fun h => ∃ (oe : Obj) (vs : Array Value), h.get? a = some oe ∧ Zc cls (some dx) oe ∧ oe.data = .fields vs
/-- a lambda that captures nothing -/
def LamO (l : LamD) (c a : Addr) : HO := .ext fun h => ∃ pm ctv : Value, h.get? a = some (PySem.W.kla_obj "<lambda>" l.qual l.params l.body l.scope [] pm c ctv)

section
variable (g : G) (α : List Addr) (F : Addr → Prop) (H : Hp)
mutual
inductive RD : D → V → Prop where
  | non : RD .non .non
  | bl (b : Bool) : RD (.bl b) (.bl b)
  | int (i : Int) : RD (.int i) (.int i)
  | str (s : Str) : RD (.str s) (.str s)
  | tup {a : Addr} {ds : List D} {vs : List V} : SqT g.K H a vs → RDs ds vs → RD (.tup ds) (.ref a)
  | lst {a : Addr} {ds : List D} {vs : List V} : H a = some (.lst vs) → a ∉ α → ¬ F a → RDs ds vs → RD (.lst ds) (.ref a)
  | frz {a : Addr} {o : Obj} {ds : List D} {vs : List V} : H a = some (.frz o (.lst vs)) → RDs ds vs → RD (.frz ds) (.ref a)
  | obj {a dx : Addr} {c : Nat} {fs : List (Str × D)} {vs : List (Str × V)} : H a = some (.ins (g.cadr c) dx vs) → a ∉ α → ¬ F a → RFs fs vs → RD (.obj c fs) (.ref a)
  | ref {i : Nat} {a : Addr} : α[i]? = some a → RD (.ref i) (.ref a)
  | fn (k : Nat) : RD (.fn k) (.ref (g.fadr k))
  | ty (n : String) : RD (.ty n) (.ty n)
  | exv {a dx : Addr} {c : Nat} {fs : List (Str × D)} {vs : List (Str × V)} : H a = some (ExT (.ref (g.cadr c)) dx a) → a ∉ α → ¬ F a → H dx = some (.xd vs) → dx ∉ α → ¬ F dx → RFs fs vs → RD (.exv c fs) (.ref a)
  | lam {a c : Addr} {k : Nat} : H a = some (LamO (g.lamD k) c a) → a ∉ α → ¬ F a → H c = some (LamX.CodeO c (g.lamD k).qual) → c ∉ α → ¬ F c → RD (.lam k) (.ref a)
  | cls (c : Nat) : RD (.cls c) (.ref (g.cadr c))
  | clo {f c : Addr} {q : Str} {ds : List D} {vs : List V} : H c = some (LamX.CodeO c q) → c ∉ α → ¬ F c → RDs ds vs → RD (.clo f c q ds vs) (.ref f)
inductive RDs : List D → List V → Prop where
  | nil : RDs [] []
  | cons {d : D} {v : V} {ds : List D} {vs : List V} : RD d v → RDs ds vs → RDs (d :: ds) (v :: vs)
inductive RFs : List (Str × D) → List (Str × V) → Prop where
  | nil : RFs [] []
  | cons {n : Str} {d : D} {v : V} {ds : List (Str × D)} {vs : List (Str × V)} : RD d v → RFs ds vs → RFs ((n, d) :: ds) ((n, v) :: vs)
end
/-- an object that may change, as it stands -/
inductive RO : O → HO → Prop where
  | lst {ds : List D} {vs : List V} : RDs g α F H ds vs → RO (.lst ds) (.lst vs)
  | ins {c : Nat} {dx : Addr} {fs : List (Str × D)} {vs : List (Str × V)} : RFs g α F H fs vs → RO (.ins c fs) (.ins (g.cadr c) dx vs)
  | tbl {q : Str} {ps : Array Value} : TriplesOk ps.toList → (∀ (pos : Pos) (cv : Value), codeAmong pos ps.toList = some cv → ∃ c, cv = .ref c ∧ H c = some (LamX.CodeO c q) ∧ c ∉ α ∧ ¬ F c) → RO (.tbl q) (.tbl ps)
def RX (x : Xc) (cls : Value) (dd : Option Addr) : Prop := cls = .ref (g.cadr x.c) ∧ ∃ a vs, dd = some a ∧ H a = some (.xd vs) ∧ a ∉ α ∧ ¬ F a ∧ RFs g α F H x.fs vs
end

/-- the heap behind: what is not among α stands as it stood -/
structure Le (α : List Addr) (H : Hp) (α' : List Addr) (H' : Hp) : Prop where
  ext : ∃ e : List Addr, α' = α ++ e ∧ ∀ a ∈ e, H a = none
  keep : ∀ a o, H a = some o → a ∉ α → H' a = some o
  tup : ∀ a vs, H a = some (.tup vs) → H' a = some (.tup vs)
  frz : ∀ a o u, H a = some (.frz o u) → H' a = some (.frz o u)
  dom : ∀ a, H' a = none → H a = none

section
variable {g : G} {α α' α'' : List Addr} {F F' : Addr → Prop} {H H' H'' : Hp}
theorem Le.refl : Le α H α H := ⟨⟨[], by simp, by simp⟩, fun _ _ h _ => h, fun _ _ h => h, fun _ _ _ h => h, fun _ h => h⟩
theorem Le.trans (x : Le α H α' H') (y : Le α' H' α'' H'') : Le α H α'' H'' := by
  obtain ⟨e, he, hn⟩ := x.ext
  obtain ⟨e2, he2, hn2⟩ := y.ext
  refine ⟨⟨e ++ e2, by rw [he2, he, List.append_assoc], fun a ha => ?_⟩, fun a o h hα => y.keep a o (x.keep a o h hα) ?_, fun a vs h => y.tup a vs (x.tup a vs h), fun a o u h => y.frz a o u (x.frz a o u h), fun a h => x.dom a (y.dom a h)⟩
  · rcases List.mem_append.mp ha with h | h
    · exact hn a h
    · exact x.dom a (hn2 a h)
  · rw [he]
    intro hm
    rcases List.mem_append.mp hm with h2 | h2
    · exact hα h2
    · rw [hn a h2] at h; cases h
theorem Le.at (x : Le α H α' H') {i : Nat} {a : Addr} (h : α[i]? = some a) : α'[i]? = some a := by
  obtain ⟨e, he, _⟩ := x.ext
  rw [he, List.getElem?_append_left (List.getElem?_eq_some_iff.mp h).1]
  exact h
theorem Le.notin (x : Le α H α' H') {a : Addr} {o : HO} (h : H a = some o) (hα : a ∉ α) : a ∉ α' := by
  obtain ⟨e, he, hn⟩ := x.ext
  rw [he]
  intro hm
  rcases List.mem_append.mp hm with h2 | h2
  · exact hα h2
  · rw [hn a h2] at h; cases h
theorem Le.rd (x : Le α H α' H') {a : Addr} {u : HO} (h : Rd H a u) (hα : a ∉ α) : Rd H' a u ∧ a ∉ α' := by
  rcases h with h | ⟨o, h⟩
  · exact ⟨.inl (x.keep a _ h hα), x.notin h hα⟩
  · exact ⟨.inr ⟨o, x.frz a o u h⟩, x.notin h hα⟩
theorem Le.sqT (x : Le α H α' H') {K : PySem.W.Frag} {a : Addr} {vs : List V} (h : SqT K H a vs) : SqT K H' a vs := by
  rcases h with (h | ⟨o, h⟩) | h
  · exact .inl (.inl (x.tup a vs h))
  · exact .inl (.inr ⟨o, x.frz a o _ h⟩)
  · exact .inr h
mutual
theorem RD.mono (x : Le α H α' H') : ∀ {d : D} {v : V}, RD g α F H d v → RD g α' F H' d v
  | _, _, .non => .non
  | _, _, .bl b => .bl b
  | _, _, .int i => .int i
  | _, _, .str s => .str s
  | _, _, .tup h hs => .tup (x.sqT h) (RDs.mono x hs)
  | _, _, .lst h hα hF hs => .lst (x.keep _ _ h hα) (x.notin h hα) hF (RDs.mono x hs)
  | _, _, .frz h hs => .frz (x.frz _ _ _ h) (RDs.mono x hs)
  | _, _, .obj h hα hF hs => .obj (x.keep _ _ h hα) (x.notin h hα) hF (RFs.mono x hs)
  | _, _, .ref h => .ref (x.at h)
  | _, _, .fn k => .fn k
  | _, _, .ty n => .ty n
  | _, _, .exv h1 h2 h3 h4 h5 h6 h7 => .exv (x.keep _ _ h1 h2) (x.notin h1 h2) h3 (x.keep _ _ h4 h5) (x.notin h4 h5) h6 (RFs.mono x h7)
  | _, _, .lam h1 h2 h3 h4 h5 h6 => .lam (x.keep _ _ h1 h2) (x.notin h1 h2) h3 (x.keep _ _ h4 h5) (x.notin h4 h5) h6
  | _, _, .cls c => .cls c
  | _, _, .clo h4 h5 h6 h7 => .clo (x.keep _ _ h4 h5) (x.notin h4 h5) h6 (RDs.mono x h7)
theorem RDs.mono (x : Le α H α' H') : ∀ {d : List D} {v : List V}, RDs g α F H d v → RDs g α' F H' d v
  | _, _, .nil => .nil
  | _, _, .cons h hs => .cons (RD.mono x h) (RDs.mono x hs)
theorem RFs.mono (x : Le α H α' H') : ∀ {d : List (Str × D)} {v : List (Str × V)}, RFs g α F H d v → RFs g α' F H' d v
  | _, _, .nil => .nil
  | _, _, .cons h hs => .cons (RD.mono x h) (RFs.mono x hs)
end
theorem RO.mono (x : Le α H α' H') {o : O} {ho : HO} (h : RO g α F H o ho) : RO g α' F H' o ho := by
  cases h with
  | lst h => exact .lst (h.mono x)
  | ins h => exact .ins (h.mono x)
  | tbl h1 h2 =>
    refine .tbl h1 fun pos cv e => ?_
    obtain ⟨c, e1, e2, e3, e4⟩ := h2 pos cv e
    exact ⟨c, e1, x.keep _ _ e2 e3, x.notin e2 e3, e4⟩
theorem RDs.length : ∀ {d : List D} {v : List V}, RDs g α F H d v → d.length = v.length
  | _, _, .nil => rfl
  | _, _, .cons _ hs => by simp [RDs.length hs]
theorem RDs.get : ∀ {ds : List D} {vs : List V} {i : Nat} {d : D}, RDs g α F H ds vs → ds[i]? = some d → ∃ v, vs[i]? = some v ∧ RD g α F H d v
  | _, _, _, _, .nil, h => by simp at h
  | _, _, 0, _, .cons r _, h => by simp at h; subst h; exact ⟨_, rfl, r⟩
  | _, _, i + 1, d, .cons _ t, h => by
    obtain ⟨v, h1, h2⟩ := RDs.get (i := i) (d := d) t (by simpa using h)
    exact ⟨v, by simpa using h1, h2⟩
theorem RDs.getV : ∀ {ds : List D} {vs : List V} {i : Nat} {v : V}, RDs g α F H ds vs → vs[i]? = some v → ∃ d, ds[i]? = some d ∧ RD g α F H d v
  | _, _, _, _, .nil, h => by simp at h
  | _, _, 0, _, .cons r _, h => by simp at h; subst h; exact ⟨_, rfl, r⟩
  | _, _, i + 1, v, .cons _ t, h => by
    obtain ⟨d, h1, h2⟩ := RDs.getV (i := i) (v := v) t (by simpa using h)
    exact ⟨d, by simpa using h1, h2⟩
theorem RDs.append : ∀ {d e : List D} {v w : List V}, RDs g α F H d v → RDs g α F H e w → RDs g α F H (d ++ e) (v ++ w)
  | _, _, _, _, .nil, s => s
  | _, _, _, _, .cons r t, s => .cons r (RDs.append t s)
theorem RDs.take : ∀ {d : List D} {v : List V} (n : Nat), RDs g α F H d v → RDs g α F H (d.take n) (v.take n)
  | _, _, 0, _ => by simp; exact .nil
  | _, _, _ + 1, .nil => by simp; exact .nil
  | _, _, n + 1, .cons r t => by simp; exact .cons r (RDs.take n t)
theorem RDs.drop : ∀ {d : List D} {v : List V} (n : Nat), RDs g α F H d v → RDs g α F H (d.drop n) (v.drop n)
  | _, _, 0, h => by simpa using h
  | _, _, _ + 1, .nil => by simp; exact .nil
  | _, _, n + 1, .cons r t => by simp; exact RDs.drop n t
theorem RDs.set {d : D} {v : V} (r : RD g α F H d v) : ∀ {ds : List D} {vs : List V} (i : Nat), RDs g α F H ds vs → RDs g α F H (ds.set i d) (vs.set i v)
  | _, _, _, .nil => by simp; exact .nil
  | _, _, 0, .cons _ t => by simp; exact .cons r t
  | _, _, i + 1, .cons q t => by simp; exact .cons q (RDs.set r i t)
theorem RFs.get : ∀ {ds : List (Str × D)} {vs : List (Str × V)} {n : Str} {d : D}, RFs g α F H ds vs → ds.lookup n = some d → ∃ v, vs.lookup n = some v ∧ RD g α F H d v
  | _, _, _, _, .nil, h => by simp at h
  | _, _, n, d, .cons (n := m) r t, h => by
    by_cases e : n = m
    · subst e
      simp [List.lookup] at h
      subst h
      exact ⟨_, by simp [List.lookup], r⟩
    · have e' : (n == m) = false := by simpa using e
      simp [List.lookup, e'] at h
      obtain ⟨v, h1, h2⟩ := RFs.get t h
      exact ⟨v, by simp [List.lookup, e', h1], h2⟩
theorem RFs.length : ∀ {d : List (Str × D)} {v : List (Str × V)}, RFs g α F H d v → d.length = v.length
  | _, _, .nil => rfl
  | _, _, .cons _ hs => by simp [RFs.length hs]
/-- put a field -/
def putD (f : Str) (v : D) : List (Str × D) → List (Str × D)
  | [] => [(f, v)]
  | (n, x) :: r => if n = f then (n, v) :: r else (n, x) :: putD f v r
theorem RFs.put {f : Str} {d : D} {v : V} (r : RD g α F H d v) : ∀ {ds : List (Str × D)} {vs : List (Str × V)}, RFs g α F H ds vs → RFs g α F H (putD f d ds) (putF f v vs)
  | _, _, .nil => .cons r .nil
  | _, _, .cons (n := n) q t => by
    unfold putD putF
    by_cases e : n = f
    · simp only [if_pos e]; exact .cons r t
    · simp only [if_neg e]; exact .cons q (RFs.put r t)
end

/-- the small heap is borne -/
structure RelP (g : G) (F : Addr → Prop) (α : List Addr) (π : PH) (H : Hp) : Prop where
  nd : α.Nodup
  len : α.length = π.length
  obj : ∀ (i : Nat) a o, α[i]? = some a → π[i]? = some o → ∃ ho, H a = some ho ∧ RO g α F H o ho
  dom : ∀ a, F a → H a ≠ none
  sep : ∀ a ∈ α, ¬ F a
  tabs : ∀ (t : Nat) q, π[t]? = some (.tbl q) → α[t]? = some (g.tab t)
structure Rel (g : G) (F : Addr → Prop) (α : List Addr) (δ : Env) (π : PH) (σ : L2.St) (H : Hp) : Prop where
  p : RelP g F α π H
  len : δ.length = σ.length
  slot : ∀ (i : Nat) d, δ[i]? = some (some d) → ∃ v, σ[i]? = some (some v) ∧ RD g α F H d v

section
variable {g : G} {α α' α'' : List Addr} {F F' : Addr → Prop} {H H' H'' : Hp} {π π' : PH} {δ δ' : Env} {σ σ' : L2.St}
theorem Rel.with (r : Rel g F α δ π σ H) (le : Le α H α' H') (p : RelP g F α' π' H') : Rel g F α' δ π' σ H' :=
  ⟨p, r.len, fun i d h => let ⟨v, h1, h2⟩ := r.slot i d h; ⟨v, h1, h2.mono le⟩⟩
theorem Rel.set (r : Rel g F α δ π σ H) {i : Nat} {d : D} {v : V} (rd : RD g α F H d v) : Rel g F α (δ.set i (some d)) π (σ.set i (some v)) H :=
  ⟨r.p, by simp [r.len], fun j e h => by
    rw [List.getElem?_set] at h ⊢
    by_cases hij : i = j
    · subst hij
      by_cases hl : i < δ.length
      · rw [if_pos rfl, if_pos hl] at h
        rw [if_pos rfl, if_pos (by rw [← r.len]; exact hl)]
        cases h
        exact ⟨v, rfl, rd⟩
      · rw [if_pos rfl, if_neg hl] at h; cases h
    · rw [if_neg hij] at h ⊢
      exact r.slot j e h⟩
theorem Rel.unset (r : Rel g F α δ π σ H) {i : Nat} {x : Option V} : Rel g F α (δ.set i none) π (σ.set i x) H :=
  ⟨r.p, by simp [r.len], fun j e h => by
    rw [List.getElem?_set] at h ⊢
    by_cases hij : i = j
    · subst hij
      rw [if_pos rfl] at h
      split at h <;> cases h
    · rw [if_neg hij] at h ⊢
      exact r.slot j e h⟩
/-- a new thing that nothing else knows: nothing of the small heap changes -/
theorem RelP.fresh (r : RelP g F α π H) {p : Addr} {o : HO} (hp : H p = none) : RelP g F α π (upd H p o) ∧ Le α H α (upd H p o) ∧ p ∉ α ∧ ¬ F p := by
  have nα : p ∉ α := fun hm => by
    obtain ⟨i, hi⟩ := List.mem_iff_getElem?.mp hm
    have hl : i < π.length := by rw [← r.len]; exact (List.getElem?_eq_some_iff.mp hi).1
    obtain ⟨ho, h1, _⟩ := r.obj i p π[i] hi (by simp [hl])
    rw [hp] at h1; cases h1
  have le : Le α H α (upd H p o) := ⟨⟨[], by simp, by simp⟩, fun a u h _ => by rw [upd_ne (ne_of_none h hp)]; exact h, fun a u h => by rw [upd_ne (ne_of_none h hp)]; exact h,
    fun a x u h => by rw [upd_ne (ne_of_none h hp)]; exact h, fun a h => by
      by_cases e : a = p
      · subst e; exact hp
      · rw [upd_ne e] at h; exact h⟩
  refine ⟨⟨r.nd, r.len, fun i a x ha hx => ?_, fun a h => ?_, r.sep, r.tabs⟩, le, nα, fun h => r.dom p h hp⟩
  · obtain ⟨ho, h1, h2⟩ := r.obj i a x ha hx
    exact ⟨ho, by rw [upd_ne (ne_of_none h1 hp)]; exact h1, h2.mono le⟩
  · by_cases e : a = p
    · subst e; rw [upd_same]; simp
    · rw [upd_ne e]; exact r.dom a h
/-- a new thing that may change -/
theorem RelP.reg (r : RelP g F α π H) {p : Addr} {o : O} {ho : HO} (hp : H p = none) (ro : RO g α F H o ho) (nt : ∀ q, o ≠ .tbl q := by intro _ z; cases z) : RelP g F (α ++ [p]) (π ++ [o]) (upd H p ho) ∧ Le α H (α ++ [p]) (upd H p ho) := by
  obtain ⟨r1, le1, nα, nF⟩ := r.fresh (o := ho) hp
  have le : Le α H (α ++ [p]) (upd H p ho) := ⟨⟨[p], rfl, fun a ha => by simp at ha; rw [ha]; exact hp⟩, le1.keep, le1.tup, le1.frz, le1.dom⟩
  refine ⟨⟨?_, by simp [r.len], fun i a x ha hx => ?_, r1.dom, fun a ha => ?_, fun t q h => ?_⟩, le⟩
  · rw [List.nodup_append]
    exact ⟨r.nd, by simp, fun a ha b hb => by simp at hb; rintro rfl; subst hb; exact nα ha⟩
  · by_cases hi : i < α.length
    · rw [List.getElem?_append_left hi] at ha
      rw [List.getElem?_append_left (by rw [← r.len]; exact hi)] at hx
      obtain ⟨h, h1, h2⟩ := r.obj i a x ha hx
      exact ⟨h, by rw [upd_ne (ne_of_none h1 hp)]; exact h1, h2.mono le⟩
    · rw [List.getElem?_append_right (by omega)] at ha
      rw [List.getElem?_append_right (by rw [← r.len]; omega), ← r.len] at hx
      have e0 : i - α.length = 0 := by
        have := (List.getElem?_eq_some_iff.mp ha).1
        simp at this; omega
      rw [e0] at ha hx
      simp at ha hx
      subst ha; subst hx
      exact ⟨ho, upd_same, ro.mono le⟩
  · rcases List.mem_append.mp ha with h | h
    · exact r.sep a h
    · simp at h; subst h; exact nF
  · by_cases hi : t < π.length
    · rw [List.getElem?_append_left hi] at h
      rw [List.getElem?_append_left (by rw [r.len]; exact hi)]
      exact r.tabs t q h
    · rw [List.getElem?_append_right (by omega)] at h
      have e0 : t - π.length = 0 := by
        have := (List.getElem?_eq_some_iff.mp h).1
        simp at this; omega
      rw [e0] at h
      simp at h
      exact absurd h (nt q)
theorem idx_inj : ∀ {α : List Addr}, α.Nodup → ∀ {i j : Nat} {a : Addr}, α[i]? = some a → α[j]? = some a → i = j
  | [], _, _, _, _, h, _ => by simp at h
  | x :: l, nd, 0, 0, _, _, _ => rfl
  | x :: l, nd, 0, j + 1, a, h1, h2 => by
    simp at h1 h2
    subst h1
    exact absurd (List.mem_iff_getElem?.mpr ⟨j, h2⟩) (List.nodup_cons.mp nd).1
  | x :: l, nd, i + 1, 0, a, h1, h2 => by
    simp at h1 h2
    subst h2
    exact absurd (List.mem_iff_getElem?.mpr ⟨i, h1⟩) (List.nodup_cons.mp nd).1
  | x :: l, nd, i + 1, j + 1, a, h1, h2 => by
    simp at h1 h2
    rw [idx_inj (List.nodup_cons.mp nd).2 h1 h2]
/-- the i-th thing is changed -/
theorem RelP.write (r : RelP g F α π H) {i : Nat} {p : Addr} {o : O} {ho old : HO} (hi : α[i]? = some p) (hold : H p = some old) (nt : ∀ vs, old ≠ .tup vs) (nf : ∀ x u, old ≠ .frz x u)
    (ro : RO g α F H o ho) (ntb : ∀ q, o = .tbl q → π[i]? = some (.tbl q) := by intro _ z; cases z) : RelP g F α (π.set i o) (upd H p ho) ∧ Le α H α (upd H p ho) := by
  have hm : p ∈ α := List.mem_iff_getElem?.mpr ⟨i, hi⟩
  have le : Le α H α (upd H p ho) := ⟨⟨[], by simp, by simp⟩, fun a u h hα => by rw [upd_ne (fun e => hα (by rw [e]; exact hm))]; exact h,
    fun a u h => by
      rw [upd_ne (fun e => by subst e; rw [h] at hold; cases hold; exact nt _ rfl)]; exact h,
    fun a x u h => by
      rw [upd_ne (fun e => by subst e; rw [h] at hold; cases hold; exact nf _ _ rfl)]; exact h,
    fun a h => by
      by_cases e : a = p
      · subst e; rw [upd_same] at h; cases h
      · rw [upd_ne e] at h; exact h⟩
  refine ⟨⟨r.nd, by simp [r.len], fun j a x ha hx => ?_, fun a h => ?_, r.sep, fun t q h => ?_⟩, le⟩
  · rw [List.getElem?_set] at hx
    by_cases hij : i = j
    · subst hij
      rw [ha] at hi; cases hi
      have hl : i < π.length := by rw [← r.len]; exact (List.getElem?_eq_some_iff.mp ha).1
      rw [if_pos rfl, if_pos hl] at hx
      cases hx
      exact ⟨ho, upd_same, ro.mono le⟩
    · rw [if_neg hij] at hx
      obtain ⟨h, h1, h2⟩ := r.obj j a x ha hx
      have hap : a ≠ p := fun e => hij (by subst e; exact idx_inj r.nd hi ha)
      exact ⟨h, by rw [upd_ne hap]; exact h1, h2.mono le⟩
  · by_cases e : a = p
    · subst e; rw [upd_same]; simp
    · rw [upd_ne e]; exact r.dom a h
  · rw [List.getElem?_set] at h
    by_cases e : i = t
    · subst e
      rw [if_pos rfl] at h
      split at h
      · exact r.tabs i q (ntb q (Option.some.inj h))
      · cases h
    · rw [if_neg e] at h; exact r.tabs t q h
end
end MI

set_option Elab.async false
set_option linter.all false
set_option maxRecDepth 100000
/-! What a mirror's result promises (Post), the readings T .. of mirrors, rules of expressions. -/
namespace MI
open PySem L2

def Res.bind {β γ : Type} : Res β → (β → PH → Res γ) → Res γ
  | .ok b π, k => k b π
  | .exc x π, _ => .exc x π
  | .stuck, _ => .stuck

/-- R: what a result's value in Lean and in the abstract heap have to do with one another -/
def Post {β γ : Type} (g : G) (F : Addr → Prop) (R : List Addr → Hp → β → γ → Prop) (W : WX) (α : List Addr) (δ : Env) (σ : L2.St) (H : Hp) (Q : γ → Hp → Prop) : Res β → Prop
  | .ok b π' => ∀ α' H' v, Le α H α' H' → Rel g F α' δ π' σ H' → R α' H' b v → Q v H'
  | .exc x π' => ∀ α' H' cls dd, Le α H α' H' → Rel g F α' δ π' σ H' → RX g α' F H' x cls dd → W cls dd σ H'
  | .stuck => False

section
variable {β γ β' γ' : Type} {g : G} {F : Addr → Prop} {R : List Addr → Hp → β → γ → Prop} {R' : List Addr → Hp → β' → γ' → Prop} {W : WX} {α α' : List Addr} {δ : Env} {π : PH} {σ : L2.St} {H H' : Hp} {Q Q' : γ → Hp → Prop}
/-- from a later state -/
theorem Post.le {r : Res β} (le : Le α H α' H') (h : Post g F R W α δ σ H Q r) : Post g F R W α' δ σ H' Q r := by
  cases r with
  | ok b π => exact fun α2 H2 v l r x => h α2 H2 v (le.trans l) r x
  | exc x π => exact fun α2 H2 c d l r y => h α2 H2 c d (le.trans l) r y
  | stuck => exact h
theorem Post.imp {r : Res β} (h : Post g F R W α δ σ H Q r) (hQ : ∀ v H', Q v H' → Q' v H') : Post g F R W α δ σ H Q' r := by
  cases r with
  | ok b π => exact fun α2 H2 v l r x => hQ _ _ (h α2 H2 v l r x)
  | exc x π => exact h
  | stuck => exact h
theorem Post.bind {r : Res β} {k : β → PH → Res β'} {Q' : γ' → Hp → Prop} (h : Post g F R' W α δ σ H Q' (r.bind k)) :
    Post g F R W α δ σ H (fun v H1 => ∃ α1 π1 b, Le α H α1 H1 ∧ Rel g F α1 δ π1 σ H1 ∧ R α1 H1 b v ∧ Post g F R' W α1 δ σ H1 Q' (k b π1)) r := by
  cases r with
  | ok b π => exact fun α2 H2 v l r x => ⟨α2, π, b, l, r, x, Post.le l h⟩
  | exc x π => exact h
  | stuck => exact h
end

abbrev RV (g : G) (F : Addr → Prop) : List Addr → Hp → D → V → Prop := fun α H d v => RD g α F H d v
abbrev RB : List Addr → Hp → Bool → Bool → Prop := fun _ _ b c => b = c
abbrev RA (g : G) (F : Addr → Prop) : List Addr → Hp → List D → List V → Prop := fun α H d v => RDs g α F H d v
abbrev RI : List Addr → Hp → Option Int → Option Int → Prop := fun _ _ b c => b = c

/-- the reading of a mirror -/
def TX {β γ : Type} (g : G) (R : (Addr → Prop) → List Addr → Hp → β → γ → Prop) (W : WX) (m : M β) : L2.St → Hp → (γ → Hp → Prop) → Prop := fun σ H Q =>
  ∃ F α δ π, Rel g F α δ π σ H ∧ Post g F (R F) W α δ σ H Q (m δ π)
abbrev T (g : G) (W : WX) (m : M D) : TE := TX g (RV g) W m
abbrev TB (g : G) (W : WX) (m : M Bool) : TT := TX g (fun _ => RB) W m
abbrev TAs (g : G) (W : WX) (m : M (List D)) : TA := TX g (RA g) W m
abbrev TOp (g : G) (W : WX) (m : M (Option Int)) : TO := TX g (fun _ => RI) W m

/-- a weaker reading serves -/
theorem wkE {X : Cx} {e : Expr} {t t' : TE} (h : PE X e t) (w : ∀ σ H Q, t' σ H Q → t σ H Q) : PE X e t' := ⟨fun pins s σ H Q I q => h.run pins s σ H Q I (w σ H Q q)⟩
theorem wkT {X : Cx} {e : Expr} {t t' : TT} (h : PT X e t) (w : ∀ σ H Q, t' σ H Q → t σ H Q) : PT X e t' := ⟨fun pins s σ H Q I q => h.run pins s σ H Q I (w σ H Q q)⟩
theorem wkW {X : Cx} {e : Expr} {t t' : TT} (h : PW X e t) (w : ∀ σ H Q, t' σ H Q → t σ H Q) : PW X e t' := ⟨fun wh pins s σ H Q I q => h.run wh pins s σ H Q I (w σ H Q q)⟩
theorem wkA {X : Cx} {es : List Expr} {t t' : TA} (h : PA X es t) (w : ∀ σ H Q, t' σ H Q → t σ H Q) : PA X es t' := ⟨fun pos pins s σ H Q I q => h.run pos pins s σ H Q I (w σ H Q q)⟩
theorem wkS {X : Cx} {st : Stmt} {t t' : TS} (h : PS X st t) (w : ∀ D σ H, t' D σ H → t D σ H) : PS X st t' := ⟨fun pins s σ H D I q => h.run pins s σ H D I (w D σ H q)⟩
theorem wkSs {X : Cx} {st : List Stmt} {t t' : TS} (h : PSs X st t) (w : ∀ D σ H, t' D σ H → t D σ H) : PSs X st t' := ⟨fun pins s σ H D I q => h.run pins s σ H D I (w D σ H q)⟩

/-! ### the mirrors' words -/
def mC (d : D) : M D := fun _ π => .ok d π
def mVar (i : Nat) : M D := fun δ π => match δ[i]? with
  | some (some d) => .ok d π
  | _ => .stuck
def mOp (f : D → D → PH → Res D) (ma mb : M D) : M D := fun δ π => (ma δ π).bind fun d π1 => (mb δ π1).bind fun e π2 => f d e π2
def mUn {β : Type} (f : D → PH → Res β) (ma : M D) : M β := fun δ π => (ma δ π).bind fun d π1 => f d π1
def mNil : M (List D) := fun _ π => .ok [] π
def mCons (ma : M D) (mr : M (List D)) : M (List D) := fun δ π => (ma δ π).bind fun d π1 => (mr δ π1).bind fun ds π2 => .ok (d :: ds) π2
def mArgs {β : Type} (f : List D → PH → Res β) (ma : M (List D)) : M β := fun δ π => (ma δ π).bind fun d π1 => f d π1
def alloc (reg : Bool) (xs : List D) (π : PH) : Res D := if reg = true then .ok (.ref π.length) (π ++ [.lst xs]) else .ok (.lst xs) π
def fitsB (n : Nat) : Bool := decide (n ≤ sizeLine)
def when_ {β : Type} (b : Bool) (r : Res β) : Res β := if b = true then r else .stuck

/-- what a step on two values (on one value, on a list of values) has to do with HandS's -/
def OpM (g : G) (r : R2) (f : D → D → PH → Res D) : Prop := ∀ (F : Addr → Prop) (W : WX) (α : List Addr) (δ : Env) (π : PH) (σ : L2.St) (H : Hp) (Q : VK) (d e : D) (v w : V), Rel g F α δ π σ H → RD g α F H d v → RD g α F H e w → Post g F (RV g F) W α δ σ H Q (f d e π) → r v w H Q
def UnM (g : G) (r : V → Hp → VK → Prop) (f : D → PH → Res D) : Prop := ∀ (F : Addr → Prop) (W : WX) (α : List Addr) (δ : Env) (π : PH) (σ : L2.St) (H : Hp) (Q : VK) (d : D) (v : V), Rel g F α δ π σ H → RD g α F H d v → Post g F (RV g F) W α δ σ H Q (f d π) → r v H Q
def ClM (g : G) (r : List V → Hp → VK → Prop) (f : List D → PH → Res D) : Prop := ∀ (F : Addr → Prop) (W : WX) (α : List Addr) (δ : Env) (π : PH) (σ : L2.St) (H : Hp) (Q : VK) (d : List D) (v : List V), Rel g F α δ π σ H → RDs g α F H d v → Post g F (RV g F) W α δ σ H Q (f d π) → r v H Q

section
variable {g : G} {F : Addr → Prop} {W : WX} {α : List Addr} {δ : Env} {π : PH} {σ : L2.St} {H : Hp}
theorem when_ok {β γ : Type} {R : List Addr → Hp → β → γ → Prop} {Q : γ → Hp → Prop} {b : Bool} {r : Res β} (h : Post g F R W α δ σ H Q (when_ b r)) : b = true ∧ Post g F R W α δ σ H Q r := by
  unfold when_ at h
  by_cases e : b = true
  · rw [if_pos e] at h; exact ⟨e, h⟩
  · rw [if_neg e] at h; exact h.elim
/-- a new list -/
theorem alloc_post {reg : Bool} {ds : List D} {vs : List V} {Q : VK} (r : Rel g F α δ π σ H) (rd : RDs g α F H ds vs) (h : Post g F (RV g F) W α δ σ H Q (alloc reg ds π)) :
    ∀ p, H p = none → Q (.ref p) (upd H p (.lst vs)) := fun p hp => by
  unfold alloc at h
  cases reg with
  | true =>
    simp only [if_true] at h
    obtain ⟨r2, le⟩ := r.p.reg (o := .lst ds) (ho := .lst vs) hp (.lst rd)
    exact h _ _ _ le (r.with le r2) (.ref (by rw [← r.p.len]; simp))
  | false =>
    simp only [Bool.false_eq_true, if_false] at h
    obtain ⟨r2, le, h1, h2⟩ := r.p.fresh (o := .lst vs) hp
    exact h _ _ _ le (r.with le r2) (.lst upd_same h1 h2 (rd.mono le))
theorem tup_post {ds : List D} {vs : List V} {Q : VK} (r : Rel g F α δ π σ H) (rd : RDs g α F H ds vs) (h : Post g F (RV g F) W α δ σ H Q (.ok (.tup ds) π)) :
    ∀ p, H p = none → Q (.ref p) (upd H p (.tup vs)) := fun p hp => by
  obtain ⟨r2, le, h1, h2⟩ := r.p.fresh (o := .tup vs) hp
  exact h _ _ _ le (r.with le r2) (.tup (.inl (.inl upd_same)) (rd.mono le))
/-- a value, nothing changed -/
theorem ok_post {β γ : Type} {R : List Addr → Hp → β → γ → Prop} {Q : γ → Hp → Prop} {b : β} {v : γ} (r : Rel g F α δ π σ H) (h : Post g F R W α δ σ H Q (.ok b π)) (hr : R α H b v) : Q v H := h α H v .refl r hr
theorem fits_ok {n : Nat} (h : fitsB n = true) : n ≤ sizeLine := of_decide_eq_true h
end

section
variable {X : Cx} {g : G} {W : WX} {e a b : Expr} {ma mb : M D} {σ : L2.St} {H : Hp}
theorem te_var (i : Nat) {x : Str} {pos : Pos} (hN : X.N[i]? = some x := by rfl) (hv : Vis X.env.scope x := by first | exact Or.inl rfl | exact Or.inr (Or.inl rfl) | exact Or.inr (Or.inr rfl)) (hd : (x == ("__debug__" : Str)) = false := by decide)
    (hcd : (x == ("__classdict__" : Str)) = false := by decide) : PE X (.Name x pos) (T g W (mVar i)) := by
  refine wkE (pe_var hN hv hd hcd) fun σ H Q ⟨F, α, δ, π, r, h⟩ => ?_
  unfold mVar at h
  split at h
  · rename_i d hd'
    obtain ⟨v, h1, h2⟩ := r.slot i d hd'
    exact ⟨v, h1, h α H v .refl r h2⟩
  · exact h.elim
theorem te_c {d : D} {v : V} (h : PE X e (tC v)) (rd : ∀ α F H, RD g α F H d v) : PE X e (T g W (mC d)) :=
  wkE h fun σ H Q ⟨F, α, δ, π, r, q⟩ => q α H v .refl r (rd α F H)
theorem te_int {i : Int} {j pos} : PE X (.Constant (.int i) j pos) (T g W (mC (.int i))) := te_c pe_int fun _ _ _ => .int i
theorem te_bl {i : Bool} {j pos} : PE X (.Constant (.bool i) j pos) (T g W (mC (.bl i))) := te_c pe_bl fun _ _ _ => .bl i
theorem te_non {j pos} : PE X (.Constant .none j pos) (T g W (mC .non)) := te_c pe_non fun _ _ _ => .non
theorem te_str {x j pos} : PE X (.Constant (.str x) j pos) (T g W (mC (.str x))) := te_c pe_str fun _ _ _ => .str x
/-- a text, a number of the module -/
theorem te_gs {x s : Str} {u : Value} {pos : Pos} (hg : Gl X x) (hm : X.mg x = some u) (r : RelV (.str s) u) (hd : (x == ("__debug__" : Str)) = false := by decide) : PE X (.Name x pos) (T g W (mC (.str s))) := te_c (pe_glob hg hm r hd) fun _ _ _ => .str s
theorem te_gi {x : Str} {i : Int} {u : Value} {pos : Pos} (hg : Gl X x) (hm : X.mg x = some u) (r : RelV (.int i) u) (hd : (x == ("__debug__" : Str)) = false := by decide) : PE X (.Name x pos) (T g W (mC (.int i))) := te_c (pe_glob hg hm r hd) fun _ _ _ => .int i
/-- a def as a value -/
theorem te_gf {x : Str} {k : Nat} {pos : Pos} (hg : Gl X x) (hm : X.mg x = some (.ref (g.fadr k))) (hd : (x == ("__debug__" : Str)) = false := by decide) : PE X (.Name x pos) (T g W (mC (.fn k))) := te_c (pe_glob hg hm (show RelV (.ref (g.fadr k)) _ from rfl) hd) fun _ _ _ => .fn k

/-- both operands' readings, one behind the other -/
theorem op2 {r : R2} {f : D → D → PH → Res D} (hf : OpM g r f) {Q : VK} (h : T g W (mOp f ma mb) σ H Q) : tOp r (T g W ma) (T g W mb) σ H Q := by
  obtain ⟨F, α, δ, π, rl, h⟩ := h
  refine ⟨F, α, δ, π, rl, (Post.bind (R := RV g F) h).imp fun v H1 ⟨α1, π1, d, le, r1, rd, h2⟩ => ?_⟩
  refine ⟨F, α1, δ, π1, r1, (Post.bind (R := RV g F) h2).imp fun w H2 ⟨α2, π2, e, le2, r2, re, h3⟩ => ?_⟩
  exact hf F W α2 δ π2 σ H2 Q d e v w r2 (rd.mono le2) re h3
theorem un1 {r : V → Hp → VK → Prop} {f : D → PH → Res D} (hf : UnM g r f) {Q : VK} (h : T g W (mUn f ma) σ H Q) : T g W ma σ H fun v H1 => r v H1 Q := by
  obtain ⟨F, α, δ, π, rl, h⟩ := h
  refine ⟨F, α, δ, π, rl, (Post.bind (R := RV g F) h).imp fun v H1 ⟨α1, π1, d, le, r1, rd, h2⟩ => ?_⟩
  exact hf F W α1 δ π1 σ H1 Q d v r1 rd h2
theorem cl1 {r : List V → Hp → VK → Prop} {f : List D → PH → Res D} {m : M (List D)} (hf : ClM g r f) {Q : VK} (h : T g W (mArgs f m) σ H Q) : TAs g W m σ H fun v H1 => r v H1 Q := by
  obtain ⟨F, α, δ, π, rl, h⟩ := h
  refine ⟨F, α, δ, π, rl, (Post.bind (R := RA g F) h).imp fun v H1 ⟨α1, π1, d, le, r1, rd, h2⟩ => ?_⟩
  exact hf F W α1 δ π1 σ H1 Q d v r1 rd h2
theorem te_op {op : Operator} {pos : Pos} {r : R2} {f : D → D → PH → Res D} (ho : OpR X (binaryOp op) r) (hf : OpM g r f) (ha : PE X a (T g W ma)) (hb : PE X b (T g W mb)) : PE X (.BinOp a op b pos) (T g W (mOp f ma mb)) :=
  wkE (pe_op ho ha hb) fun _ _ _ h => op2 hf h
theorem te_un {op : UnaryOp} {pos : Pos} {r : V → Hp → VK → Prop} {f : D → PH → Res D} (ho : UnR X (unaryOp op) r) (hf : UnM g r f) (ha : PE X a (T g W ma)) : PE X (.UnaryOp op a pos) (T g W (mUn f ma)) :=
  wkE (pe_un ho ha) fun _ _ _ h => un1 hf h
theorem te_cmp {op : CmpOp} {pos : Pos} {r : R2} {f : D → D → PH → Res D} (ho : OpR X (compareOp op) r) (hf : OpM g r f) (ha : PE X a (T g W ma)) (hb : PE X b (T g W mb)) (hm : behindInMarks op b = false := by rfl) : PE X (.Compare a [op] [b] pos) (T g W (mOp f ma mb)) :=
  wkE (pe_cmpR ho ha hb hm) fun _ _ _ h => op2 hf h
theorem te_ix {pos : Pos} {r : R2} {f : D → D → PH → Res D} (ho : IxR X r) (hf : OpM g r f) (ha : PE X a (T g W ma)) (hb : PE X b (T g W mb)) (hs : PlainIx b := by exact fun _ _ => rfl) : PE X (.Subscript a b pos) (T g W (mOp f ma mb)) :=
  wkE (pe_ix ho ha hb hs) fun _ _ _ h => op2 hf h
/-! arguments -/
theorem ta_nil : PA X [] (TAs g W mNil) := wkA pa_nil fun σ H Q ⟨F, α, δ, π, r, h⟩ => h α H [] .refl r .nil
theorem ta_cons {es : List Expr} {mr : M (List D)} (ha : PE X a (T g W ma)) (hr : PA X es (TAs g W mr)) (he : starEach (a :: es) X.env = (false, eval a X.env) :: starEach es X.env := by rfl) : PA X (a :: es) (TAs g W (mCons ma mr)) := by
  refine wkA (pa_cons ha hr he) fun σ H Q ⟨F, α, δ, π, rl, h⟩ => ?_
  refine ⟨F, α, δ, π, rl, (Post.bind (R := RV g F) h).imp fun v H1 ⟨α1, π1, d, le, r1, rd, h2⟩ => ?_⟩
  refine ⟨F, α1, δ, π1, r1, (Post.bind (R := RA g F) h2).imp fun w H2 ⟨α2, π2, e, le2, r2, re, h3⟩ => ?_⟩
  exact h3 α2 H2 _ .refl r2 (.cons (rd.mono le2) re)
def mTup (m : M (List D)) : M D := mArgs (fun ds π => when_ (fitsB ds.length) (.ok (.tup ds) π)) m
def mLst (reg : Bool) (m : M (List D)) : M D := mArgs (fun ds π => when_ (fitsB ds.length) (alloc reg ds π)) m
theorem te_tup {es : List Expr} {m : M (List D)} {x1 pos} (h : PA X es (TAs g W m)) : PE X (.Tuple es x1 pos) (T g W (mTup m)) :=
  wkE (pe_tup h) fun σ H Q q => cl1 (r := fun xs H1 Q => xs.length ≤ sizeLine ∧ ∀ p, H1 p = none → Q (.ref p) (upd H1 p (.tup xs))) (fun F W α δ π σ H Q d v r rd h => by
    obtain ⟨hf, h⟩ := when_ok h
    exact ⟨by rw [← rd.length]; exact fits_ok hf, tup_post r rd h⟩) q
theorem te_lst {es : List Expr} {m : M (List D)} {pos} (reg : Bool) (h : PA X es (TAs g W m)) : PE X (.List es pos) (T g W (mLst reg m)) :=
  wkE (pe_lst h) fun σ H Q q => cl1 (r := fun xs H1 Q => xs.length ≤ sizeLine ∧ ∀ p, H1 p = none → Q (.ref p) (upd H1 p (.lst xs))) (fun F W α δ π σ H Q d v r rd h => by
    obtain ⟨hf, h⟩ := when_ok h
    exact ⟨by rw [← rd.length]; exact fits_ok hf, alloc_post r rd h⟩) q
/-- a built-in, a built-in class called by its name -/
theorem te_callB {x : Str} {id : String} {p pos : Pos} {es : List Expr} {r : List V → Hp → VK → Prop} {f : List D → PH → Res D} {m : M (List D)} (hc : CallR X (.builtin id) r) (hf : ClM g r f) (hg : Gl X x) (hm : X.mg x = none) (hv : bootBuiltins x = some (.builtin id)) (ha : PA X (e :: es) (TAs g W m))
    (hn : x ≠ "__name__" := by decide) (hd : (x == ("__debug__" : Str)) = false := by decide) (he : starEach (e :: es) X.env = (false, eval e X.env) :: starEach es X.env := by rfl) (hpl : (backTo pos (starEach es X.env)).any (·.1) = false := by rfl) : PE X (.Call (.Name x p) (e :: es) [] pos) (T g W (mArgs f m)) :=
  wkE (pe_callB hc hg hm hv ha hn hd he hpl) fun _ _ _ h => cl1 hf h
theorem te_callTy {x : Str} {id : String} {p pos : Pos} {es : List Expr} {r : List V → Hp → VK → Prop} {f : List D → PH → Res D} {m : M (List D)} (hc : CallR X (.type id) r) (hf : ClM g r f) (hg : Gl X x) (hm : X.mg x = none) (hv : bootBuiltins x = some (.type id)) (ha : PA X (e :: es) (TAs g W m))
    (hn : x ≠ "__name__" := by decide) (hd : (x == ("__debug__" : Str)) = false := by decide) (he : starEach (e :: es) X.env = (false, eval e X.env) :: starEach es X.env := by rfl) (hpl : (backTo pos (starEach es X.env)).any (·.1) = false := by rfl) : PE X (.Call (.Name x p) (e :: es) [] pos) (T g W (mArgs f m)) :=
  wkE (pe_callTy hc hg hm hv ha hn hd he hpl) fun _ _ _ h => cl1 hf h
end
end MI

set_option Elab.async false
set_option linter.all false
set_option maxRecDepth 100000
/-! Operators of mirrors, on values. -/
namespace MI
open PySem L2

/-- what is read as a list; what may be joined (not the locked script) -/
def lsOf (π : PH) : D → Option (List D)
  | .lst ds => some ds
  | .frz ds => some ds
  | .ref i => match π[i]? with
    | some (.lst ds) => some ds
    | _ => none
  | _ => none
def lsM (π : PH) : D → Option (List D)
  | .lst ds => some ds
  | .ref i => match π[i]? with
    | some (.lst ds) => some ds
    | _ => none
  | _ => none
/-- a list or a tuple -/
def sqOf (π : PH) : D → Option (List D)
  | .tup ds => some ds
  | d => lsOf π d
section
variable {g : G} {F : Addr → Prop} {α : List Addr} {δ : Env} {π : PH} {σ : L2.St} {H : Hp} {d : D} {v : V} {ds : List D}
theorem RelP.lst (r : RelP g F α π H) {i : Nat} {a : Addr} (ha : α[i]? = some a) (h : π[i]? = some (.lst ds)) : ∃ vs, H a = some (.lst vs) ∧ RDs g α F H ds vs := by
  obtain ⟨ho, h1, h2⟩ := r.obj i a _ ha h
  cases h2 with
  | lst h => exact ⟨_, h1, h⟩
theorem lsM_ok (r : RelP g F α π H) (rd : RD g α F H d v) (h : lsM π d = some ds) : ∃ a vs, v = .ref a ∧ H a = some (.lst vs) ∧ RDs g α F H ds vs := by
  cases rd with
  | lst h1 h2 h3 h4 =>
    simp only [lsM, Option.some.injEq] at h
    subst h
    exact ⟨_, _, rfl, h1, h4⟩
  | ref ha =>
    rename_i i a
    have h' : (match π[i]? with
      | some (.lst ds) => some ds
      | _ => none) = some ds := h
    split at h'
    · rename_i ho
      cases h'
      obtain ⟨vs, h1, h2⟩ := r.lst ha ho
      exact ⟨_, vs, rfl, h1, h2⟩
    · cases h'
  | _ => cases h
theorem lsOf_ok (r : RelP g F α π H) (rd : RD g α F H d v) (h : lsOf π d = some ds) : ∃ a vs, v = .ref a ∧ SqL g.K H a vs ∧ RDs g α F H ds vs := by
  by_cases hM : lsM π d = some ds
  · obtain ⟨a, vs, h1, h2, h3⟩ := lsM_ok r rd hM
    exact ⟨a, vs, h1, .of h2, h3⟩
  · cases rd with
    | frz h1 h2 =>
      simp only [lsOf, Option.some.injEq] at h
      subst h
      exact ⟨_, _, rfl, .inl (.inr ⟨_, h1⟩), h2⟩
    | lst h1 h2 h3 h4 => exact absurd h hM
    | ref => exact absurd h hM
    | _ => cases h
theorem sqOf_ok (r : RelP g F α π H) (rd : RD g α F H d v) (h : sqOf π d = some ds) : ∃ a vs, v = .ref a ∧ (SqL g.K H a vs ∨ SqT g.K H a vs) ∧ RDs g α F H ds vs := by
  cases rd with
  | tup h1 h2 =>
    simp only [sqOf, Option.some.injEq] at h
    subst h
    exact ⟨_, _, rfl, .inr h1, h2⟩
  | lst a b c e =>
    obtain ⟨x, vs, h1, h2, h3⟩ := lsOf_ok r (.lst a b c e) h
    exact ⟨x, vs, h1, .inl h2, h3⟩
  | frz a b =>
    obtain ⟨x, vs, h1, h2, h3⟩ := lsOf_ok r (.frz a b) h
    exact ⟨x, vs, h1, .inl h2, h3⟩
  | ref a =>
    obtain ⟨x, vs, h1, h2, h3⟩ := lsOf_ok r (.ref a) h
    exact ⟨x, vs, h1, .inl h2, h3⟩
  | _ => cases h
end

def okI (b : Bool) (i : Int) (π : PH) : Res D := when_ b (.ok (.int i) π)
def opt {β β' : Type} (o : Option β) (k : β → Res β') : Res β' := match o with
  | some b => k b
  | none => .stuck
theorem opt_ok {β β' γ : Type} {g : G} {F : Addr → Prop} {R : List Addr → Hp → β' → γ → Prop} {W : WX} {α : List Addr} {δ : Env} {σ : L2.St} {H : Hp} {Q : γ → Hp → Prop} {o : Option β} {k : β → Res β'} (h : Post g F R W α δ σ H Q (opt o k)) :
    ∃ b, o = some b ∧ Post g F R W α δ σ H Q (k b) := by
  cases o with
  | some b => exact ⟨b, rfl, h⟩
  | none => exact h.elim

/-! ### arithmetic -/
def fI (c : Int → Int → Bool) (f : Int → Int → Int) : D → D → PH → Res D
  | .int i, .int j, π => when_ (c i j) (.ok (.int (f i j)) π)
  | _, _, _ => .stuck
def fCmpI (f : Int → Int → Bool) : D → D → PH → Res D
  | .int i, .int j, π => .ok (.bl (f i j)) π
  | _, _, _ => .stuck
def fNeg : D → PH → Res D
  | .int i, π => .ok (.int (-i)) π
  | _, _ => .stuck
section
variable {g : G}
theorem om_I {c : Int → Int → Bool} {C : Int → Int → Prop} {f : Int → Int → Int} (hc : ∀ i j, c i j = true → C i j) : OpM g (rI C fun i j => .int (f i j)) (fI c f) := by
  intro F W α δ π σ H Q d e v w r rd re h
  cases rd with
  | int i => cases re with
    | int j =>
      obtain ⟨h1, h2⟩ := when_ok h
      exact ⟨i, j, rfl, rfl, hc i j h1, ok_post r h2 (.int _)⟩
    | _ => exact h.elim
  | _ => exact h.elim
theorem om_I0 {f : Int → Int → Int} : OpM g (rI0 fun i j => .int (f i j)) (fI (fun _ _ => true) f) := by
  intro F W α δ π σ H Q d e v w r rd re h
  cases rd with
  | int i => cases re with
    | int j => exact ⟨i, j, rfl, rfl, ok_post r (when_ok h).2 (.int _)⟩
    | _ => exact h.elim
  | _ => exact h.elim
theorem om_C {f : Int → Int → Bool} : OpM g (rI0 fun i j => .bl (f i j)) (fCmpI f) := by
  intro F W α δ π σ H Q d e v w r rd re h
  cases rd with
  | int i => cases re with
    | int j => exact ⟨i, j, rfl, rfl, ok_post r h (.bl _)⟩
    | _ => exact h.elim
  | _ => exact h.elim
theorem um_neg : UnM g (rU fun i => .int (-i)) fNeg := by
  intro F W α δ π σ H Q d v r rd h
  cases rd with
  | int i => exact ⟨i, rfl, ok_post r h (.int _)⟩
  | _ => exact h.elim
end
def cMul (i j : Int) : Bool := decide (i.natAbs.log2 + j.natAbs.log2 < 1000000)
def cPow (i j : Int) : Bool := decide (0 ≤ j) && decide (j ≤ 1000000) && decide (i.natAbs < 18446744073709551616)
def cDiv (_ j : Int) : Bool := decide (0 < j) && decide (j.natAbs.log2 < 9000)
def cMod (_ j : Int) : Bool := decide (0 < j)
def fSub := fI (fun _ _ => true) (fun i j => i - j)
def fMul := fI cMul (fun i j => i * j)
def fPow := fI cPow (fun i j => i ^ j.toNat)
def fDiv := fI cDiv (fun i j => i / j)
def fMod := fI cMod (fun i j => i % j)
section
variable {g : G}
theorem om_sub : OpM g (rI0 fun i j => .int (i - j)) fSub := om_I0
theorem om_mul : OpM g (rI CMulW fun i j => .int (i * j)) fMul := om_I fun i j h => by
  simp only [cMul, decide_eq_true_eq] at h
  exact h
theorem om_pow : OpM g (rI CPow fun i j => .int (i ^ j.toNat)) fPow := om_I fun i j h => by
  simp only [cPow, Bool.and_eq_true, decide_eq_true_eq] at h
  exact ⟨h.1.1, h.1.2, h.2⟩
theorem om_div : OpM g (rI CDivW fun i j => .int (i / j)) fDiv := om_I fun i j h => by
  simp only [cDiv, Bool.and_eq_true, decide_eq_true_eq] at h
  exact ⟨h.1, h.2⟩
theorem om_mod : OpM g (rI (fun _ j => 0 < j) fun i j => .int (i % j)) fMod := om_I fun i j h => of_decide_eq_true h
end

/-! ### + -/
def fAdd (reg : Bool) : D → D → PH → Res D
  | .int i, .int j, π => .ok (.int (i + j)) π
  | .str a, .str b, π => when_ (fitsB (a.length + b.length)) (.ok (.str (a ++ b)) π)
  | .tup xs, .tup ys, π => when_ (fitsB (xs.length + ys.length)) (.ok (.tup (xs ++ ys)) π)
  | d, e, π => match lsM π d, lsM π e with
    | some xs, some ys => when_ (fitsB (xs.length + ys.length)) (alloc reg (xs ++ ys) π)
    | _, _ => .stuck
def rAdd (K : PySem.W.Frag) : R2 := fun x y H Q => ((rI0 fun i j => .int (i + j)) x y H Q ∨ (∃ i j, x = .str i ∧ y = .str j ∧ i.length + j.length ≤ sizeLine ∧ Q (.str (i ++ j)) H)) ∨ (rCatA K x y H Q ∨ rCat x y H Q)
theorem or_add {X : Cx} : OpR X (binaryOp .Add) (rAdd X.K) := OpR.or (OpR.or op_add op_add_str) (OpR.or op_catA op_cat)
theorem om_add {g : G} (reg : Bool) : OpM g (rAdd g.K) (fAdd reg) := by
  intro F W α δ π σ H Q d e v w r rd re h
  unfold fAdd at h
  split at h
  · cases rd; cases re
    exact .inl (.inl ⟨_, _, rfl, rfl, ok_post r h (.int _)⟩)
  · cases rd; cases re
    obtain ⟨h1, h2⟩ := when_ok h
    exact .inl (.inr ⟨_, _, rfl, rfl, fits_ok h1, ok_post r h2 (.str _)⟩)
  · rename_i xs ys
    cases rd with
    | tup a1 a2 => cases re with
      | tup b1 b2 =>
        obtain ⟨h1, h2⟩ := when_ok h
        refine .inr (.inl ⟨_, _, _, _, rfl, rfl, a1, b1, by rw [← a2.length, ← b2.length]; exact fits_ok h1, fun e => ?_, fun _ e => ?_, fun _ _ p hp => tup_post r (a2.append b2) h2 p hp⟩)
        · subst e
          cases a2
          exact ok_post r h2 (by rw [List.nil_append]; exact .tup b1 b2)
        · subst e
          cases b2
          exact ok_post r h2 (by rw [List.append_nil]; exact .tup a1 a2)
  · split at h
    · rename_i xs ys h3 h4
      obtain ⟨a, vs, rfl, h5, h6⟩ := lsM_ok r.p rd h3
      obtain ⟨b, ws, rfl, h7, h8⟩ := lsM_ok r.p re h4
      obtain ⟨h1, h2⟩ := when_ok h
      exact .inr (.inr ⟨a, b, vs, ws, rfl, rfl, h5, h7, by rw [← h6.length, ← h8.length]; exact fits_ok h1, alloc_post r (h6.append h8) h2⟩)
    · exact h.elim

/-! ### == -/
mutual
/-- as data -/
def pd : D → Option PyData
  | .non => some .none
  | .bl b => some (.bool b)
  | .int i => some (.int i)
  | .str s => some (.str s)
  | .tup xs => (pds xs).map .tuple
  | .lst xs => (pds xs).map .list
  | _ => none
def pds : List D → Option (List PyData)
  | [] => some []
  | d :: ds => match pd d, pds ds with
    | some p, some ps => some (p :: ps)
    | _, _ => none
end
def pdH (π : PH) : D → Option PyData
  | .ref i => match π[i]? with
    | some (.lst ds) => (pds ds).map .list
    | _ => none
  | d => pd d
section
variable {g : G} {F : Addr → Prop} {α : List Addr} {δ : Env} {π : PH} {σ : L2.St} {H : Hp}
mutual
theorem pd_ok : ∀ {d : D} {v : V} {p : PyData}, RD g α F H d v → pd d = some p → Dp g.K H v p
  | _, _, _, .non, h => by simp only [pd, Option.some.injEq] at h; subst h; exact .non
  | _, _, _, .bl b, h => by simp only [pd, Option.some.injEq] at h; subst h; exact .bl b
  | _, _, _, .int b, h => by simp only [pd, Option.some.injEq] at h; subst h; exact .int b
  | _, _, _, .str b, h => by simp only [pd, Option.some.injEq] at h; subst h; exact .str b
  | _, _, _, .tup h1 h2, h => by
    simp only [pd, Option.map_eq_some_iff] at h
    obtain ⟨q, h3, h4⟩ := h
    subst h4
    exact .tup h1 (pds_ok h2 h3)
  | _, _, _, .lst h1 _ _ h2, h => by
    simp only [pd, Option.map_eq_some_iff] at h
    obtain ⟨q, h3, h4⟩ := h
    subst h4
    exact .lst (.of h1) (pds_ok h2 h3)
  | _, _, _, .frz _ _, h => by cases h
  | _, _, _, .obj _ _ _ _, h => by cases h
  | _, _, _, .ref _, h => by cases h
  | _, _, _, .fn _, h => by cases h
  | _, _, _, .ty _, h => by cases h
theorem pds_ok : ∀ {d : List D} {v : List V} {p : List PyData}, RDs g α F H d v → pds d = some p → DpAll g.K H v p
  | _, _, _, .nil, h => by simp only [pds, Option.some.injEq] at h; subst h; exact .nil
  | _, _, _, .cons h1 h2, h => by
    simp only [pds] at h
    split at h
    · rename_i p ps h3 h4
      cases h
      exact .cons (pd_ok h1 h3) (pds_ok h2 h4)
    · cases h
end
theorem pdH_ok (r : RelP g F α π H) {d : D} {v : V} {p : PyData} (rd : RD g α F H d v) (h : pdH π d = some p) : Dp g.K H v p := by
  by_cases hi : ∃ i, d = .ref i
  · obtain ⟨i, rfl⟩ := hi
    cases rd with
    | ref ha =>
      have h' : (match π[i]? with
        | some (.lst ds) => (pds ds).map .list
        | _ => none) = some p := h
      split at h'
      · rename_i ds ho
        obtain ⟨vs, h1, h2⟩ := r.lst ha ho
        simp only [Option.map_eq_some_iff] at h'
        obtain ⟨q, h3, h4⟩ := h'
        subst h4
        exact .lst (.of h1) (pds_ok h2 h3)
      · cases h'
  · have e : pdH π d = pd d := by
      cases d <;> first | rfl | exact absurd ⟨_, rfl⟩ hi
    rw [e] at h
    exact pd_ok rd h
end
def eqD (π : PH) (d e : D) : Option Bool := match pdH π d, pdH π e with
  | some p, some q => if SeqAt.shaped p = true ∧ SeqAt.shaped q = true then some (PyData.eqv p q) else none
  | _, _ => none
def fEq (neg : Bool) : D → D → PH → Res D := fun d e π => opt (eqD π d e) fun b => .ok (.bl (b != neg)) π
section
variable {g : G}
theorem eqD_ok {F : Addr → Prop} {α : List Addr} {π : PH} {H : Hp} {d e : D} {v w : V} {b : Bool} (r : RelP g F α π H) (rd : RD g α F H d v) (re : RD g α F H e w) (h : eqD π d e = some b) :
    ∃ p q, Dp g.K H v p ∧ Dp g.K H w q ∧ SeqAt.shaped p = true ∧ SeqAt.shaped q = true ∧ PyData.eqv p q = b := by
  unfold eqD at h
  split at h
  · rename_i p q h1 h2
    split at h
    · rename_i h3
      exact ⟨p, q, pdH_ok r rd h1, pdH_ok r re h2, h3.1, h3.2, Option.some.inj h⟩
    · cases h
  · cases h
theorem om_eq : OpM g (rEqD g.K) (fEq false) := by
  intro F W α δ π σ H Q d e v w r rd re h
  unfold fEq opt at h
  split at h
  · rename_i b hb
    obtain ⟨p, q, h1, h2, h3, h4, h5⟩ := eqD_ok r.p rd re hb
    refine ⟨p, q, h1, h2, h3, h4, ?_⟩
    rw [h5]
    have h' := ok_post (v := V.bl (b != false)) r h (.bl _)
    simpa using h'
  · exact h.elim
theorem om_ne : OpM g (rNeD g.K) (fEq true) := by
  intro F W α δ π σ H Q d e v w r rd re h
  unfold fEq opt at h
  split at h
  · rename_i b hb
    obtain ⟨p, q, h1, h2, h3, h4, h5⟩ := eqD_ok r.p rd re hb
    refine ⟨p, q, h1, h2, h3, h4, ?_⟩
    rw [h5]
    have h' := ok_post (v := V.bl (b != true)) r h (.bl _)
    simpa using h'
  · exact h.elim
end

/-! ### order; is None; in -/
def ltS (a b : Str) : Bool := decide (a.cps.toList < b.cps.toList)
def fLt : D → D → PH → Res D
  | .int i, .int j, π => .ok (.bl (decide (i < j))) π
  | .str a, .str b, π => .ok (.bl (ltS a b)) π
  | _, _, _ => .stuck
def fLe : D → D → PH → Res D
  | .int i, .int j, π => .ok (.bl (decide (i ≤ j))) π
  | .str a, .str b, π => .ok (.bl (!ltS b a)) π
  | _, _, _ => .stuck
def fGt : D → D → PH → Res D
  | .int i, .int j, π => .ok (.bl (decide (j < i))) π
  | .str a, .str b, π => .ok (.bl (ltS b a)) π
  | _, _, _ => .stuck
def fGe : D → D → PH → Res D
  | .int i, .int j, π => .ok (.bl (decide (j ≤ i))) π
  | .str a, .str b, π => .ok (.bl (!ltS a b)) π
  | _, _, _ => .stuck
def isNonD : D → Bool
  | .non => true
  | _ => false
def fIsN (neg : Bool) : D → D → PH → Res D := fun d e π => match e with
  | .non => .ok (.bl (isNonD d != neg)) π
  | _ => .stuck
def flatD : D → Bool
  | .non => true
  | .bl _ => true
  | .int _ => true
  | .str _ => true
  | _ => false
def eqF : D → D → Bool
  | .non, .non => true
  | .bl a, .bl b => a == b
  | .bl a, .int b => (if a then 1 else 0) == b
  | .int a, .bl b => a == (if b then 1 else 0)
  | .int a, .int b => a == b
  | .str a, .str b => a == b
  | _, _ => false
def fIn (neg : Bool) : D → D → PH → Res D
  | .str c, .str z, π => if c.length = 1 then .ok (.bl (decide (c.cps.toList.headD 0 ∈ z.cps.toList) != neg)) π else .stuck
  | d, e, π => opt (sqOf π e) fun ds => when_ (flatD d && ds.all flatD) (.ok (.bl (ds.any (fun y => eqF y d) != neg)) π)
section
variable {g : G} {F : Addr → Prop} {α : List Addr} {H : Hp}
theorem om_lt : OpM g (fun x y H Q => (rI0 fun i j => .bl (decide (i < j))) x y H Q ∨ ∃ i j, x = .str i ∧ y = .str j ∧ Q (.bl (decide (i.cps.toList < j.cps.toList))) H) fLt := by
  intro F W α δ π σ H Q d e v w r rd re h
  unfold fLt at h
  split at h
  · cases rd; cases re; exact .inl ⟨_, _, rfl, rfl, ok_post r h (.bl _)⟩
  · cases rd; cases re; exact .inr ⟨_, _, rfl, rfl, ok_post r h (.bl _)⟩
  · exact h.elim
theorem om_le : OpM g (fun x y H Q => (rI0 fun i j => .bl (decide (i ≤ j))) x y H Q ∨ ∃ i j, x = .str i ∧ y = .str j ∧ Q (.bl (!decide (j.cps.toList < i.cps.toList))) H) fLe := by
  intro F W α δ π σ H Q d e v w r rd re h
  unfold fLe at h
  split at h
  · cases rd; cases re; exact .inl ⟨_, _, rfl, rfl, ok_post r h (.bl _)⟩
  · cases rd; cases re; exact .inr ⟨_, _, rfl, rfl, ok_post r h (.bl _)⟩
  · exact h.elim
theorem om_gt : OpM g (fun x y H Q => (rI0 fun i j => .bl (decide (j < i))) x y H Q ∨ ∃ i j, x = .str i ∧ y = .str j ∧ Q (.bl (decide (j.cps.toList < i.cps.toList))) H) fGt := by
  intro F W α δ π σ H Q d e v w r rd re h
  unfold fGt at h
  split at h
  · cases rd; cases re; exact .inl ⟨_, _, rfl, rfl, ok_post r h (.bl _)⟩
  · cases rd; cases re; exact .inr ⟨_, _, rfl, rfl, ok_post r h (.bl _)⟩
  · exact h.elim
theorem om_ge : OpM g (fun x y H Q => (rI0 fun i j => .bl (decide (j ≤ i))) x y H Q ∨ ∃ i j, x = .str i ∧ y = .str j ∧ Q (.bl (!decide (i.cps.toList < j.cps.toList))) H) fGe := by
  intro F W α δ π σ H Q d e v w r rd re h
  unfold fGe at h
  split at h
  · cases rd; cases re; exact .inl ⟨_, _, rfl, rfl, ok_post r h (.bl _)⟩
  · cases rd; cases re; exact .inr ⟨_, _, rfl, rfl, ok_post r h (.bl _)⟩
  · exact h.elim
theorem or_lt {X : Cx} : OpR X (compareOp .Lt) (fun x y H Q => (rI0 fun i j => .bl (decide (i < j))) x y H Q ∨ ∃ i j, x = .str i ∧ y = .str j ∧ Q (.bl (decide (i.cps.toList < j.cps.toList))) H) := .or op_lt op_lt_str
theorem or_le {X : Cx} : OpR X (compareOp .LtE) (fun x y H Q => (rI0 fun i j => .bl (decide (i ≤ j))) x y H Q ∨ ∃ i j, x = .str i ∧ y = .str j ∧ Q (.bl (!decide (j.cps.toList < i.cps.toList))) H) := .or op_le op_le_str
theorem or_gt {X : Cx} : OpR X (compareOp .Gt) (fun x y H Q => (rI0 fun i j => .bl (decide (j < i))) x y H Q ∨ ∃ i j, x = .str i ∧ y = .str j ∧ Q (.bl (decide (j.cps.toList < i.cps.toList))) H) := .or op_gt op_gt_str
theorem or_ge {X : Cx} : OpR X (compareOp .GtE) (fun x y H Q => (rI0 fun i j => .bl (decide (j ≤ i))) x y H Q ∨ ∃ i j, x = .str i ∧ y = .str j ∧ Q (.bl (!decide (i.cps.toList < j.cps.toList))) H) := .or op_ge op_ge_str
theorem isNon_ok {d : D} {v : V} (rd : RD g α F H d v) : decide (v = .non) = isNonD d := by cases rd <;> simp [isNonD]
theorem om_isN : OpM g (fun x y H Q => y = .non ∧ Q (.bl (decide (x = .non))) H) (fIsN false) := by
  intro F W α δ π σ H Q d e v w r rd re h
  unfold fIsN at h
  split at h
  · cases re
    refine ⟨rfl, ?_⟩
    rw [isNon_ok rd]
    have h' := ok_post (v := V.bl (isNonD d != false)) r h (.bl _)
    simpa using h'
  · exact h.elim
theorem om_notN : OpM g (fun x y H Q => y = .non ∧ Q (.bl (!decide (x = .non))) H) (fIsN true) := by
  intro F W α δ π σ H Q d e v w r rd re h
  unfold fIsN at h
  split at h
  · cases re
    refine ⟨rfl, ?_⟩
    rw [isNon_ok rd]
    have h' := ok_post (v := V.bl (isNonD d != true)) r h (.bl _)
    simpa using h'
  · exact h.elim
theorem flat_ok {d : D} {v : V} (rd : RD g α F H d v) (h : flatD d = true) : flatV v = true := by cases rd <;> first | rfl | cases h
theorem flats_ok : ∀ {ds : List D} {vs : List V}, RDs g α F H ds vs → ds.all flatD = true → vs.all flatV = true
  | _, _, .nil, _ => rfl
  | _, _, .cons h hs, e => by
    rw [List.all_cons, Bool.and_eq_true] at e ⊢
    exact ⟨flat_ok h e.1, flats_ok hs e.2⟩
theorem eqF_ok {d e : D} {v w : V} (rd : RD g α F H d v) (re : RD g α F H e w) (h : flatD d = true) (h2 : flatD e = true) : eqV v w = eqF d e := by
  by_cases z : True
  · cases rd <;> (try (cases h)) <;> (cases re <;> first | rfl | cases h2)
  · exact absurd trivial z
theorem any_ok {e : D} {w : V} (re : RD g α F H e w) (h2 : flatD e = true) : ∀ {ds : List D} {vs : List V}, RDs g α F H ds vs → ds.all flatD = true → inV w vs = ds.any fun y => eqF y e
  | _, _, .nil, _ => rfl
  | _, _, .cons h hs, e1 => by
    rw [List.all_cons, Bool.and_eq_true] at e1
    have ih := any_ok re h2 hs e1.2
    unfold inV at ih ⊢
    rw [List.any_cons, List.any_cons, ih, eqF_ok h re e1.1 h2]
def rInM (K : PySem.W.Frag) (neg : Bool) : R2 := fun x y H Q => (∃ (c : Nat) (z : Str), x = .str ⟨#[c]⟩ ∧ y = .str z ∧ Q (.bl (decide (c ∈ z.cps.toList) != neg)) H) ∨ rIn K neg x y H Q
theorem str1 {c : Str} (h : c.length = 1) : c = ⟨#[c.cps.toList.headD 0]⟩ := by
  obtain ⟨⟨l⟩⟩ := c
  have h' : l.length = 1 := h
  match l, h' with
  | [x], _ => rfl
theorem om_in (neg : Bool) : OpM g (rInM g.K neg) (fIn neg) := by
  intro F W α δ π σ H Q d e v w r rd re h
  unfold fIn at h
  split at h
  · rename_i c z
    cases rd; cases re
    split at h
    · rename_i hl
      exact .inl ⟨_, z, by rw [← str1 hl], rfl, ok_post r h (.bl _)⟩
    · exact h.elim
  · unfold opt at h
    split at h
    · rename_i ds hds
      obtain ⟨h1, h2⟩ := when_ok h
      rw [Bool.and_eq_true] at h1
      obtain ⟨a, vs, rfl, h3, h4⟩ := sqOf_ok r.p re hds
      refine .inr ⟨a, vs, rfl, h3, flat_ok rd h1.1, flats_ok h4 h1.2, ?_⟩
      rw [any_ok rd h1.1 h4 h1.2]
      have h' := ok_post (v := V.bl ((ds.any fun y => eqF y d) != neg)) r h2 (.bl _)
      cases neg <;> simpa using h'
    · exact h.elim
theorem or_in {X : Cx} : OpR X (compareOp .In) (rInM X.K false) := by
  refine OpR.or ?_ op_in_seq
  have h := @op_in_sign X
  intro pins s σ H x y v u Q I rx ry ⟨c, z, h1, h2, h3⟩
  exact h pins s σ H x y v u Q I rx ry ⟨c, z, h1, h2, by simpa using h3⟩
theorem or_notIn {X : Cx} : OpR X (compareOp .NotIn) (rInM X.K true) := by
  refine OpR.or ?_ op_notIn_seq
  have h := @op_notIn_sign X
  intro pins s σ H x y v u Q I rx ry ⟨c, z, h1, h2, h3⟩
  exact h pins s σ H x y v u Q I rx ry ⟨c, z, h1, h2, by simpa using h3⟩
end

/-! ### an item -/
def fIx : D → D → PH → Res D
  | .str z, .int i, π => when_ (fitsB z.length) (opt (atI z.cps.toList i) fun c => .ok (.str ⟨#[c]⟩) π)
  | d, .int i, π => opt (sqOf π d) fun ds => opt (atI ds i) fun e => .ok e π
  | _, _, _ => .stuck
def rIxM (K : PySem.W.Frag) : R2 := fun x y H Q => rIxS x y H Q ∨ (rIxL K x y H Q ∨ rIxT K x y H Q)
theorem IxR.or {X : Cx} {r r' : R2} (h : IxR X r) (h' : IxR X r') : IxR X (fun x y H Q => r x y H Q ∨ r' x y H Q) := fun a b pins s σ H x y v u Q I rx ry q hs => q.elim (fun z => h a b pins s σ H x y v u Q I rx ry z hs) fun z => h' a b pins s σ H x y v u Q I rx ry z hs
theorem or_ix {X : Cx} : IxR X (rIxM X.K) := IxR.or ix_str (IxR.or ix_list ix_tup)
theorem atI_ok {g : G} {F : Addr → Prop} {α : List Addr} {H : Hp} {ds : List D} {vs : List V} {i : Int} {d : D} (rd : RDs g α F H ds vs) (h : atI ds i = some d) : ∃ v, atI vs i = some v ∧ RD g α F H d v := by
  unfold atI at h ⊢
  rw [← rd.length]
  cases e : ixN ds.length i with
  | none => rw [e] at h; cases h
  | some j =>
    rw [e] at h
    simp only [Option.bind_some] at h ⊢
    exact rd.get h
theorem om_ix {g : G} : OpM g (rIxM g.K) fIx := by
  intro F W α δ π σ H Q d e v w r rd re h
  unfold fIx at h
  split at h
  · cases rd; cases re
    obtain ⟨h1, h2⟩ := when_ok h
    obtain ⟨c, hc, h2⟩ := opt_ok h2
    exact .inl ⟨_, _, c, rfl, rfl, fits_ok h1, hc, ok_post r h2 (.str _)⟩
  · rename_i i _
    cases re
    obtain ⟨ds, hds, h⟩ := opt_ok h
    obtain ⟨e', he, h⟩ := opt_ok h
    obtain ⟨a, vs, rfl, h3, h4⟩ := sqOf_ok r.p rd hds
    obtain ⟨v', h5, h6⟩ := atI_ok h4 he
    rcases h3 with h3 | h3
    · exact .inr (.inl ⟨a, vs, i, v', rfl, rfl, h3, h5, ok_post r h h6⟩)
    · exact .inr (.inr ⟨a, vs, i, v', rfl, rfl, h3, h5, ok_post r h h6⟩)
  · exact h.elim
end MI

set_option Elab.async false
set_option linter.all false
set_option maxRecDepth 100000
/-! Tests, and, or, not, conditional values, slices, built-ins, methods of texts. -/
namespace MI
open PySem L2

/-! ### truth -/
def truD (π : PH) : D → Option Bool
  | .non => some false
  | .bl b => some b
  | .int i => some (i != 0)
  | .str s => if s.length ≤ sizeLine then some ((s.length : Int) != 0) else none
  | d => (sqOf π d).map fun ds => !ds.isEmpty
def fTru : D → PH → Res Bool := fun d π => opt (truD π d) fun b => .ok b π
def mTru (m : M D) : M Bool := mUn fTru m
def fB : D → PH → Res Bool
  | .bl b, π => .ok b π
  | _, _ => .stuck
def mB (m : M D) : M Bool := mUn fB m
def mAnd (a b : M Bool) : M Bool := fun δ π => (a δ π).bind fun c π1 => if c = true then b δ π1 else .ok false π1
def mOr (a b : M Bool) : M Bool := fun δ π => (a δ π).bind fun c π1 => if c = true then .ok true π1 else b δ π1
def mNot (a : M Bool) : M Bool := fun δ π => (a δ π).bind fun c π1 => .ok (!c) π1
def mIf {β : Type} (c : M Bool) (a b : M β) : M β := fun δ π => (c δ π).bind fun c π1 => if c = true then a δ π1 else b δ π1
/-- and, or of values, not as a value -/
def mAndV (a b : M D) : M D := fun δ π => (a δ π).bind fun d π1 => opt (truD π1 d) fun k => if k = true then b δ π1 else .ok d π1
def mOrV (a b : M D) : M D := fun δ π => (a δ π).bind fun d π1 => opt (truD π1 d) fun k => if k = true then .ok d π1 else b δ π1
def mNotV (a : M D) : M D := mUn (fun d π => opt (truD π d) fun k => .ok (.bl (!k)) π) a
def mChain (f f' : D → D → PH → Res D) (a b c : M D) : M D := fun δ π => (a δ π).bind fun x π1 => (b δ π1).bind fun y π2 => (f x y π2).bind fun z π3 => match z with
  | .bl k => if k = true then (c δ π3).bind fun w π4 => f' y w π4 else .ok (.bl false) π3
  | _ => .stuck

theorem isEmpty_eq {α β : Type} {xs : List α} {ys : List β} (h : xs.length = ys.length) : (!ys.isEmpty) = !xs.isEmpty := by
  cases xs <;> cases ys <;> first | rfl | cases h
theorem truD_ok {g : G} {F : Addr → Prop} {α : List Addr} {π : PH} {H : Hp} {d : D} {v : V} {k : Bool} (r : RelP g F α π H) (rd : RD g α F H d v) (h : truD π d = some k) : TruV g.K v H k := by
  have seq : ∀ d v, RD g α F H d v → (sqOf π d).map (fun ds => !ds.isEmpty) = some k → ∃ a, v = .ref a ∧ TruV g.K (.ref a) H k := fun d v rd h => by
    simp only [Option.map_eq_some_iff] at h
    obtain ⟨ds, h1, h2⟩ := h
    obtain ⟨a, vs, rfl, h3, h4⟩ := sqOf_ok r rd h1
    refine ⟨a, rfl, ?_⟩
    rcases h3 with h3 | h3
    · exact .inl ⟨vs, h3, by rw [← h2]; exact (isEmpty_eq h4.length).symm⟩
    · exact .inr (.inl ⟨vs, h3, by rw [← h2]; exact (isEmpty_eq h4.length).symm⟩)
  cases rd with
  | non => cases h; rfl
  | bl b => cases h; rfl
  | int i => cases h; rfl
  | str s =>
    have h' : (if s.length ≤ sizeLine then some ((s.length : Int) != 0) else none) = some k := h
    by_cases hl : s.length ≤ sizeLine
    · rw [if_pos hl] at h'
      cases h'
      exact ⟨hl, rfl⟩
    · rw [if_neg hl] at h'
      cases h'
  | tup a b => obtain ⟨_, e, z⟩ := seq _ _ (.tup a b) h; cases e; exact z
  | lst a b c d => obtain ⟨_, e, z⟩ := seq _ _ (.lst a b c d) h; cases e; exact z
  | frz a b => obtain ⟨_, e, z⟩ := seq _ _ (.frz a b) h; cases e; exact z
  | ref a => obtain ⟨_, e, z⟩ := seq _ _ (.ref a) h; cases e; exact z
  | _ => cases h
section
variable {X : Cx} {g : G} {W : WX} {e a b c : Expr} {ma mb mc : M D} {ta tb : M Bool} {rest : List Expr} {pos : Pos}
theorem tt_tru (hK : g.K = X.K) (ha : PE X a (T g W ma)) (he : ∀ whole, isTrue a X.env whole = (do let v ← whole; standAt a.pos; holding [v] (truthy v)) := by intro _; rfl) : PT X a (TB g W (mTru ma)) :=
  wkT (pt_truth ha he) fun σ H Q ⟨F, α, δ, π, r, h⟩ => ⟨F, α, δ, π, r, (Post.bind (R := RV g F) h).imp fun v H1 ⟨α1, π1, d, le, r1, rd, h2⟩ => by
    obtain ⟨k, hk, h3⟩ := opt_ok h2
    exact ⟨k, hK ▸ truD_ok r1.p rd hk, ok_post r1 h3 rfl⟩⟩
theorem tt_B (ha : PT X a (tTest (T g W ma))) : PT X a (TB g W (mB ma)) :=
  wkT ha fun σ H Q ⟨F, α, δ, π, r, h⟩ => ⟨F, α, δ, π, r, (Post.bind (R := RV g F) h).imp fun v H1 ⟨α1, π1, d, le, r1, rd, h2⟩ => by
    unfold fB at h2
    split at h2
    · cases rd
      exact ⟨_, rfl, ok_post r1 h2 rfl⟩
    · exact h2.elim⟩
theorem tt_cmp {op : CmpOp} {r : R2} {f : D → D → PH → Res D} (ho : OpR X (compareOp op) r) (hf : OpM g r f) (ha : PE X a (T g W ma)) (hb : PE X b (T g W mb)) (hm : behindInMarks op b = false := by rfl) : PT X (.Compare a [op] [b] pos) (TB g W (mB (mOp f ma mb))) :=
  tt_B (wkT (pt_cmpR ho ha hb hm) fun _ _ _ h => op2 hf h)
theorem tt_and (ha : PT X a (TB g W ta)) (hb : PW X (.BoolOp .And (b :: rest) pos) (TB g W tb)) : PW X (.BoolOp .And (a :: b :: rest) pos) (TB g W (mAnd ta tb)) :=
  wkW (pw_and ha hb) fun σ H Q ⟨F, α, δ, π, r, h⟩ => ⟨F, α, δ, π, r, (Post.bind (R := RB) h).imp fun v H1 ⟨α1, π1, d, le, r1, rd, h2⟩ => by
    have e := rd
    subst e
    cases d with
    | true => exact ⟨F, α1, δ, π1, r1, h2⟩
    | false => exact ok_post r1 h2 rfl⟩
theorem tt_or (ha : PT X a (TB g W ta)) (hb : PW X (.BoolOp .Or (b :: rest) pos) (TB g W tb)) : PW X (.BoolOp .Or (a :: b :: rest) pos) (TB g W (mOr ta tb)) :=
  wkW (pw_or ha hb) fun σ H Q ⟨F, α, δ, π, r, h⟩ => ⟨F, α, δ, π, r, (Post.bind (R := RB) h).imp fun v H1 ⟨α1, π1, d, le, r1, rd, h2⟩ => by
    have e := rd
    subst e
    cases d with
    | true => exact ok_post r1 h2 rfl
    | false => exact ⟨F, α1, δ, π1, r1, h2⟩⟩
theorem tt_and1 (ha : PT X a (TB g W ta)) : PW X (.BoolOp .And [a] pos) (TB g W ta) := pw_and1 ha
theorem tt_or1 (ha : PT X a (TB g W ta)) : PW X (.BoolOp .Or [a] pos) (TB g W ta) := pw_or1 ha
theorem tt_not (ha : PT X a (TB g W ta)) : PT X (.UnaryOp .Not a pos) (TB g W (mNot ta)) :=
  wkT (pt_not ha) fun σ H Q ⟨F, α, δ, π, r, h⟩ => ⟨F, α, δ, π, r, (Post.bind (R := RB) h).imp fun v H1 ⟨α1, π1, d, le, r1, rd, h2⟩ => by
    cases rd
    exact ok_post r1 h2 rfl⟩
theorem te_if (hc : PT X c (TB g W ta)) (ha : PE X a (T g W ma)) (hb : PE X b (T g W mb)) : PE X (.IfExp c a b pos) (T g W (mIf ta ma mb)) :=
  wkE (pe_ifExp hc ha hb) fun σ H Q ⟨F, α, δ, π, r, h⟩ => ⟨F, α, δ, π, r, (Post.bind (R := RB) h).imp fun v H1 ⟨α1, π1, d, le, r1, rd, h2⟩ => by
    have e := rd
    subst e
    cases d with
    | true => exact ⟨F, α1, δ, π1, r1, h2⟩
    | false => exact ⟨F, α1, δ, π1, r1, h2⟩⟩
theorem te_andV (hK : g.K = X.K) (ha : PE X a (T g W ma)) (hb : PE X (.BoolOp .And (b :: rest) pos) (T g W mb)) : PE X (.BoolOp .And (a :: b :: rest) pos) (T g W (mAndV ma mb)) :=
  wkE (pe_andT ha hb) fun σ H Q ⟨F, α, δ, π, r, h⟩ => ⟨F, α, δ, π, r, (Post.bind (R := RV g F) h).imp fun v H1 ⟨α1, π1, d, le, r1, rd, h2⟩ => by
    obtain ⟨k, hk, h3⟩ := opt_ok h2
    refine ⟨k, hK ▸ truD_ok r1.p rd hk, ?_⟩
    cases k with
    | true => exact ⟨F, α1, δ, π1, r1, h3⟩
    | false => exact ok_post r1 h3 rd⟩
theorem te_orV (hK : g.K = X.K) (ha : PE X a (T g W ma)) (hb : PE X (.BoolOp .Or (b :: rest) pos) (T g W mb)) : PE X (.BoolOp .Or (a :: b :: rest) pos) (T g W (mOrV ma mb)) :=
  wkE (pe_orT ha hb) fun σ H Q ⟨F, α, δ, π, r, h⟩ => ⟨F, α, δ, π, r, (Post.bind (R := RV g F) h).imp fun v H1 ⟨α1, π1, d, le, r1, rd, h2⟩ => by
    obtain ⟨k, hk, h3⟩ := opt_ok h2
    refine ⟨k, hK ▸ truD_ok r1.p rd hk, ?_⟩
    cases k with
    | true => exact ok_post r1 h3 rd
    | false => exact ⟨F, α1, δ, π1, r1, h3⟩⟩
theorem te_one {op : BoolOp} (h : PE X a (T g W ma)) : PE X (.BoolOp op [a] pos) (T g W ma) := pe_one h
theorem te_notV (hK : g.K = X.K) (ha : PE X a (T g W ma)) : PE X (.UnaryOp .Not a pos) (T g W (mNotV ma)) :=
  wkE (pe_notT ha) fun σ H Q ⟨F, α, δ, π, r, h⟩ => ⟨F, α, δ, π, r, (Post.bind (R := RV g F) h).imp fun v H1 ⟨α1, π1, d, le, r1, rd, h2⟩ => by
    obtain ⟨k, hk, h3⟩ := opt_ok h2
    exact ⟨k, hK ▸ truD_ok r1.p rd hk, ok_post r1 h3 (.bl _)⟩⟩
theorem chainR {r r' : R2} {f f' : D → D → PH → Res D} (hf : OpM g r f) (hf' : OpM g r' f') {σ : L2.St} {H : Hp} {Q : VK} (h : T g W (mChain f f' ma mb mc) σ H Q) : tChain r r' (T g W ma) (T g W mb) (T g W mc) σ H Q := by
  obtain ⟨F, α, δ, π, r, h⟩ := h
  refine ⟨F, α, δ, π, r, (Post.bind (R := RV g F) h).imp fun v H1 ⟨α1, π1, d, le, r1, rd, h2⟩ => ?_⟩
  refine ⟨F, α1, δ, π1, r1, (Post.bind (R := RV g F) h2).imp fun w H2 ⟨α2, π2, e, le2, r2, re, h3⟩ => ?_⟩
  refine hf F W α2 δ π2 σ H2 _ d e v w r2 (rd.mono le2) re ((Post.bind (R := RV g F) h3).imp fun z H3 ⟨α3, π3, z', le3, r3, rz, h4⟩ => ?_)
  split at h4
  · rename_i k
    cases rz
    refine ⟨k, rfl, ?_⟩
    cases k with
    | true =>
      simp only [if_true] at h4 ⊢
      refine ⟨F, α3, δ, π3, r3, (Post.bind (R := RV g F) h4).imp fun y H4 ⟨α4, π4, y', le4, r4, ry, h5⟩ => ?_⟩
      exact hf' F W α4 δ π4 σ H4 Q e y' w y r4 ((re.mono le3).mono le4) ry h5
    | false =>
      simp only [Bool.false_eq_true, if_false] at h4 ⊢
      exact ok_post r3 h4 (.bl _)
  · exact h4.elim
theorem te_chain {op op' : CmpOp} {r r' : R2} {f f' : D → D → PH → Res D} (ho : OpR X (compareOp op) r) (ho' : OpR X (compareOp op') r') (hf : OpM g r f) (hf' : OpM g r' f') (ha : PE X a (T g W ma)) (hb : PE X b (T g W mb)) (hc : PE X c (T g W mc))
    (hm : lastMarks [op, op'] [b, c] = false := by with_unfolding_all rfl) : PE X (.Compare a [op, op'] [b, c] pos) (T g W (mChain f f' ma mb mc)) := wkE (pe_chain ho ho' ha hb hc hm) fun _ _ _ h => chainR hf hf' h
theorem tt_chain {op op' : CmpOp} {r r' : R2} {f f' : D → D → PH → Res D} (ho : OpR X (compareOp op) r) (ho' : OpR X (compareOp op') r') (hf : OpM g r f) (hf' : OpM g r' f') (ha : PE X a (T g W ma)) (hb : PE X b (T g W mb)) (hc : PE X c (T g W mc))
    (hm : lastMarks [op, op'] [b, c] = false := by with_unfolding_all rfl) : PT X (.Compare a [op, op'] [b, c] pos) (TB g W (mB (mChain f f' ma mb mc))) := tt_B (wkT (pt_chain ho ho' ha hb hc hm) fun _ _ _ h => chainR hf hf' h)
end

/-! ### slices -/
def mNoPart : M (Option Int) := fun _ π => .ok none π
def fPart : D → PH → Res (Option Int)
  | .int i, π => .ok (some i) π
  | _, _ => .stuck
def mPart (m : M D) : M (Option Int) := mUn fPart m
def cut {β : Type} (xs : List β) (lo hi : Option Int) : List β := (xs.drop (HT.sIx xs.length 0 lo)).take (HT.sIx xs.length xs.length hi - HT.sIx xs.length 0 lo)
def fSl (reg : Bool) (lo hi : Option Int) : D → PH → Res D
  | .str z, π => when_ (fitsB z.length) (.ok (.str (cutS z lo hi)) π)
  | .tup ds, π => .ok (.tup (cut ds lo hi)) π
  | d, π => opt (lsOf π d) fun ds => alloc reg (cut ds lo hi) π
def mSl (reg : Bool) (m : M D) (l u : M (Option Int)) : M D := fun δ π => (m δ π).bind fun d π1 => (l δ π1).bind fun lo π2 => (u δ π2).bind fun hi π3 => fSl reg lo hi d π3
abbrev RSl := V → Option Int → Option Int → Hp → VK → Prop
def rSlM (K : PySem.W.Frag) : RSl := fun x lo hi H Q => rSlS x lo hi H Q ∨ (rSlL K x lo hi H Q ∨ rSlA K x lo hi H Q)
theorem SlR.or {X : Cx} {r r' : RSl} (h : L2.SlR X r) (h' : L2.SlR X r') : L2.SlR X (fun x lo hi H Q => r x lo hi H Q ∨ r' x lo hi H Q) := by
  intro pins s σ H x v vl vu lo hi sl Q I rx hs pl pu q
  rcases q with z | z
  · exact h pins s σ H x v vl vu lo hi sl Q I rx hs pl pu z
  · exact h' pins s σ H x v vl vu lo hi sl Q I rx hs pl pu z
theorem cutV_ok {g : G} {F : Addr → Prop} {α : List Addr} {H : Hp} {ds : List D} {vs : List V} {lo hi : Option Int} (rd : RDs g α F H ds vs) : RDs g α F H (cut ds lo hi) (cutV vs lo hi) := by
  unfold cut cutV
  rw [← rd.length]
  exact (rd.drop _).take _
section
variable {X : Cx} {g : G} {W : WX} {e a b c : Expr} {ma mb mc : M D}
theorem or_sl : L2.SlR X (rSlM X.K) := SlR.or sl_str (SlR.or sl_list sl_tupA)
theorem sl_ok {F : Addr → Prop} {α : List Addr} {δ : Env} {π : PH} {σ : L2.St} {H : Hp} {Q : VK} {reg : Bool} {lo hi : Option Int} {d : D} {v : V} (r : Rel g F α δ π σ H) (rd : RD g α F H d v) (h : Post g F (RV g F) W α δ σ H Q (fSl reg lo hi d π)) : rSlM g.K v lo hi H Q := by
  unfold fSl at h
  split at h
  · cases rd
    obtain ⟨h1, h2⟩ := when_ok h
    exact .inl ⟨_, rfl, fits_ok h1, ok_post r h2 (.str _)⟩
  · rename_i ds
    cases rd with
    | tup h1 h2 =>
      rename_i a vs
      refine .inr (.inr ⟨a, vs, rfl, h1, fun hw => ok_post r h ?_, fun hn => tup_post r (cutV_ok h2) h⟩)
      have e : cut ds lo hi = ds := by
        unfold cut
        rw [h2.length, hw.1, hw.2, List.drop_zero]
        rw [Nat.sub_zero, ← h2.length, List.take_length]
      rw [e]
      exact .tup h1 h2
  · obtain ⟨ds, hds, h⟩ := opt_ok h
    obtain ⟨a, vs, rfl, h3, h4⟩ := lsOf_ok r.p rd hds
    exact .inr (.inl ⟨a, vs, rfl, h3, alloc_post r (cutV_ok h4) h⟩)
theorem to_none : PO X none (TOp g W mNoPart) := ⟨fun pins s σ H Q I ⟨F, α, δ, π, r, h⟩ => po_none.run pins s σ H Q I (h α H none .refl r rfl)⟩
theorem to_some (ha : PE X a (T g W ma)) : PO X (some a) (TOp g W (mPart ma)) := ⟨fun pins s σ H Q I ⟨F, α, δ, π, r, h⟩ => (po_some ha).run pins s σ H Q I ⟨F, α, δ, π, r, (Post.bind (R := RV g F) h).imp fun v H1 ⟨α1, π1, d, le, r1, rd, h2⟩ => by
    unfold fPart at h2
    split at h2
    · cases rd
      exact ⟨_, rfl, ok_post r1 h2 rfl⟩
    · exact h2.elim⟩⟩
theorem te_sl {lo hi : Option Expr} {l u : M (Option Int)} {pos p2 : Pos} (reg : Bool) (hK : g.K = X.K) (ha : PE X a (T g W ma)) (hl : PO X lo (TOp g W l)) (hu : PO X hi (TOp g W u)) : PE X (.Subscript a (.Slice lo hi none p2) pos) (T g W (mSl reg ma l u)) :=
  wkE (pe_slice or_sl ha hl hu) fun σ H Q ⟨F, α, δ, π, r, h⟩ => by
    refine ⟨F, α, δ, π, r, (Post.bind (R := RV g F) h).imp fun v H1 ⟨α1, π1, d, le, r1, rd, h2⟩ => ?_⟩
    refine ⟨F, α1, δ, π1, r1, (Post.bind (R := RI) h2).imp fun lo' H2 ⟨α2, π2, lo, le2, r2, rl, h3⟩ => ?_⟩
    refine ⟨F, α2, δ, π2, r2, (Post.bind (R := RI) h3).imp fun hi' H3 ⟨α3, π3, hi, le3, r3, rh, h4⟩ => ?_⟩
    cases rl; cases rh
    exact hK ▸ sl_ok r3 ((rd.mono le2).mono le3) h4
end
end MI

set_option Elab.async false
set_option linter.all false
set_option maxRecDepth 100000
/-! A def's promise by its mirror; calls of defs, by name and through names; methods; new instances. -/
namespace MI
open PySem L2

abbrev Fun_ := List D → PH → Res D
/-- as Post, without a frame -/
def PostP (g : G) (F : Addr → Prop) (E : XK) (α : List Addr) (H : Hp) (Q : VK) : Res D → Prop
  | .ok b π' => ∀ α' H' v, Le α H α' H' → RelP g F α' π' H' → RD g α' F H' b v → Q v H'
  | .exc x π' => ∀ α' H' cls dd, Le α H α' H' → RelP g F α' π' H' → RX g α' F H' x cls dd → E cls dd H'
  | .stuck => False
theorem Post.p {g : G} {F : Addr → Prop} {W : WX} {α : List Addr} {δ : Env} {π : PH} {σ : L2.St} {H : Hp} {Q : VK} {r : Res D} (rl : Rel g F α δ π σ H) (h : Post g F (RV g F) W α δ σ H Q r) : PostP g F (fun c d H => W c d σ H) α H Q r := by
  cases r with
  | ok b π => exact fun α' H' v le p rd => h α' H' v le (rl.with le p) rd
  | exc x π => exact fun α' H' c d le p rx => h α' H' c d le (rl.with le p) rx
  | stuck => exact h
/-- what a def promises -/
def spM (g : G) (n : Nat) (m : Fun_) : Sp := fun vs H Q E => vs.length = n ∧ ∃ F α π ds, RelP g F α π H ∧ RDs g α F H ds vs ∧ PostP g F E α H Q (m ds π)

/-- a def at f, called with n arguments; dd: the defaults behind them -/
structure Fn (P : Program) (w : World) (mg : Str → Option Value) (base : Heap) (g : G) (k : Nat) (f : Addr) (n : Nat) (dd : List D) (m : Fun_) : Prop where
  ex : ∃ (fd : FuncData) (ps : List Str) (ds : List Value) (dv : List V), FnOk P w g.K mg base (L2.CX P w) k f fd ps (spM g ps.length m) ∧ Binds g.K fd ps ds ∧ Vals dv ds ∧ (∀ α F H, RDs g α F H dd dv) ∧ ps.length = n + dd.length
  kp : PySem.W.keepIn g.K (.ref f) = true
theorem Fn.mono {P : Program} {w : World} {mg : Str → Option Value} {base : Heap} {g : G} {j k : Nat} {f : Addr} {n : Nat} {dd : List D} {m : Fun_} (c : Fn P w mg base g j f n dd m) (h : j ≤ k) : Fn P w mg base g k f n dd m := by
  obtain ⟨⟨fd, ps, ds, dv, F, r⟩, kp⟩ := c
  exact ⟨⟨fd, ps, ds, dv, F.mono h, r⟩, kp⟩

section
variable {X : Cx} {g : G} {W : WX} {k : Nat} {f C : Addr} {n : Nat} {dd : List D} {m : Fun_} {e o : Expr} {es : List Expr} {x : Str} {p pos apos : Pos} {ms : M (List D)} {mo : M D}
theorem run_fn {pins : List (Addr × Obj)} {σ : L2.St} {H : Hp} {s : Shared} {Q : VK} {us : List Value} {vs : List V} {F : Addr → Prop} {α : List Addr} {δ : Env} {π : PH} {ds : List D}
    (hK : g.K = X.K) (c : Fn X.prog X.w X.mg X.base g k f n dd m) (hr : Room k X.A) (tk : Takes X W) (I : Inv X pins σ H s) (r : Vals vs us) (hl : ds.length = n) (rl : Rel g F α δ π σ H) (rd : RDs g α F H ds vs) (h : Post g F (RV g F) W α δ σ H Q (m (ds ++ dd) π)) :
    wpAny (model X.prog X.w) X.A (call (.ref f) us) (EP X pins σ Q) X.xe s := by
  obtain ⟨⟨fd, ps, dsV, dv, FO, hb, hd, hdd, hn⟩, kp⟩ := c
  rw [hK] at FO hb
  have r2 : Vals (vs ++ dv) (us ++ dsV) := r.append hd
  have ld : dd.length = dv.length := (hdd α F H).length
  have hlv : (vs ++ dv).length = ps.length := by
    rw [List.length_append, ← rd.length, ← ld, hl, hn]
  have hlu : (us ++ dsV).length = ps.length := by rw [← r2.length]; exact hlv
  have hsp : spM g ps.length m (vs ++ dv) H Q (WE W σ) := ⟨hlv, F, α, π, ds ++ dd, rl.p, rd.append (hdd α F H), Post.p rl h⟩
  refine wpAny_call (codeAny_mono (FO.run X.A X.stack s H ⟨us, []⟩ (us ++ dsV) (vs ++ dv) Q (WE W σ) hr I.env0 (hb s us I.kIn hlu) r2 hsp) fun r s' hq => ?_)
  cases r with
  | error e => exact passAt tk σ pins H s e s' I hq
  | ok fl =>
    cases fl with
    | ret u => exact I.after hq
    | next => exact False.elim hq
    | brk => exact False.elim hq
    | cont => exact False.elim hq
/-- the arguments, then the def: wrong numbers of arguments are stuck -/
def fCall (n : Nat) (dd : List D) (m : Fun_) : Fun_ := fun ds π => when_ (decide (ds.length = n)) (m (ds ++ dd) π)
theorem te_call (hK : g.K = X.K) (c : Fn X.prog X.w X.mg X.base g k f n dd m) (hr : Room k X.A) (tk : Takes X W) (hg : Gl X x) (hm : X.mg x = some (.ref f)) (ha : PA X (e :: es) (TAs g W ms)) (hdb : (x == ("__debug__" : Str)) = false := by decide)
    (he : starEach (e :: es) X.env = (false, eval e X.env) :: starEach es X.env := by rfl) (hpl : (backTo pos (starEach es X.env)).any (·.1) = false := by rfl) : PE X (.Call (.Name x p) (e :: es) [] pos) (T g W (mArgs (fCall n dd m) ms)) := by
  refine ⟨fun pins s σ H Q I ⟨F, α, δ, π, r, h⟩ => ?_⟩
  refine wpAny_Call_Name_kw (ld_glob I hg hm ?_ hdb)
  refine PySem.W.callWith_K (h₀ := X.base) I.ok.mod.kin (hK ▸ c.kp) (thn (ha.run pos pins s σ H _ I ⟨F, α, δ, π, r, Post.bind (R := RA g F) h⟩) fun us s1 ⟨vs, H1, I1, rv, α1, π1, d, le, r1, rd, h2⟩ => ⟨I1.kIn, ?_⟩) he hpl
  obtain ⟨hl, h3⟩ := when_ok h2
  exact run_fn hK c hr tk I1 rv (of_decide_eq_true hl) r1 rd h3
theorem te_call0 (hK : g.K = X.K) (c : Fn X.prog X.w X.mg X.base g k f 0 dd m) (hr : Room k X.A) (tk : Takes X W) (hg : Gl X x) (hm : X.mg x = some (.ref f)) (hdb : (x == ("__debug__" : Str)) = false := by decide) :
    PE X (.Call (.Name x p) [] [] pos) (T g W (fun _ π => m dd π)) := by
  refine ⟨fun pins s σ H Q I ⟨F, α, δ, π, r, h⟩ => ?_⟩
  refine wpAny_Call_Name_kw (ld_glob I hg hm ?_ hdb)
  exact PySem.W.callWith_K0 I.kIn (hK ▸ c.kp) (run_fn (ds := []) (vs := []) (us := []) hK c hr tk I .nil rfl r .nil h)

/-! ### a def held by a name -/
/-- the defs that a name may hold: by their numbers -/
structure Tab (X : Cx) (g : G) (k n : Nat) (tab : Nat → Option Fun_) : Prop where
  all : ∀ i m, tab i = some m → Fn X.prog X.w X.mg X.base g k (g.fadr i) n [] m
def mCallV (tab : Nat → Option Fun_) (n : Nat) (mf : M D) (ms : M (List D)) : M D := fun δ π => (mf δ π).bind fun fd π1 => match fd with
  | .fn i => opt (tab i) fun m => mArgs (fCall n [] m) ms δ π1
  | _ => .stuck
theorem te_callV {tab : Nat → Option Fun_} {i : Nat} (hK : g.K = X.K) (c : Tab X g k n tab) (hr : Room k X.A) (tk : Takes X W) (hN : X.N[i]? = some x) (hv : Vis X.env.scope x) (ha : PA X (e :: es) (TAs g W ms)) (hd : (x == ("__debug__" : Str)) = false := by decide) (hcd : (x == ("__classdict__" : Str)) = false := by decide)
    (he : starEach (e :: es) X.env = (false, eval e X.env) :: starEach es X.env := by rfl) (hpl : (backTo pos (starEach es X.env)).any (·.1) = false := by rfl) : PE X (.Call (.Name x p) (e :: es) [] pos) (T g W (mCallV tab n (mVar i) ms)) := by
  refine ⟨fun pins s σ H Q I ⟨F, α, δ, π, r, h⟩ => ?_⟩
  obtain ⟨j, mm, hf, ht, h'⟩ : ∃ j mm, δ[i]? = some (some (.fn j)) ∧ tab j = some mm ∧ Post g F (RV g F) W α δ σ H Q (mArgs (fCall n [] mm) ms δ π) := by
    unfold mCallV mVar at h
    split at h
    · rename_i d hd
      cases d with
      | fn j =>
        obtain ⟨mm, h1, h2⟩ := opt_ok h
        exact ⟨j, mm, hd, h1, h2⟩
      | _ => exact h.elim
    · exact h.elim
  obtain ⟨v, hs, rd⟩ := r.slot i _ hf
  refine wpAny_Call_Name_kw (thn ((pe_var (pos := p) hN hv hd hcd).run pins s σ H (fun v' H1 => v' = v ∧ H1 = H) I ⟨v, hs, rfl, rfl⟩) fun u s1 ⟨v1, H1, I1, r1, q1⟩ => ?_)
  obtain ⟨rfl, rfl⟩ := q1
  cases rd
  cases r1
  have cj := c.all j mm ht
  refine PySem.W.callWith_K (h₀ := X.base) I.ok.mod.kin (hK ▸ cj.kp) (thn (ha.run pos pins s1 σ _ _ I1 ⟨F, α, δ, π, r, Post.bind (R := RA g F) h'⟩) fun us s2 ⟨vs, H2, I2, rv, α1, π1, d, le, r1, rd, h2⟩ => ⟨I2.kIn, ?_⟩) he hpl
  obtain ⟨hl, h3⟩ := when_ok h2
  exact run_fn hK cj hr tk I2 rv (of_decide_eq_true hl) r1 rd h3

/-! ### fields, methods, new instances -/
/-- the fields of an instance, and its class -/
def insOf (π : PH) : D → Option (Nat × List (Str × D))
  | .obj c fs => some (c, fs)
  | .ref i => match π[i]? with
    | some (.ins c fs) => some (c, fs)
    | _ => none
  | _ => none
theorem insOf_ok {F : Addr → Prop} {α : List Addr} {π : PH} {H : Hp} {d : D} {v : V} {c : Nat} {fs : List (Str × D)} (r : RelP g F α π H) (rd : RD g α F H d v) (h : insOf π d = some (c, fs)) : ∃ a dx vs, v = .ref a ∧ H a = some (.ins (g.cadr c) dx vs) ∧ RFs g α F H fs vs := by
  cases rd with
  | obj h1 h2 h3 h4 =>
    simp only [insOf, Option.some.injEq, Prod.mk.injEq] at h
    obtain ⟨rfl, rfl⟩ := h
    exact ⟨_, _, _, rfl, h1, h4⟩
  | ref ha =>
    rename_i i a
    have h' : (match π[i]? with
      | some (.ins c fs) => some (c, fs)
      | _ => none) = some (c, fs) := h
    split at h'
    · rename_i ho
      cases h'
      obtain ⟨ho', h1, h2⟩ := r.obj i a _ ha ho
      cases h2 with
      | ins h3 => exact ⟨_, _, _, rfl, h1, h3⟩
    · cases h'
  | _ => cases h
/-- the classes whose instances have a field fn of their own -/
def fFld (c : Nat) (fn : Str) : D → PH → Res D := fun d π => opt (insOf π d) fun cf => when_ (decide (cf.1 = c)) (opt (cf.2.lookup fn) fun e => .ok e π)
theorem te_fld {c : Nat} {fn : Str} (hK : g.K = X.K) (cl : Cls g.K (g.cadr c)) (na : NoAttr g.K (g.cadr c) fn) (ha : PE X o (T g W mo)) (hb : attributeBase o fn X.env (eval o X.env) = eval o X.env := by rfl) : PE X (.Attribute o fn pos) (T g W (mUn (fFld c fn) mo)) :=
  wkE (pe_fld ha hb) fun σ H Q h => un1 (r := fun x H1 Q => ∃ a C dx fs v, x = .ref a ∧ H1 a = some (.ins C dx fs) ∧ Cls X.K C ∧ NoAttr X.K C fn ∧ fs.lookup fn = some v ∧ Q v H1) (fun F W α δ π σ H Q d v r rd h => by
    obtain ⟨cf, h1, h2⟩ := opt_ok h
    obtain ⟨h3, h2⟩ := when_ok h2
    obtain ⟨e, h4, h5⟩ := opt_ok h2
    obtain ⟨c', fs⟩ := cf
    have e1 : c' = c := of_decide_eq_true h3
    subst e1
    obtain ⟨a, dx, vs, rfl, h6, h7⟩ := insOf_ok r.p rd h1
    obtain ⟨v', h8, h9⟩ := h7.get h4
    exact ⟨a, _, dx, vs, v', rfl, h6, hK ▸ cl, hK ▸ na, h8, ok_post r h5 h9⟩) h
theorem RFs.none {F : Addr → Prop} {α : List Addr} {H : Hp} : ∀ {ds : List (Str × D)} {vs : List (Str × V)} {n : Str}, RFs g α F H ds vs → ds.lookup n = Option.none → vs.lookup n = Option.none
  | _, _, _, .nil, _ => rfl
  | _, _, n, .cons (n := m) r t, h => by
    cases e' : (n == m) with
    | true =>
      simp only [List.lookup, e'] at h
      cases h
    | false =>
      simp only [List.lookup, e'] at h ⊢
      exact RFs.none t h
/-- o.m(..): the receiver first; its class must be c and have no field of the name -/
def fRecv (c : Nat) (mn : Str) : D → PH → Res D := fun d π => opt (insOf π d) fun cf => when_ (decide (cf.1 = c) && (cf.2.lookup mn).isNone) (.ok d π)
def mMeth (c : Nat) (mn : Str) (n : Nat) (dd : List D) (m : Fun_) (mo : M D) (ms : M (List D)) : M D := fun δ π => (mo δ π).bind fun d π1 => (fRecv c mn d π1).bind fun d π2 => (ms δ π2).bind fun ds π3 => fCall n dd m (d :: ds) π3
theorem recv_ok {F : Addr → Prop} {α : List Addr} {δ : Env} {π : PH} {σ : L2.St} {H : Hp} {c : Nat} {mn : Str} {d : D} {v : V} {β γ : Type} {R : List Addr → Hp → β → γ → Prop} {Q : γ → Hp → Prop} {k : D → PH → Res β} (r : Rel g F α δ π σ H) (rd : RD g α F H d v)
    (h : Post g F R W α δ σ H Q ((fRecv c mn d π).bind k)) : ∃ a dx vs, v = .ref a ∧ H a = some (.ins (g.cadr c) dx vs) ∧ vs.lookup mn = none ∧ Post g F R W α δ σ H Q (k d π) := by
  unfold fRecv opt at h
  split at h
  · rename_i cf hcf
    obtain ⟨c', fs⟩ := cf
    dsimp only at h
    unfold when_ at h
    split at h
    · rename_i hb
      rw [Bool.and_eq_true] at hb
      have e1 : c' = c := of_decide_eq_true hb.1
      subst e1
      obtain ⟨a, dx, vs, rfl, h6, h7⟩ := insOf_ok r.p rd hcf
      exact ⟨a, dx, vs, rfl, h6, RFs.none h7 (by simpa using hb.2), h⟩
    · exact h.elim
  · exact h.elim
theorem te_meth {c : Nat} {mn : Str} {pl : Sem Bool} (hK : g.K = X.K) (cl : Cls g.K (g.cadr c)) (hm : Meth g.K (g.cadr c) mn f) (cm : Fn X.prog X.w X.mg X.base g k f n dd m) (hr : Room k X.A) (tk : Takes X W) (he : PE X o (T g W mo)) (ha : PA X (e :: es) (TAs g W ms))
    (hst : starEach (e :: es) X.env = (false, eval e X.env) :: starEach es X.env := by rfl) (hpl : (backTo pos (starEach es X.env)).any (·.1) = false := by rfl)
    (ht : eval (.Call (.Attribute o mn apos) (e :: es) [] pos) X.env = (do
      let ov ← eval o X.env
      standAt apos.atName
      let (f, first) ← holding [ov] (getMethod ov mn pl)
      callWith pos f first (backTo pos (starEach (e :: es) X.env)) (backToKw pos (keywordEach [] X.env))) := by rfl) :
    PE X (.Call (.Attribute o mn apos) (e :: es) [] pos) (T g W (mMeth c mn n dd m mo ms)) := by
  refine ⟨fun pins s σ H Q I ⟨F, α, δ, π, r, h⟩ => ?_⟩
  refine PySem.W.methodCall_KW (pl := pl) (thn (he.run pins s σ H _ I ⟨F, α, δ, π, r, Post.bind (R := RV g F) h⟩) fun u s1 ⟨x, H1, I1, rx, α1, π1, d, le, r1, rd, h2⟩ => ?_) ht
  obtain ⟨a, dx, vs, rfl, ea, l, h3⟩ := recv_ok r1 rd h2
  obtain rfl : u = Value.ref a := rx
  refine getmeth_ok I1 ea (hK ▸ cl) (hK ▸ hm) l ?_
  refine PySem.W.callWith_K (first := [.ref a]) (h₀ := X.base) I.ok.mod.kin (hK ▸ hm.kp) (thn (ha.run pos pins s1 σ H1 _ I1 ⟨F, α1, δ, π1, r1, Post.bind (R := RA g F) h3⟩) fun us s2 ⟨ws, H2, I2, rv, α2, π2, ds, le2, r2, rds, h4⟩ => ⟨I2.kIn, ?_⟩) hst hpl
  obtain ⟨hl, h5⟩ := when_ok h4
  exact run_fn (us := .ref a :: us) (vs := .ref a :: ws) hK cm hr tk I2 (.cons rfl rv) (of_decide_eq_true hl) r2 (.cons (rd.mono le2) rds) h5
theorem te_meth0 {c : Nat} {mn : Str} {pl : Sem Bool} (hK : g.K = X.K) (cl : Cls g.K (g.cadr c)) (hm : Meth g.K (g.cadr c) mn f) (cm : Fn X.prog X.w X.mg X.base g k f n dd m) (hr : Room k X.A) (tk : Takes X W) (he : PE X o (T g W mo))
    (ht : eval (.Call (.Attribute o mn apos) [] [] pos) X.env = (do
      let ov ← eval o X.env
      standAt apos.atName
      let (f, first) ← holding [ov] (getMethod ov mn pl)
      callWith pos f first (backTo pos (starEach [] X.env)) (backToKw pos (keywordEach [] X.env))) := by rfl) :
    PE X (.Call (.Attribute o mn apos) [] [] pos) (T g W (mMeth c mn n dd m mo mNil)) := by
  refine ⟨fun pins s σ H Q I ⟨F, α, δ, π, r, h⟩ => ?_⟩
  refine PySem.W.methodCall_KW (pl := pl) (thn (he.run pins s σ H _ I ⟨F, α, δ, π, r, Post.bind (R := RV g F) h⟩) fun u s1 ⟨x, H1, I1, rx, α1, π1, d, le, r1, rd, h2⟩ => ?_) ht
  obtain ⟨a, dx, vs, rfl, ea, l, h3⟩ := recv_ok r1 rd h2
  obtain rfl : u = Value.ref a := rx
  refine getmeth_ok I1 ea (hK ▸ cl) (hK ▸ hm) l ?_
  obtain ⟨hl, h5⟩ := when_ok h3
  exact PySem.W.callWith_K0 (first := [.ref a]) I1.kIn (hK ▸ hm.kp) (run_fn (us := [.ref a]) (vs := [.ref a]) hK cm hr tk I1 (.cons rfl .nil) (of_decide_eq_true hl) r1 (.cons rd .nil) h5)
end
end MI

set_option Elab.async false
set_option linter.all false
set_option maxRecDepth 100000
/-! Calls that are run apart from the small heap (their arguments and results know nothing of it); new instances. -/
namespace MI
open PySem L2

mutual
/-- knows nothing of the small heap -/
def nrD : D → Bool
  | .tup xs => nrDs xs
  | .lst xs => nrDs xs
  | .frz xs => nrDs xs
  | .obj _ fs => nrFs fs
  | .ref _ => false
  | .exv _ fs => nrFs fs
  | .clo _ _ _ _ _ => false
  | _ => true
def nrDs : List D → Bool
  | [] => true
  | d :: ds => nrD d && nrDs ds
def nrFs : List (Str × D) → Bool
  | [] => true
  | (_, d) :: ds => nrD d && nrFs ds
end
section
variable {g : G} {α β : List Addr} {F F' : Addr → Prop} {H : Hp}
mutual
theorem RD.iso (hF : ∀ a, a ∉ α → ¬ F a → a ∉ β ∧ ¬ F' a) : ∀ {d : D} {v : V}, nrD d = true → RD g α F H d v → RD g β F' H d v
  | _, _, _, .non => .non
  | _, _, _, .bl b => .bl b
  | _, _, _, .int i => .int i
  | _, _, _, .str s => .str s
  | _, _, n, .tup h hs => .tup h (RDs.iso hF (by simpa [nrD] using n) hs)
  | _, _, n, .lst h hα hf hs => .lst h (hF _ hα hf).1 (hF _ hα hf).2 (RDs.iso hF (by simpa [nrD] using n) hs)
  | _, _, n, .frz h hs => .frz h (RDs.iso hF (by simpa [nrD] using n) hs)
  | _, _, n, .obj h hα hf hs => .obj h (hF _ hα hf).1 (hF _ hα hf).2 (RFs.iso hF (by simpa [nrD] using n) hs)
  | _, _, n, .ref h => by simp [nrD] at n
  | _, _, _, .fn k => .fn k
  | _, _, _, .ty n => .ty n
  | _, _, n, .exv h1 h2 h3 h4 h5 h6 h7 => .exv h1 (hF _ h2 h3).1 (hF _ h2 h3).2 h4 (hF _ h5 h6).1 (hF _ h5 h6).2 (RFs.iso hF (by simpa [nrD] using n) h7)
  | _, _, _, .lam h1 h2 h3 h4 h5 h6 => .lam h1 (hF _ h2 h3).1 (hF _ h2 h3).2 h4 (hF _ h5 h6).1 (hF _ h5 h6).2
  | _, _, _, .cls c => .cls c
  | _, _, n, .clo h4 h5 h6 h7 => by simp [nrD] at n
theorem RDs.iso (hF : ∀ a, a ∉ α → ¬ F a → a ∉ β ∧ ¬ F' a) : ∀ {d : List D} {v : List V}, nrDs d = true → RDs g α F H d v → RDs g β F' H d v
  | _, _, _, .nil => .nil
  | _, _, n, .cons h hs => by
    simp only [nrDs, Bool.and_eq_true] at n
    exact .cons (RD.iso hF n.1 h) (RDs.iso hF n.2 hs)
theorem RFs.iso (hF : ∀ a, a ∉ α → ¬ F a → a ∉ β ∧ ¬ F' a) : ∀ {d : List (Str × D)} {v : List (Str × V)}, nrFs d = true → RFs g α F H d v → RFs g β F' H d v
  | _, _, _, .nil => .nil
  | _, _, n, .cons h hs => by
    simp only [nrFs, Bool.and_eq_true] at n
    exact .cons (RD.iso hF n.1 h) (RFs.iso hF n.2 hs)
end
/-- apart: the small heap is put aside -/
def aside (F : Addr → Prop) (α : List Addr) : Addr → Prop := fun a => F a ∨ a ∈ α
theorem aside_in {a : Addr} (h1 : a ∉ α) (h2 : ¬ F a) : a ∉ ([] : List Addr) ∧ ¬ aside F α a := ⟨by simp, fun h => h.elim h2 h1⟩
theorem aside_out {a : Addr} (h2 : ¬ aside F α a) : a ∉ α ∧ ¬ F a := ⟨fun h => h2 (.inr h), fun h => h2 (.inl h)⟩
theorem RelP.aside {π : PH} (r : RelP g F α π H) : RelP g (aside F α) [] [] H := ⟨by simp, rfl, fun i a o h => by simp at h, fun a h => by
  rcases h with h | h
  · exact r.dom a h
  · obtain ⟨i, hi⟩ := List.mem_iff_getElem?.mp h
    have hl : i < π.length := by rw [← r.len]; exact (List.getElem?_eq_some_iff.mp hi).1
    obtain ⟨ho, h1, _⟩ := r.obj i a π[i] hi (by simp [hl])
    rw [h1]; simp, fun a h => by simp at h, fun t q h => by simp at h⟩
/-- back: nothing that was put aside has changed -/
theorem RelP.back {π : PH} {H' : Hp} {β β' : List Addr} (r : RelP g F α π H) (le : Le β H β' H') (hβ : ∀ a ∈ β, H a = none) : RelP g F α π H' ∧ Le α H α H' := by
  have hn : ∀ a o, H a = some o → a ∉ β := fun a o h hm => by rw [hβ a hm] at h; cases h
  have le2 : Le α H α H' := ⟨⟨[], by simp, by simp⟩, fun a o h _ => le.keep a o h (hn a o h), le.tup, le.frz, le.dom⟩
  refine ⟨⟨r.nd, r.len, fun i a o ha ho => ?_, fun a h e => r.dom a h (le.dom a e), r.sep, r.tabs⟩, le2⟩
  obtain ⟨u, h1, h2⟩ := r.obj i a o ha ho
  exact ⟨u, le.keep a u h1 (hn a u h1), h2.mono le2⟩
end

/-- the def m run apart -/
def fPure (m : Fun_) : Fun_ := fun ds π => when_ (nrDs ds) (match m ds [] with
  | .ok d _ => when_ (nrD d) (.ok d π)
  | .exc x _ => when_ (nrFs x.fs) (.exc x π)
  | .stuck => .stuck)
theorem pure_sp {g : G} {n : Nat} {m : Fun_} {vs : List V} {H : Hp} {Q : VK} {E : XK} (h : spM g n (fPure m) vs H Q E) : spM g n m vs H Q E := by
  obtain ⟨hn, F, α, π, ds, r, rd, h⟩ := h
  unfold fPure when_ at h
  split at h
  · rename_i hd
    refine ⟨hn, aside F α, [], [], ds, r.aside, rd.iso (fun a h1 h2 => aside_in h1 h2) hd, ?_⟩
    revert h
    cases m ds [] with
    | ok d π' =>
      intro h
      dsimp only at h
      split at h
      · rename_i hr
        intro α' H' v le p rv
        obtain ⟨r2, le2⟩ := r.back le (by simp)
        exact h α H' v le2 r2 (rv.iso (fun a h1 h2 => aside_out h2) hr)
      · exact h.elim
    | exc x π' =>
      intro h
      dsimp only at h
      split at h
      · rename_i hr
        intro α' H' cls dd le p ⟨e1, a, vs, e2, e3, n1, n2, e4⟩
        obtain ⟨r2, le2⟩ := r.back le (by simp)
        exact h α H' cls dd le2 r2 ⟨e1, a, vs, e2, e3, (aside_out n2).1, (aside_out n2).2, e4.iso (fun a h1 h2 => aside_out h2) hr⟩
      · exact h.elim
    | stuck => exact fun h => h.elim
  · exact h.elim
/-- a def may always be taken as one that runs apart -/
theorem Fn.pure {P : Program} {w : World} {mg : Str → Option Value} {base : Heap} {g : G} {k : Nat} {f : Addr} {n : Nat} {dd : List D} {m : Fun_} (c : Fn P w mg base g k f n dd m) : Fn P w mg base g k f n dd (fPure m) := by
  obtain ⟨⟨fd, ps, ds, dv, F, r⟩, kp⟩ := c
  exact ⟨⟨fd, ps, ds, dv, F.imp fun vs H Q E h => pure_sp h, r⟩, kp⟩

/-! ### new instances -/
def mkEnd (d : D) : D → PH → Res D := fun r π => match r with
  | .non => .ok d π
  | _ => .stuck
/-- C(..), an instance that may change -/
def fMake (c n : Nat) (dd : List D) (init : Fun_) : Fun_ := fun ds π => (fCall (n + 1) dd init (.ref π.length :: ds) (π ++ [.ins c []])).bind (mkEnd (.ref π.length))
/-- C(..), an instance that never changes behind its making -/
def fMakeF (c n : Nat) (dd : List D) (init : Fun_) : Fun_ := fun ds π => when_ (nrDs ds) (match fCall (n + 1) dd init (.ref 0 :: ds) [.ins c []] with
  | .ok .non [.ins c' fs] => when_ (decide (c' = c) && nrFs fs) (.ok (.obj c fs) π)
  | .exc x _ => when_ (nrFs x.fs) (.exc x π)
  | _ => .stuck)
section
variable {X : Cx} {g : G} {W : WX} {k : Nat} {f : Addr} {n : Nat} {dd : List D} {m : Fun_} {e : Expr} {es : List Expr} {x : Str} {p pos : Pos} {ms : M (List D)}
/-- the making of an instance, where what is raised is wanted at these slots -/
theorem run_mkS {pins : List (Addr × Obj)} {σ : L2.St} {H : Hp} {s : Shared} {Q : VK} {us ds : List Value} {vs dv : List V} {C : Addr} {fd : FuncData} {ps : List Str} {sp : Sp} {E : St → XK} {CX : CXT} (M : Mk X.K C f)
    (FO : FnOk X.prog X.w X.K X.mg X.base CX k f fd ps sp) (hr : Room (k + 1) X.A) (hb : Binds X.K fd ps ds) (hd : Vals dv ds) (hx : PassesAt CX X σ (E σ)) (I : Inv X pins σ H s) (r : Vals vs us)
    (h : ∀ y dy, H y = none → H dy = none → dy ≠ y → sp (.ref y :: (vs ++ dv)) (upd (upd H dy (.own y)) y (.ins C dy [])) (fun v H2 => v = .non ∧ Q (.ref y) H2) (E σ)) :
    wpAny (model X.prog X.w) X.A (call (.ref C) us) (EP X pins σ Q) X.xe s := by
  have qq := h (s.heap.objs.size + 1) _ (I.hok.fresh (Nat.le_succ _)) (I.hok.fresh (Nat.le_refl _)) (Nat.ne_of_lt (Nat.lt_succ_self _))
  have J := Inv.made (C := C) I
  generalize hy : s.heap.objs.size + 1 = y at qq J
  generalize hdy : s.heap.objs.size = dy at qq J
  have rr : Vals (V.ref y :: (vs ++ dv)) (Value.ref y :: (us ++ ds)) := .cons rfl (r.append hd)
  have hn : (Value.ref y :: us ++ ds).length = ps.length := rr.length.symm.trans (FO.len _ _ _ _ qq)
  have run := FO.run _ X.stack _ _ ⟨Value.ref y :: us, []⟩ (Value.ref y :: (us ++ ds)) _ _ (E σ) (hr.make C us []) (J.env0.make C us []) (hb _ (Value.ref y :: us) J.kIn hn) rr qq
  subst hdy
  subst hy
  refine wpAny_call (make_map (f := f) I.kIn M.makes M.init (beq_iff_eq.mp M.fn) (codeAny_mono run fun res s' z => ?_))
  match res, z with
  | .error e, z => exact hx pins _ _ e s' J z
  | .ok (.ret u), z =>
    obtain ⟨v, H', I3, rv, ev, q3⟩ := J.after z
    subst ev
    exact ⟨rv, ⟨V.ref (s.heap.objs.size + 1), H', I3, rfl, q3⟩⟩
/-- what the making of an instance asks, from the call's own post -/
theorem run_mk {pins : List (Addr × Obj)} {σ : L2.St} {H : Hp} {s : Shared} {Q : VK} {us : List Value} {vs : List V} {F : Addr → Prop} {α : List Addr} {δ : Env} {π : PH} {ds : List D} {c : Nat}
    (hK : g.K = X.K) (M : Mk g.K (g.cadr c) f) (cm : Fn X.prog X.w X.mg X.base g k f (n + 1) dd m) (hr : Room (k + 1) X.A) (tk : Takes X W) (I : Inv X pins σ H s) (r : Vals vs us) (rl : Rel g F α δ π σ H) (rd : RDs g α F H ds vs)
    (h : Post g F (RV g F) W α δ σ H Q (fMake c n dd m ds π) ∨ Post g F (RV g F) W α δ σ H Q (fMakeF c n dd m ds π)) :
    wpAny (model X.prog X.w) X.A (call (.ref (g.cadr c)) us) (EP X pins σ Q) X.xe s := by
  obtain ⟨⟨fd, ps, dsV, dv, FO, hb, hd, hdd, hn⟩, kp⟩ := cm
  rw [hK] at FO hb M
  have ld : dd.length = dv.length := (hdd α F H).length
  refine run_mkS (dv := dv) (ds := dsV) (E := WE W) M FO hr hb hd (passAt tk σ) I r fun y dy ny ndy ne => ?_
  -- the new object and its dict
  obtain ⟨p1, le1, nα1, nF1⟩ := rl.p.fresh (o := .own y) ndy
  have ny' : upd H dy (.own y) y = none := by rw [upd_ne (Ne.symm ne)]; exact ny
  rcases h with h | h
  · unfold fMake fCall when_ at h
    split at h
    · rename_i hl
      have hlen : ds.length = n := by simpa using hl
      obtain ⟨p2, le2⟩ := p1.reg (o := .ins c []) (ho := .ins (g.cadr c) dy []) ny' (.ins .nil)
      have le := le1.trans le2
      have hlv : (V.ref y :: (vs ++ dv)).length = ps.length := by
        rw [List.length_cons, List.length_append, ← rd.length, ← ld, hlen, hn]
        omega
      refine ⟨hlv, F, α ++ [y], π ++ [.ins c []], .ref π.length :: (ds ++ dd), p2, .cons (.ref (by rw [← rl.p.len]; simp)) ((rd.mono le).append (hdd _ _ _)), ?_⟩
      have rl2 := rl.with le p2
      have h' : Post g F (RV g F) W (α ++ [y]) δ σ (upd (upd H dy (.own y)) y (.ins (g.cadr c) dy [])) Q ((m (.ref π.length :: (ds ++ dd)) (π ++ [.ins c []])).bind (mkEnd (.ref π.length))) := Post.le le h
      refine Post.p rl2 ((Post.bind (R := RV g F) h').imp fun v H1 ⟨α1, π1, d, le3, r3, rd3, h3⟩ => ?_)
      unfold mkEnd at h3
      split at h3
      · cases rd3
        refine ⟨rfl, ok_post r3 h3 (.ref (le3.at ?_))⟩
        rw [← rl.p.len]; simp
      · exact h3.elim
    · exact h.elim
  · unfold fMakeF when_ at h
    split at h
    · rename_i hnr
      unfold fCall when_ at h
      by_cases z : decide ((D.ref 0 :: ds).length = n + 1) = true
      · rw [if_pos z] at h
        have hlen : ds.length = n := by simpa using z
        have hlv : (V.ref y :: (vs ++ dv)).length = ps.length := by
          rw [List.length_cons, List.length_append, ← rd.length, ← ld, hlen, hn]
          omega
        obtain ⟨p2, le2⟩ := (p1.aside).reg (o := .ins c []) (ho := .ins (g.cadr c) dy []) ny' (.ins .nil)
        have rdi : RDs g [y] (aside F α) (upd (upd H dy (.own y)) y (.ins (g.cadr c) dy [])) ds vs := ((rd.mono le1).iso (fun a h1 h2 => aside_in h1 h2) hnr).mono le2
        refine ⟨hlv, aside F α, [y], [.ins c []], .ref 0 :: (ds ++ dd), p2, .cons (.ref rfl) (rdi.append (hdd _ _ _)), ?_⟩
        have hz : m (.ref 0 :: ds ++ dd) [.ins c []] = m (.ref 0 :: (ds ++ dd)) [.ins c []] := rfl
        rw [hz] at h
        have nαy : y ∉ α ∧ ¬ F y := let ⟨_, _, a, b⟩ := rl.p.fresh (o := .own y) ny; ⟨a, b⟩
        have back : ∀ {α' : List Addr} {H' : Hp}, Le [y] (upd (upd H dy (.own y)) y (.ins (g.cadr c) dy [])) α' H' → RelP g F α π H' ∧ Le α H α H' := fun {α' H'} le => by
          obtain ⟨r4, le4⟩ := p1.back (le2.trans le) (by simp)
          exact ⟨r4, le1.trans le4⟩
        revert h
        cases m (.ref 0 :: (ds ++ dd)) [.ins c []] with
        | ok d π' =>
          intro h α' H' v le p rv
          obtain ⟨r4, le4⟩ := back le
          match d, π', h, p, rv with
          | .non, [.ins c' fs], h, p, rv =>
            dsimp only at h
            split at h
            · rename_i hfs
              rw [Bool.and_eq_true] at hfs
              have ec : c' = c := of_decide_eq_true hfs.1
              subst ec
              cases rv
              refine ⟨rfl, ?_⟩
              have hy : α'[0]? = some y := le.at rfl
              obtain ⟨ho, h5, h6⟩ := p.obj 0 y _ hy rfl
              cases h6 with
              | ins h7 => exact h α H' _ le4 (rl.with le4 r4) (.obj h5 nαy.1 nαy.2 (h7.iso (fun a h1 h2 => aside_out h2) hfs.2))
            · exact h.elim
        | exc x π' =>
          intro h α' H' cls dd' le p ⟨e1, a, vs', e2, e3, n1, n2, e4⟩
          obtain ⟨r4, le4⟩ := back le
          dsimp only at h
          split at h
          · rename_i hx
            exact h α H' cls dd' le4 (rl.with le4 r4) ⟨e1, a, vs', e2, e3, (aside_out n2).1, (aside_out n2).2, e4.iso (fun a h1 h2 => aside_out h2) hx⟩
          · exact h.elim
        | stuck => exact fun h => h.elim
      · rw [if_neg z] at h
        exact h.elim
    · exact h.elim
theorem te_make {c : Nat} (hK : g.K = X.K) (M : Mk g.K (g.cadr c) f) (cm : Fn X.prog X.w X.mg X.base g k f (n + 1) dd m) (hr : Room (k + 1) X.A) (tk : Takes X W) (hg : Gl X x) (hm : X.mg x = some (.ref (g.cadr c))) (ha : PA X (e :: es) (TAs g W ms)) (hdb : (x == ("__debug__" : Str)) = false := by decide)
    (he : starEach (e :: es) X.env = (false, eval e X.env) :: starEach es X.env := by rfl) (hpl : (backTo pos (starEach es X.env)).any (·.1) = false := by rfl) : PE X (.Call (.Name x p) (e :: es) [] pos) (T g W (mArgs (fMake c n dd m) ms)) := by
  refine ⟨fun pins s σ H Q I ⟨F, α, δ, π, r, h⟩ => ?_⟩
  refine wpAny_Call_Name_kw (ld_glob I hg hm ?_ hdb)
  refine PySem.W.callWith_K (h₀ := X.base) I.ok.mod.kin (hK ▸ M.kp) (thn (ha.run pos pins s σ H _ I ⟨F, α, δ, π, r, Post.bind (R := RA g F) h⟩) fun us s1 ⟨vs, H1, I1, rv, α1, π1, d, le, r1, rd, h2⟩ => ⟨I1.kIn, ?_⟩) he hpl
  exact run_mk hK M cm hr tk I1 rv r1 rd (.inl h2)
theorem te_makeF {c : Nat} (hK : g.K = X.K) (M : Mk g.K (g.cadr c) f) (cm : Fn X.prog X.w X.mg X.base g k f (n + 1) dd m) (hr : Room (k + 1) X.A) (tk : Takes X W) (hg : Gl X x) (hm : X.mg x = some (.ref (g.cadr c))) (ha : PA X (e :: es) (TAs g W ms)) (hdb : (x == ("__debug__" : Str)) = false := by decide)
    (he : starEach (e :: es) X.env = (false, eval e X.env) :: starEach es X.env := by rfl) (hpl : (backTo pos (starEach es X.env)).any (·.1) = false := by rfl) : PE X (.Call (.Name x p) (e :: es) [] pos) (T g W (mArgs (fMakeF c n dd m) ms)) := by
  refine ⟨fun pins s σ H Q I ⟨F, α, δ, π, r, h⟩ => ?_⟩
  refine wpAny_Call_Name_kw (ld_glob I hg hm ?_ hdb)
  refine PySem.W.callWith_K (h₀ := X.base) I.ok.mod.kin (hK ▸ M.kp) (thn (ha.run pos pins s σ H _ I ⟨F, α, δ, π, r, Post.bind (R := RA g F) h⟩) fun us s1 ⟨vs, H1, I1, rv, α1, π1, d, le, r1, rd, h2⟩ => ⟨I1.kIn, ?_⟩) he hpl
  exact run_mk hK M cm hr tk I1 rv r1 rd (.inr h2)
end
end MI

set_option Elab.async false
set_option linter.all false
set_option maxRecDepth 100000
/-! Statements of mirrors; a def's body keeps its promise. -/
namespace MI
open PySem L2

inductive SRes where
  | nx (δ : Env) (π : PH)
  | ret (d : D) (π : PH)
  | brk (δ : Env) (π : PH)
  | ct (δ : Env) (π : PH)
  | exc (x : Xc) (δ : Env) (π : PH)
  | stuck
abbrev MS := Env → PH → SRes
/-- an expression's result within a statement -/
def Res.sb {β : Type} (δ : Env) : Res β → (β → PH → SRes) → SRes
  | .ok b π, k => k b π
  | .exc x π, _ => .exc x δ π
  | .stuck, _ => .stuck
def SRes.then_ : SRes → MS → SRes
  | .nx δ π, k => k δ π
  | r, _ => r

def PostS (g : G) (F : Addr → Prop) (W : WX) (α : List Addr) (H : Hp) (Dn : Ends) : SRes → Prop
  | .nx δ π => ∀ α' σ' H', Le α H α' H' → Rel g F α' δ π σ' H' → Dn.nx σ' H'
  | .brk δ π => ∀ α' σ' H', Le α H α' H' → Rel g F α' δ π σ' H' → Dn.bk σ' H'
  | .ct δ π => ∀ α' σ' H', Le α H α' H' → Rel g F α' δ π σ' H' → Dn.ct σ' H'
  | .ret d π => ∀ α' H' v, Le α H α' H' → RelP g F α' π H' → RD g α' F H' d v → Dn.rt v H'
  | .exc x δ π => ∀ α' σ' H' cls dd, Le α H α' H' → Rel g F α' δ π σ' H' → RX g α' F H' x cls dd → W cls dd σ' H'
  | .stuck => False
abbrev TM (g : G) (W : WX) (m : MS) : TS := fun Dn σ H => ∃ F α δ π, Rel g F α δ π σ H ∧ PostS g F W α H Dn (m δ π)

section
variable {β γ : Type} {g : G} {F : Addr → Prop} {R : List Addr → Hp → β → γ → Prop} {W : WX} {α α' : List Addr} {δ : Env} {π : PH} {σ : L2.St} {H H' : Hp} {Dn Dn' : Ends}
theorem PostS.le {r : SRes} (le : Le α H α' H') (h : PostS g F W α H Dn r) : PostS g F W α' H' Dn r := by
  cases r with
  | nx δ π => exact fun a s b l r => h a s b (le.trans l) r
  | brk δ π => exact fun a s b l r => h a s b (le.trans l) r
  | ct δ π => exact fun a s b l r => h a s b (le.trans l) r
  | ret d π => exact fun a b v l r x => h a b v (le.trans l) r x
  | exc x δ π => exact fun a s b c d l r y => h a s b c d (le.trans l) r y
  | stuck => exact h
/-- an expression first -/
theorem sb_post {r : Res β} {k : β → PH → SRes} (rl : Rel g F α δ π σ H) (h : PostS g F W α H Dn (r.sb δ k)) :
    Post g F R W α δ σ H (fun v H1 => ∃ α1 π1 b, Le α H α1 H1 ∧ Rel g F α1 δ π1 σ H1 ∧ R α1 H1 b v ∧ PostS g F W α1 H1 Dn (k b π1)) r := by
  cases r with
  | ok b π => exact fun α2 H2 v l r x => ⟨α2, π, b, l, r, x, PostS.le l h⟩
  | exc x π => exact fun α2 H2 c d l r y => h α2 σ H2 c d l r y
  | stuck => exact h
/-- other ends -/
theorem PostS.ends {r : SRes} (h : PostS g F W α H Dn r) (hn : ∀ σ H, Dn.nx σ H → Dn'.nx σ H) (hr : ∀ v H, Dn.rt v H → Dn'.rt v H) (hb : ∀ σ H, Dn.bk σ H → Dn'.bk σ H) (hc : ∀ σ H, Dn.ct σ H → Dn'.ct σ H) : PostS g F W α H Dn' r := by
  cases r with
  | nx δ π => exact fun a s b l r => hn _ _ (h a s b l r)
  | brk δ π => exact fun a s b l r => hb _ _ (h a s b l r)
  | ct δ π => exact fun a s b l r => hc _ _ (h a s b l r)
  | ret d π => exact fun a b v l r x => hr _ _ (h a b v l r x)
  | exc x δ π => exact h
  | stuck => exact h
theorem then_post {r : SRes} {k : MS} (h : PostS g F W α H Dn (r.then_ k)) : PostS g F W α H { Dn with nx := TM g W k Dn } r := by
  cases r with
  | nx δ π => exact fun a s b l r => ⟨F, a, δ, π, r, PostS.le l h⟩
  | brk δ π => exact h
  | ct δ π => exact h
  | ret d π => exact h
  | exc x δ π => exact h
  | stuck => exact h
end

/-! ### the statements' words -/
def sNx : MS := fun δ π => .nx δ π
def sThen (a b : MS) : MS := fun δ π => (a δ π).then_ b
def sSet (i : Nat) (m : M D) : MS := fun δ π => (m δ π).sb δ fun d π1 => .nx (δ.set i (some d)) π1
def sRet (m : M D) : MS := fun δ π => (m δ π).sb δ fun d π1 => .ret d π1
def sExpr (m : M D) : MS := fun δ π => (m δ π).sb δ fun _ π1 => .nx δ π1
def sIf (c : M Bool) (a b : MS) : MS := fun δ π => (c δ π).sb δ fun k π1 => if k = true then a δ π1 else b δ π1
def sBrk : MS := fun δ π => .brk δ π
def sCt : MS := fun δ π => .ct δ π
/-- a, b = x, y -/
def sPar (i j : Nat) (m : M (List D)) : MS := fun δ π => (m δ π).sb δ fun ds π1 => match ds with
  | [d, e] => .nx ((δ.set i (some d)).set j (some e)) π1
  | _ => .stuck
/-- a, b, .. = t: into the slots is -/
def setAll (δ : Env) : List Nat → List D → Option Env
  | [], [] => some δ
  | i :: is, d :: ds => setAll (δ.set i (some d)) is ds
  | _, _ => none
def sUnp (is : List Nat) (m : M D) : MS := fun δ π => (m δ π).sb δ fun d π1 => match d with
  | .tup ds => match setAll δ is ds with
    | some δ' => .nx δ' π1
    | none => .stuck
  | _ => .stuck

section
variable {X : Cx} {g : G} {W : WX} {e a b c : Expr} {ma mb : M D} {mc : M Bool} {u v : MS} {st : Stmt} {rest ss tt : List Stmt} {pos pos' : Pos} {x y : Str} {i j : Nat}
theorem ts_nil : PSs X [] (TM g W sNx) := wkSs pss_nil fun D σ H ⟨F, α, δ, π, r, h⟩ => h α σ H .refl r
theorem ts_one (h : PS X st (TM g W u)) : PSs X [st] (TM g W u) := pss_one h
theorem ts_cons (h : PS X st (TM g W u)) (h2 : PSs X rest (TM g W v)) : PSs X (st :: rest) (TM g W (sThen u v)) :=
  wkSs (pss_cons h h2) fun D σ H ⟨F, α, δ, π, r, h⟩ => ⟨F, α, δ, π, r, then_post h⟩
theorem ts_pass : PS X (.Pass pos) (TM g W sNx) := wkS ps_pass fun D σ H ⟨F, α, δ, π, r, h⟩ => h α σ H .refl r
theorem ts_brk : PS X (.Break pos) (TM g W sBrk) := wkS ps_break fun D σ H ⟨F, α, δ, π, r, h⟩ => h α σ H .refl r
theorem ts_ct : PS X (.Continue pos) (TM g W sCt) := wkS ps_continue fun D σ H ⟨F, α, δ, π, r, h⟩ => h α σ H .refl r
theorem ts_expr (he : PE X e (T g W ma)) (hs : swapsWith e none pos.line X.env = pure false := by rfl) : PS X (.Expr e pos) (TM g W (sExpr ma)) :=
  wkS (ps_expr he hs) fun D σ H ⟨F, α, δ, π, r, h⟩ => ⟨F, α, δ, π, r, (sb_post (R := RV g F) r h).imp fun v H1 ⟨α1, π1, d, le, r1, rd, h2⟩ => h2 α1 σ H1 .refl r1⟩
theorem ts_ret (he : PE X e (T g W ma)) : PS X (.Return (some e) pos) (TM g W (sRet ma)) :=
  wkS (ps_ret he) fun D σ H ⟨F, α, δ, π, r, h⟩ => ⟨F, α, δ, π, r, (sb_post (R := RV g F) r h).imp fun v H1 ⟨α1, π1, d, le, r1, rd, h2⟩ => h2 α1 H1 v .refl r1.p rd⟩
theorem ts_retN : PS X (.Return none pos) (TM g W (sRet (mC .non))) := wkS ps_retN fun D σ H ⟨F, α, δ, π, r, h⟩ => h α H .non .refl r.p .non
theorem ts_if (hc : PT X c (TB g W mc)) (ha : PSs X ss (TM g W u)) (hb : PSs X tt (TM g W v)) : PS X (.If c ss tt pos) (TM g W (sIf mc u v)) :=
  wkS (ps_if hc ha hb) fun D σ H ⟨F, α, δ, π, r, h⟩ => ⟨F, α, δ, π, r, (sb_post (R := RB) r h).imp fun k H1 ⟨α1, π1, d, le, r1, rd, h2⟩ => by
    have e := rd
    subst e
    cases d with
    | true => exact ⟨F, α1, δ, π1, r1, h2⟩
    | false => exact ⟨F, α1, δ, π1, r1, h2⟩⟩
theorem ts_set (i : Nat) (hN : X.N.Nodup) (he : PE X e (T g W ma)) (hi : X.N[i]? = some x := by rfl) (hx : Loc X.env.scope x := by first | exact Or.inl rfl | exact Or.inr rfl) (hs : swapsWith e (some (.Name x pos')) pos.line X.env = pure false := by rfl)
    (hf : X.fn x = true ∨ X.env.scope.names.lookup x = some .local := by first | exact .inl rfl | exact .inr rfl | assumption) : PS X (.Assign [.Name x pos'] e pos) (TM g W (sSet i ma)) :=
  wkS (ps_set hN hi hx he hs hf) fun D σ H ⟨F, α, δ, π, r, h⟩ => ⟨F, α, δ, π, r, (sb_post (R := RV g F) r h).imp fun v H1 ⟨α1, π1, d, le, r1, rd, h2⟩ => h2 α1 _ H1 .refl (r1.set rd)⟩
theorem ts_par (i j : Nat) {px py pt : Pos} {kt k2 pt2} {m : M (List D)} (hc : X.calm = true) (hN : X.N.Nodup) (hi : X.N[i]? = some x) (hj : X.N[j]? = some y) (hij : i ≠ j)
    (hx : X.env.scope.names.lookup x = some .local) (hy : X.env.scope.names.lookup y = some .local) (ha : PA X [a, b] (TAs g W m))
    (hw : swappedStores [.Tuple [.Name x px, .Name y py] kt pt] (.Tuple [a, b] k2 pt2) X.env = pure (some [x, y]))
    (hs : swapsWithSole [.Tuple [.Name x px, .Name y py] kt pt] (.Tuple [a, b] k2 pt2) pos.line X.env = pure false := by rfl) :
    PS X (.Assign [.Tuple [.Name x px, .Name y py] kt pt] (.Tuple [a, b] k2 pt2) pos) (TM g W (sPar i j m)) :=
  wkS (ps_par hc hN hi hj hij hx hy ha hw hs) fun D σ H ⟨F, α, δ, π, r, h⟩ => ⟨F, α, δ, π, r, (sb_post (R := RA g F) r h).imp fun v H1 ⟨α1, π1, d, le, r1, rd, h2⟩ => by
    match d, v, rd, h2 with
    | [d, e], [v, w], .cons rd (.cons re .nil), h2 => exact ⟨v, w, rfl, h2 α1 _ H1 .refl ((r1.set rd).set re)⟩⟩
/-- targets of an unpacking: names -/
structure PNs (X : Cx) (es : List Expr) (is : List Nat) : Prop where
  all : ∃ t : TGs, PGs X es t ∧ ∀ (g : G) (F : Addr → Prop) (W : WX) (α : List Addr) (δ δ' : Env) (π : PH) (σ : L2.St) (H : Hp) (ds : List D) (vs : List V) (Q : L2.St → Hp → Prop), Rel g F α δ π σ H → RDs g α F H ds vs → setAll δ is ds = some δ' → (∀ σ', Rel g F α δ' π σ' H → Q σ' H) → t vs σ H Q
theorem pns_nil : PNs X [] [] := ⟨_, pgs_nil, fun g F W α δ δ' π σ H ds vs Q r rd h q => by
  cases rd with
  | nil => cases h; exact ⟨rfl, q σ r⟩
  | cons _ _ => cases h⟩
theorem pns_cons {es : List Expr} {is : List Nat} (i : Nat) (hN : X.N.Nodup) (h : PNs X es is) (hi : X.N[i]? = some x := by rfl) (hx : Loc X.env.scope x := by first | exact Or.inl rfl | exact Or.inr rfl) (hf : X.fn x = true ∨ X.env.scope.names.lookup x = some .local := by first | exact .inl rfl | exact .inr rfl | assumption)
    (hs : (assignEach (.Name x pos :: es) X.env).map (·.2) = assign (.Name x pos) X.env :: (assignEach es X.env).map (·.2) := by rfl) : PNs X (.Name x pos :: es) (i :: is) := by
  obtain ⟨t, h1, h2⟩ := h
  refine ⟨_, pgs_cons (pg_name (i := i) hN hi hx hf) h1 hs, fun g F W α δ δ' π σ H ds vs Q r rd h q => ?_⟩
  cases rd with
  | nil => cases h
  | cons rd rs => exact ⟨_, _, rfl, h2 g F W α _ δ' π _ H _ _ Q (r.set rd) rs h q⟩
theorem ts_unp {es : List Expr} {k : Nat} {is : List Nat} {n : Nat} {p2 : Pos} (hK : g.K = X.K) (hc : X.calm = true) (he : PE X e (T g W ma)) (h : PNs X es is) (hn : (assignEach es X.env).length = n := by rfl) (hl : is.length = n := by rfl) (hst : (assignEach es X.env).findIdx? (·.1) = none := by rfl)
    (hs : swapsWithSole [.Tuple es k p2] e pos.line X.env = pure false := by rfl) (hw : swappedStores [.Tuple es k p2] e X.env = pure none := by rfl)
    (h1 : (assignEach [.Tuple es k p2] X.env).map (·.2) = [assign (.Tuple es k p2) X.env] := by rfl) : PS X (.Assign [.Tuple es k p2] e pos) (TM g W (sUnp is ma)) := by
  obtain ⟨t, h2, h3⟩ := h
  refine wkS (ps_asg he (pg_tup hc h2 hn hst) hs hw h1) fun D σ H ⟨F, α, δ, π, r, h⟩ => ⟨F, α, δ, π, r, (sb_post (R := RV g F) r h).imp fun v H1 ⟨α1, π1, d, le, r1, rd, h4⟩ => ?_⟩
  split at h4
  · rename_i ds
    split at h4
    · rename_i δ' hδ
      cases rd with
      | tup ht hs' =>
        have hlen : ∀ {is : List Nat} {ds : List MI.D} {δ δ' : MI.Env}, setAll δ is ds = some δ' → ds.length = is.length := by
          intro is
          induction is with
          | nil => intro ds δ δ' h; cases ds with
            | nil => rfl
            | cons _ _ => cases h
          | cons i is ih => intro ds δ δ' h; cases ds with
            | nil => cases h
            | cons _ _ => simp [ih h]
        exact ⟨_, _, rfl, hK ▸ ht, by rw [← hs'.length, hlen hδ, hl], h3 g F W α1 δ δ' π1 σ H1 ds _ D.nx r1 hs' hδ fun σ' r' => h4 α1 σ' H1 .refl r'⟩
    · exact h4.elim
  · exact h4.elim
end

/-! ### a def's body -/
def runB (n : Nat) (m : MS) : Fun_ := fun ds π => match m (ds.map some ++ List.replicate (n - ds.length) none) π with
  | .nx _ π' => .ok .non π'
  | .ret d π' => .ok d π'
  | .exc x _ π' => .exc x π'
  | _ => .stuck
theorem rel_start {g : G} {F : Addr → Prop} {α : List Addr} {π : PH} {H : Hp} {ds : List D} {vs : List V} {N : List Str} (r : RelP g F α π H) (rd : RDs g α F H ds vs) : Rel g F α (ds.map some ++ List.replicate (N.length - ds.length) none) π (L2.start N vs) H := by
  refine ⟨r, by simp [L2.start, rd.length], fun i d h => ?_⟩
  by_cases hi : i < ds.length
  · rw [List.getElem?_append_left (by simpa using hi), List.getElem?_map] at h
    cases e : ds[i]? with
    | none => rw [e] at h; cases h
    | some d' =>
      rw [e] at h
      cases h
      obtain ⟨v, h1, h2⟩ := rd.get e
      refine ⟨v, ?_, h2⟩
      unfold L2.start
      rw [List.getElem?_append_left (by simpa [← rd.length] using hi), List.getElem?_map, h1]
      rfl
  · rw [List.getElem?_append_right (by simpa using hi)] at h
    rw [List.getElem?_replicate] at h
    split at h <;> cases h
theorem fn_body {P : Program} {w : World} {mg : Str → Option Value} {base : Heap} {g : G} {x qual : Str} {st : Stmt} {f : Addr} {fd : FuncData} {N ps : List Str} {k : Nat} {ms : MS} (Fu : Fun g.K x qual st f fd) (S : FnScope N ps (defScope st))
    (hb : ∀ (cdv : Value) (A : Around) (outer : List PySem.Env) (s : Shared) (H : Hp) (E : XK), Room k (A.deeper (PyProof.Rows.envOfC qual (defScope st) s.heap.objs.size f cdv)) →
      PSs (cxOf (L2.CX P w) P w g.K mg base N qual (defScope st) f cdv A outer s H E) (defBody st) (TM g (fun cls d _ H' => E cls d H') ms)) : FnOk P w g.K mg base (L2.CX P w) (k + 1) f fd ps (spM g ps.length (runB N.length ms)) := by
  refine Fu.okX S (fun vs H Q E h => h.1) fun cdv A outer s H vs Q E hr h => ⟨_, hb cdv A outer s H E hr, ?_⟩
  obtain ⟨hn, F, α, π, ds, r, rd, h⟩ := h
  refine ⟨F, α, _, π, rel_start r rd, ?_⟩
  unfold runB at h
  revert h
  cases ms (ds.map some ++ List.replicate (N.length - ds.length) none) π with
  | nx δ π' => exact fun h α' σ' H' le r' => h α' H' .non le r'.p .non
  | ret d π' => exact fun h α' H' v le r' rd' => h α' H' v le r' rd'
  | exc x δ π' => exact fun h α' σ' H' c d le r' rx => h α' H' c d le r'.p rx
  | brk δ π' => exact fun h => h.elim
  | ct δ π' => exact fun h => h.elim
  | stuck => exact fun h => h.elim
end MI

set_option Elab.async false
set_option linter.all false
set_option maxRecDepth 100000
/-! What is walked; for, while. -/
namespace MI
open PySem L2

section
variable {g : G} {α β : List Addr} {F F' : Addr → Prop} {H H' : Hp}
/-- what lets a relation pass to another heap -/
structure Via (g : G) (α : List Addr) (F : Addr → Prop) (H : Hp) (β : List Addr) (F' : Addr → Prop) (H' : Hp) : Prop where
  at_ : ∀ (i : Nat) a, α[i]? = some a → β[i]? = some a
  keep : ∀ a o, H a = some o → a ∉ α → ¬ F a → H' a = some o ∧ a ∉ β ∧ ¬ F' a
  tup : ∀ a vs, SqT g.K H a vs → SqT g.K H' a vs
  frz : ∀ a o u, H a = some (.frz o u) → H' a = some (.frz o u)
mutual
theorem RD.via (x : Via g α F H β F' H') : ∀ {d : D} {v : V}, RD g α F H d v → RD g β F' H' d v
  | _, _, .non => .non
  | _, _, .bl b => .bl b
  | _, _, .int i => .int i
  | _, _, .str s => .str s
  | _, _, .tup h hs => .tup (x.tup _ _ h) (RDs.via x hs)
  | _, _, .lst h hα hf hs => .lst (x.keep _ _ h hα hf).1 (x.keep _ _ h hα hf).2.1 (x.keep _ _ h hα hf).2.2 (RDs.via x hs)
  | _, _, .frz h hs => .frz (x.frz _ _ _ h) (RDs.via x hs)
  | _, _, .obj h hα hf hs => .obj (x.keep _ _ h hα hf).1 (x.keep _ _ h hα hf).2.1 (x.keep _ _ h hα hf).2.2 (RFs.via x hs)
  | _, _, .ref h => .ref (x.at_ _ _ h)
  | _, _, .fn k => .fn k
  | _, _, .ty n => .ty n
  | _, _, .exv h1 h2 h3 h4 h5 h6 h7 => .exv (x.keep _ _ h1 h2 h3).1 (x.keep _ _ h1 h2 h3).2.1 (x.keep _ _ h1 h2 h3).2.2 (x.keep _ _ h4 h5 h6).1 (x.keep _ _ h4 h5 h6).2.1 (x.keep _ _ h4 h5 h6).2.2 (RFs.via x h7)
  | _, _, .lam h1 h2 h3 h4 h5 h6 => .lam (x.keep _ _ h1 h2 h3).1 (x.keep _ _ h1 h2 h3).2.1 (x.keep _ _ h1 h2 h3).2.2 (x.keep _ _ h4 h5 h6).1 (x.keep _ _ h4 h5 h6).2.1 (x.keep _ _ h4 h5 h6).2.2
  | _, _, .cls c => .cls c
  | _, _, .clo h4 h5 h6 h7 => .clo (x.keep _ _ h4 h5 h6).1 (x.keep _ _ h4 h5 h6).2.1 (x.keep _ _ h4 h5 h6).2.2 (RDs.via x h7)
theorem RDs.via (x : Via g α F H β F' H') : ∀ {d : List D} {v : List V}, RDs g α F H d v → RDs g β F' H' d v
  | _, _, .nil => .nil
  | _, _, .cons h hs => .cons (RD.via x h) (RDs.via x hs)
theorem RFs.via (x : Via g α F H β F' H') : ∀ {d : List (Str × D)} {v : List (Str × V)}, RFs g α F H d v → RFs g β F' H' d v
  | _, _, .nil => .nil
  | _, _, .cons h hs => .cons (RD.via x h) (RFs.via x hs)
end
theorem RO.via (x : Via g α F H β F' H') {o : O} {ho : HO} (h : RO g α F H o ho) : RO g β F' H' o ho := by
  cases h with
  | lst h => exact .lst (h.via x)
  | ins h => exact .ins (h.via x)
  | tbl h1 h2 =>
    refine .tbl h1 fun pos cv e => ?_
    obtain ⟨c, e1, e2, e3, e4⟩ := h2 pos cv e
    obtain ⟨k1, k2, k3⟩ := x.keep _ _ e2 e3 e4
    exact ⟨c, e1, k1, k2, k3⟩
/-- the relation goes over, the things of the small heap stand -/
theorem Rel.via {δ : Env} {π : PH} {σ : L2.St} (x : Via g α F H α F' H') (r : Rel g F α δ π σ H) (hs : ∀ a ∈ α, ∀ o, H a = some o → H' a = some o) (hd : ∀ a, F' a → H' a ≠ none) (hp : ∀ a ∈ α, ¬ F' a) : Rel g F' α δ π σ H' :=
  ⟨⟨r.p.nd, r.p.len, fun i a o ha ho => by
    obtain ⟨u, h1, h2⟩ := r.p.obj i a o ha ho
    exact ⟨u, hs a (List.mem_iff_getElem?.mpr ⟨i, ha⟩) u h1, h2.via x⟩, hd, hp, r.p.tabs⟩, r.len, fun i d h => by
    obtain ⟨v, h1, h2⟩ := r.slot i d h
    exact ⟨v, h1, h2.via x⟩⟩
end

section
variable {g : G} {α α' α'' β : List Addr} {F F' F'' : Addr → Prop} {H H' H'' : Hp} {δ : Env} {π : PH} {σ : L2.St}
theorem Via.refl : Via g α F H α F H := ⟨fun _ _ h => h, fun a o h h1 h2 => ⟨h, h1, h2⟩, fun _ _ h => h, fun _ _ _ h => h⟩
theorem Via.trans (x : Via g α F H α' F' H') (y : Via g α' F' H' α'' F'' H'') : Via g α F H α'' F'' H'' :=
  ⟨fun i a h => y.at_ i a (x.at_ i a h), fun a o h h1 h2 => let ⟨a1, a2, a3⟩ := x.keep a o h h1 h2; y.keep a o a1 a2 a3, fun a vs h => y.tup a vs (x.tup a vs h), fun a o u h => y.frz a o u (x.frz a o u h)⟩
theorem Le.via (le : Le α H α' H') : Via g α F H α' F H' := ⟨fun i a h => le.at h, fun a o h h1 h2 => ⟨le.keep a o h h1, le.notin h h1, h2⟩, fun a vs h => le.sqT h, fun a o u h => le.frz a o u h⟩
/-- all stands as it stood -/
def Ex (H H' : Hp) : Prop := ∀ a o, H a = some o → H' a = some o
theorem Ex.refl : Ex H H := fun _ _ h => h
theorem Ex.new {p : Addr} {o : HO} (hp : H p = none) : Ex H (upd H p o) := fun a u h => by rw [upd_ne (ne_of_none h hp)]; exact h
theorem Ex.le (e : Ex H H') : Le α H α H' := ⟨⟨[], by simp, by simp⟩, fun a o h _ => e a o h, fun a vs h => e _ _ h, fun a o u h => e _ _ h, fun a h => by
  cases q : H a with
  | none => rfl
  | some o => rw [e a o q] at h; cases h⟩
theorem Rel.ex (e : Ex H H') (r : Rel g F α δ π σ H) : Rel g F α δ π σ H' := r.via (Le.via e.le) (fun a _ o h => e a o h) (fun a h z => r.p.dom a h (e.le (α := α) |>.dom a z)) r.p.sep
end

/-- what a loop walks: fixed items; or the r-th thing, a list that must keep its length n -/
inductive Src where
  | fix (xs : List D)
  | mut (r n : Nat)
  /-- with numbers from k on; two at once -/
  | enu (k : Int) (s : Src)
  | zip (s t : Src)
def Src.len : Src → Nat
  | .fix xs => xs.length
  | .mut _ n => n
  | .enu _ s => s.len
  | .zip s t => min s.len t.len
def Src.get (π : PH) (i : Nat) : Src → Option D
  | .enu k s => (s.get π i).map fun d => .tup [.int (k + (i : Nat)), d]
  | .zip s t => match s.get π i, t.get π i with
    | some d, some e => some (.tup [d, e])
    | _, _ => none
  | .fix xs => xs[i]?
  | .mut r n => match π[r]? with
    | some (.lst ys) => if ys.length = n then ys[i]? else none
    | _ => none
def Src.fin (π : PH) : Src → Bool
  | .enu _ s => s.fin π
  | .zip s t => s.fin π && t.fin π
  | .fix _ => true
  | .mut r n => match π[r]? with
    | some (.lst ys) => decide (ys.length = n)
    | _ => false
/-- how HandS's walk yields the items -/
def RSrc (g : G) (F : Addr → Prop) : List Addr → Hp → Src → It → Prop := fun α H s J => ∀ F' α' δ π' σ H', Via g α F H α' F' H' → Rel g F' α' δ π' σ H' →
  (∀ i d, i < s.len → s.get π' i = some d → J.go i H' ∧ ∀ x H'', J.yld i H' x H'' → Ex H' H'' ∧ RD g α' F' H'' d x) ∧ (s.fin π' = true → J.stop s.len H')
abbrev TSrc (g : G) (W : WX) (m : M Src) : TI := TX g (RSrc g) W m

def srcOf (π : PH) : D → Option Src
  | .tup ds => some (.fix ds)
  | .lst ds => some (.fix ds)
  | .frz ds => some (.fix ds)
  | .str s => some (.fix (s.cps.toList.map fun c => .str ⟨#[c]⟩))
  | .ref r => match π[r]? with
    | some (.lst ys) => some (.mut r ys.length)
    | _ => none
  | _ => none
def fSrc : D → PH → Res Src := fun d π => opt (srcOf π d) fun s => .ok s π
def rngD (lo : Int) (n : Nat) : List D := (List.range n).map fun (i : Nat) => .int (lo + i)
def okR (i : Int) : Bool := decide (-4611686018427387904 ≤ i) && decide (i < 4611686018427387904)
def fRng1 : List D → PH → Res Src
  | [.int j], π => when_ (okR j) (.ok (.fix (rngD 0 j.toNat)) π)
  | _, _ => .stuck
def fRng2 : List D → PH → Res Src
  | [.int i, .int j], π => when_ (okR i && okR j) (.ok (.fix (rngD i (j - i).toNat)) π)
  | _, _ => .stuck

/-- a list, a tuple, a text -/
def iAny (K : PySem.W.Frag) (tl : TE) : TI := fun σ H R => tl σ H fun x H1 => (∃ a, x = .ref a ∧ (((∃ xs, SqL K H1 a xs) ∧ R (Itl K a) H1) ∨ ((∃ xs, SqT K H1 a xs) ∧ R (Itt K a) H1))) ∨ ∃ z, x = .str z ∧ R (Its z) H1
theorem pi_any {X : Cx} {tg l : Expr} {tl : TE} (hl : PE X l tl) : PI X tg l (iAny X.K tl) := by
  refine ⟨fun pins s σ H R I h => ?_⟩
  refine thn (hl.run pins s σ H _ I h) fun v s1 ⟨x, H1, I1, r1, q1⟩ => ?_
  have one := fun (P : V → Hp → Prop) (t : TI) (pi : PI X tg l t) (h : t σ H R) => (pi.run pins s σ H R I h)
  rcases q1 with ⟨a, e, q⟩ | ⟨z, e, q⟩
  · subst e
    cases r1
    rcases q with ⟨⟨xs, hq⟩, q⟩ | ⟨⟨xs, hq⟩, q⟩
    · obtain ⟨its, rv, p, hz⟩ := I1.list hq
      refine wpAny_pyIter_list p.isList ⟨_, [s1.heap.objs.size], _, _, H1, rfl, I1.kept (t' := s1.toks) fun b o e => Heap.get?_push_of_some _ e, turn_list a _, ⟨_, Heap.get?_push_size _ rfl, rfl, rfl⟩, fun b hb => ?_, q⟩
      obtain rfl : b = s1.heap.objs.size := by simpa using hb
      exact I1.fpOk (Nat.le_refl _) (I1.hok.fresh (Nat.le_refl _))
    · obtain ⟨its, rv, p, hz⟩ := I1.tuple hq
      refine wpAny_pyIter_tuple (show s1.heap.IsTuple a its.toArray from p) ⟨_, [s1.heap.objs.size], _, _, H1, rfl, I1.kept (t' := s1.toks) fun b o e => Heap.get?_push_of_some _ e, turn_tuple a _, ⟨_, Heap.get?_push_size _ rfl, rfl, rfl⟩, fun b hb => ?_, q⟩
      obtain rfl : b = s1.heap.objs.size := by simpa using hb
      exact I1.fpOk (Nat.le_refl _) (I1.hok.fresh (Nat.le_refl _))
  · subst e
    obtain ⟨tk, rfl⟩ := r1
    have fin : ∀ ty, (ty = "str_ascii_iterator" ∨ ty = "str_iterator") → PIE X pins σ tg R (.ref s1.heap.objs.size) { s1 with heap := s1.heap.push { cls := .type ty, data := .fields #[.str z tk, .int 0 0] } } := fun ty hty => pi_one (tk := s1.toks) I1 _ (turn_str _ z tk ty hty) ⟨_, Heap.get?_push_size _ rfl, rfl, rfl⟩ q
    by_cases hz : z.cps.all (· < 128) = true
    · exact wpAny_pyIter_ascii hz (fin _ (.inl rfl))
    · exact wpAny_pyIter_wide (by simpa using hz) (fin _ (.inr rfl))
section
variable {g : G} {F : Addr → Prop} {α : List Addr} {δ : Env} {π : PH} {σ : L2.St} {H : Hp}
theorem src_list {a : Addr} {ds : List D} {vs : List V} (h : ∀ α' F' H', Via g α F H α' F' H' → SqL g.K H' a vs ∧ RDs g α' F' H' ds vs) : RSrc g F α H (.fix ds) (Itl g.K a) := by
  intro F' α' δ π' σ H' le r
  obtain ⟨h1, h2⟩ := h α' F' H' le
  refine ⟨fun i d hi hd => ?_, fun _ => ⟨vs, h1, by show vs.length ≤ ds.length; rw [h2.length]; exact Nat.le_refl _⟩⟩
  obtain ⟨v, hv, rv⟩ := h2.get hd
  refine ⟨⟨vs, v, h1, hv⟩, fun x H'' ⟨e, y⟩ => ?_⟩
  subst e
  have := y vs h1
  rw [hv] at this
  cases this
  exact ⟨.refl, rv⟩
theorem src_tup {a : Addr} {ds : List D} {vs : List V} (h : SqT g.K H a vs) (hs : RDs g α F H ds vs) : RSrc g F α H (.fix ds) (Itt g.K a) := by
  intro F' α' δ π' σ H' le r
  have h1 := le.tup _ _ h
  have h2 := hs.via le
  refine ⟨fun i d hi hd => ?_, fun _ => ⟨vs, h1, by show vs.length ≤ ds.length; rw [h2.length]; exact Nat.le_refl _⟩⟩
  obtain ⟨v, hv, rv⟩ := h2.get hd
  refine ⟨⟨vs, v, h1, hv⟩, fun x H'' ⟨e, y⟩ => ?_⟩
  subst e
  have := y vs h1
  rw [hv] at this
  cases this
  exact ⟨.refl, rv⟩
theorem src_mut {a : Addr} {i : Nat} {n : Nat} (ha : α[i]? = some a) : RSrc g F α H (.mut i n) (Itl g.K a) := by
  intro F' α' δ π' σ H' le r
  have ha' := le.at_ _ _ ha
  refine ⟨fun j d hj hd => ?_, fun hf => ?_⟩
  · unfold Src.get at hd
    try dsimp only at hd
    split at hd
    · rename_i ys hy
      split at hd
      · obtain ⟨vs, h1, h2⟩ := r.p.lst ha' hy
        obtain ⟨v, hv, rv⟩ := h2.get hd
        refine ⟨⟨vs, v, .of h1, hv⟩, fun x H'' ⟨e, y⟩ => ?_⟩
        subst e
        have := y vs (.of h1)
        rw [hv] at this
        cases this
        exact ⟨.refl, rv⟩
      · cases hd
    · cases hd
  · unfold Src.fin at hf
    try dsimp only at hf
    split at hf
    · rename_i ys hy
      obtain ⟨vs, h1, h2⟩ := r.p.lst ha' hy
      exact ⟨vs, .of h1, by show vs.length ≤ n; rw [← h2.length]; exact Nat.le_of_eq (of_decide_eq_true hf)⟩
    · cases hf
theorem src_str {z : Str} : RSrc g F α H (.fix (z.cps.toList.map fun c => .str ⟨#[c]⟩)) (Its z) := by
  intro F' α' δ π' σ H' le r
  refine ⟨fun i d hi hd => ?_, fun _ => ?_⟩
  · have hl : i < z.cps.size := by simpa [Src.len] using hi
    have hd' : (z.cps.toList.map fun c => D.str ⟨#[c]⟩)[i]? = some d := hd
    rw [List.getElem?_map] at hd'
    refine ⟨hl, fun x H'' ⟨e, c, hc, ex⟩ => ?_⟩
    subst e; subst ex
    rw [Array.getElem?_toList, hc] at hd'
    cases hd'
    exact ⟨.refl, .str _⟩
  · show z.cps.size ≤ _
    simp [Src.len]
theorem src_rng {lo : Int} {n : Nat} : RSrc g F α H (.fix (rngD lo n)) (Itr lo n) := by
  intro F' α' δ π' σ H' le r
  refine ⟨fun i d hi hd => ?_, fun _ => ?_⟩
  · have hl : i < n := by simpa [Src.len, rngD] using hi
    have hd' : (rngD lo n)[i]? = some d := hd
    unfold rngD at hd'
    rw [List.getElem?_map, List.getElem?_range hl] at hd'
    refine ⟨hl, fun x H'' ⟨e, ex⟩ => ?_⟩
    subst e; subst ex
    cases hd'
    exact ⟨.refl, .int _⟩
  · show n ≤ _
    simp [Src.len, rngD]
end
section
variable {X : Cx} {g : G} {W : WX} {e a b : Expr} {ma mb : M D} {tg : Expr} {p pos : Pos} {ms : M (List D)}
theorem tf_any (hK : g.K = X.K) (he : PE X e (T g W ma)) : PI X tg e (TSrc g W (mUn fSrc ma)) := by
  refine ⟨fun pins s σ H R I ⟨F, α, δ, π, r, h⟩ => (pi_any he).run pins s σ H R I ⟨F, α, δ, π, r, (Post.bind (R := RV g F) h).imp fun v H1 ⟨α1, π1, d, le, r1, rd, h2⟩ => ?_⟩⟩
  obtain ⟨sr, h3, h4⟩ := opt_ok h2
  have go : ∀ J, RSrc g F α1 H1 sr J → R J H1 := fun J hJ => ok_post r1 h4 hJ
  clear h4 h2 h
  cases rd with
  | tup h1 h2 => cases h3; exact .inl ⟨_, rfl, .inr ⟨⟨_, hK ▸ h1⟩, go _ (hK ▸ src_tup h1 h2)⟩⟩
  | lst h1 h2 h5 h6 => cases h3; exact .inl ⟨_, rfl, .inl ⟨⟨_, .of h1⟩, go _ (hK ▸ src_list fun α' F' H' le => ⟨.of (le.keep _ _ h1 h2 h5).1, h6.via le⟩)⟩⟩
  | frz h1 h2 => cases h3; exact .inl ⟨_, rfl, .inl ⟨⟨_, .inl (.inr ⟨_, h1⟩)⟩, go _ (hK ▸ src_list fun α' F' H' le => ⟨.inl (.inr ⟨_, le.frz _ _ _ h1⟩), h2.via le⟩)⟩⟩
  | str z => cases h3; exact .inr ⟨z, rfl, go _ src_str⟩
  | @ref i a ha =>
    have h' : (match π1[i]? with
      | some (.lst ys) => some (.mut i ys.length)
      | _ => none) = some sr := h3
    split at h'
    · rename_i ys hy
      cases h'
      obtain ⟨vs, h5, h6⟩ := r1.p.lst ha hy
      exact .inl ⟨a, rfl, .inl ⟨⟨vs, .of h5⟩, go _ (hK ▸ src_mut ha)⟩⟩
    · cases h'
  | _ => cases h3
theorem okR_ok {i : Int} (h : okR i = true) : -(2 ^ 62) ≤ i ∧ i < 2 ^ 62 := by
  simp only [okR, Bool.and_eq_true, decide_eq_true_eq] at h
  exact ⟨h.1, h.2⟩
def mSrcA (f : List D → PH → Res Src) (m : M (List D)) : M Src := fun δ π => (m δ π).bind fun d π1 => f d π1
theorem tf_rng1 (hg : Gl X "range") (hm : X.mg "range" = none) (ha : PA X [a] (TAs g W ms)) (hs : starEach [a] X.env = [(false, eval a X.env)] := by rfl) : PI X tg (.Call (.Name "range" p) [a] [] pos) (TSrc g W (mSrcA fRng1 ms)) := by
  refine ⟨fun pins s σ H R I ⟨F, α, δ, π, r, h⟩ => (pi_range1 hg hm ha hs).run pins s σ H R I ⟨F, α, δ, π, r, (Post.bind (R := RA g F) h).imp fun v H1 ⟨α1, π1, d, le, r1, rd, h2⟩ => ?_⟩⟩
  unfold fRng1 at h2
  split at h2
  · obtain ⟨h3, h4⟩ := when_ok h2
    match v, rd with
    | [_], .cons (.int j) .nil => exact ⟨j, rfl, (okR_ok h3).1, (okR_ok h3).2, ok_post r1 h4 src_rng⟩
  · exact h2.elim
theorem tf_rng2 (hg : Gl X "range") (hm : X.mg "range" = none) (ha : PA X [a, b] (TAs g W ms)) (hs : starEach [a, b] X.env = [(false, eval a X.env), (false, eval b X.env)] := by rfl) (hs2 : starEach [b] X.env = [(false, eval b X.env)] := by rfl) : PI X tg (.Call (.Name "range" p) [a, b] [] pos) (TSrc g W (mSrcA fRng2 ms)) := by
  refine ⟨fun pins s σ H R I ⟨F, α, δ, π, r, h⟩ => (pi_range2 hg hm ha hs hs2).run pins s σ H R I ⟨F, α, δ, π, r, (Post.bind (R := RA g F) h).imp fun v H1 ⟨α1, π1, d, le, r1, rd, h2⟩ => ?_⟩⟩
  unfold fRng2 at h2
  split at h2
  · obtain ⟨h3, h4⟩ := when_ok h2
    rw [Bool.and_eq_true] at h3
    match v, rd with
    | [_, _], .cons (.int i) (.cons (.int j) .nil) => exact ⟨i, j, rfl, ⟨(okR_ok h3.1).1, (okR_ok h3.1).2, (okR_ok h3.2).1, (okR_ok h3.2).2⟩, ok_post r1 h4 src_rng⟩
  · exact h2.elim
end
end MI

set_option Elab.async false
set_option linter.all false
set_option maxRecDepth 100000
/-! for, while, comprehensions. -/
namespace MI
open PySem L2

abbrev SetD := D → Env → Option Env
def setN (i : Nat) : SetD := fun d δ => some (δ.set i (some d))
def setT (is : List Nat) : SetD := fun d δ => match d with
  | .tup ds => setAll δ is ds
  | _ => none
structure PGM (X : Cx) (g : G) (tg : Expr) (set : SetD) : Prop where
  all : ∃ t : TG, PG X tg t ∧ ∀ (F : Addr → Prop) (α : List Addr) (δ δ' : Env) (π : PH) (σ : L2.St) (H : Hp) (d : D) (v : V) (Q : L2.St → Hp → Prop), Rel g F α δ π σ H → RD g α F H d v → set d δ = some δ' → (∀ σ', Rel g F α δ' π σ' H → Q σ' H) → t v σ H Q

/-- the turns that are left: k; the place: i -/
def forLoop (s : Src) (set : SetD) (body : MS) : Nat → Nat → Env → PH → SRes
  | 0, _, δ, π => if s.fin π = true then .nx δ π else .stuck
  | k + 1, i, δ, π => match s.get π i with
    | none => .stuck
    | some d => match set d δ with
      | none => .stuck
      | some δ1 => match body δ1 π with
        | .nx δ2 π2 => forLoop s set body k (i + 1) δ2 π2
        | .ct δ2 π2 => forLoop s set body k (i + 1) δ2 π2
        | .brk δ2 π2 => .nx δ2 π2
        | r => r
def sFor (src : M Src) (set : SetD) (body : MS) : MS := fun δ π => (src δ π).sb δ fun s π1 => forLoop s set body s.len 0 δ π1
/-- at most n turns -/
def whLoop (c : M Bool) (body : MS) : Nat → Env → PH → SRes
  | 0, _, _ => .stuck
  | n + 1, δ, π => (c δ π).sb δ fun k π1 => if k = true then (match body δ π1 with
    | .nx δ2 π2 => whLoop c body n δ2 π2
    | .ct δ2 π2 => whLoop c body n δ2 π2
    | .brk δ2 π2 => .nx δ2 π2
    | r => r) else .nx δ π1
/-- the number of turns may hang on what stands ahead -/
def sWh (n : Env → PH → Nat) (c : M Bool) (body : MS) : MS := fun δ π => whLoop c body (n δ π) δ π

section
variable {X : Cx} {g : G} {W : WX} {tg iter e : Expr} {ss : List Stmt} {src : M Src} {set : SetD} {body : MS} {pos : Pos} {x : Str}
theorem pgm_name (i : Nat) (hN : X.N.Nodup) (hi : X.N[i]? = some x := by rfl) (hx : Loc X.env.scope x := by first | exact Or.inl rfl | exact Or.inr rfl) (hf : X.fn x = true ∨ X.env.scope.names.lookup x = some .local := by first | exact .inl rfl | exact .inr rfl | assumption) : PGM X g (.Name x pos) (setN i) :=
  ⟨_, pg_name hN hi hx hf, fun F α δ δ' π σ H d v Q r rd h q => by
    cases h
    exact q _ (r.set rd)⟩
theorem setAll_len : ∀ {is : List Nat} {ds : List MI.D} {δ δ' : MI.Env}, setAll δ is ds = some δ' → ds.length = is.length
  | [], [], _, _, _ => rfl
  | [], _ :: _, _, _, h => by cases h
  | _ :: _, [], _, _, h => by cases h
  | i :: is, d :: ds, δ, δ', h => by simp [setAll_len (is := is) (ds := ds) h]
theorem pgm_tup {es : List Expr} {is : List Nat} {n k : Nat} {p2 : Pos} (hK : g.K = X.K) (hc : X.calm = true) (h : PNs X es is) (hn : (assignEach es X.env).length = n := by rfl) (hl : is.length = n := by rfl) (hst : (assignEach es X.env).findIdx? (·.1) = none := by rfl) : PGM X g (.Tuple es k p2) (setT is) := by
  obtain ⟨t, h2, h3⟩ := h
  refine ⟨_, pg_tup hc h2 hn hst, fun F α δ δ' π σ H d v Q r rd h q => ?_⟩
  unfold setT at h
  split at h
  · cases rd with
    | tup ht hs => exact ⟨_, _, rfl, hK ▸ ht, by rw [← hs.length, setAll_len h, hl], h3 g F (fun _ _ _ _ => False) α δ δ' π σ H _ _ Q r hs h q⟩
  · cases h
theorem ts_for (hp : PassesOwn (model X.prog X.w) X.A X.env X.xe) (hc : X.calm = true) (hi : PI X tg iter (TSrc g W src)) (hg : PGM X g tg set) (hb : PSs X ss (TM g W body)) (hs : ∀ x, foldedSetIterable iter X.env x = pure x := by intro _; rfl) : PS X (.For tg iter ss [] pos) (TM g W (sFor src set body)) := by
  obtain ⟨t, hg1, hg2⟩ := hg
  refine wkS (ps_for hp hc hi hg1 hb hs) fun Dn σ H ⟨F, α, δ, π, r, h⟩ => ⟨F, α, δ, π, r, (sb_post (R := RSrc g F) r h).imp fun J H1 ⟨α1, π1, s, le, r1, rs, h2⟩ => ?_⟩
  refine ⟨fun i m σ' H' => ∃ α' δ' π', i + m = s.len ∧ Le α1 H1 α' H' ∧ Rel g F α' δ' π' σ' H' ∧ PostS g F W α' H' Dn (forLoop s set body m i δ' π'), ⟨s.len, α1, δ, π1, by simp, .refl, r1, h2⟩, ?_⟩
  rintro i m σ' H' ⟨α', δ', π', hm, le', r', h3⟩
  obtain ⟨hgo, hstop⟩ := rs F α' δ' π' σ' H' (Le.via le') r'
  cases m with
  | zero =>
    unfold forLoop at h3
    split at h3
    · rename_i hf
      have e : i = s.len := by omega
      exact .inl ⟨e ▸ hstop hf, h3 α' σ' H' .refl r'⟩
    · exact h3.elim
  | succ m =>
    unfold forLoop at h3
    split at h3
    · exact h3.elim
    · rename_i d hd
      obtain ⟨go, yl⟩ := hgo i d (by omega) hd
      split at h3
      · exact h3.elim
      · rename_i δ1 hδ
        refine .inr ⟨go, fun σ2 H2 => ∃ α2 δ2 π2, i + 1 + m = s.len ∧ Le α1 H1 α2 H2 ∧ Rel g F α2 δ2 π2 σ2 H2 ∧ PostS g F W α2 H2 Dn (forLoop s set body m (i + 1) δ2 π2), fun σ2 H2 q => ⟨m, by omega, q⟩, fun x H'' y => ?_⟩
        obtain ⟨ex2, rd⟩ := yl x H'' y
        have le2 : Le α' H' α' H'' := ex2.le
        have r2 := r'.ex ex2
        refine hg2 F α' δ' δ1 π' σ' H'' d x _ r2 rd hδ fun σ2 r3 => ⟨F, α', δ1, π', r3, ?_⟩
        have h4 := PostS.le le2 h3
        revert h4
        cases body δ1 π' with
        | nx δ2 π2 => exact fun h4 a s b l r => ⟨a, δ2, π2, by omega, (le'.trans le2).trans l, r, PostS.le l h4⟩
        | ct δ2 π2 => exact fun h4 a s b l r => ⟨a, δ2, π2, by omega, (le'.trans le2).trans l, r, PostS.le l h4⟩
        | brk δ2 π2 => exact fun h4 => h4
        | ret d π2 => exact fun h4 => h4
        | exc x δ2 π2 => exact fun h4 => h4
        | stuck => exact fun h4 => h4
theorem ts_wh {c : Expr} {tc : M Bool} (n : Env → PH → Nat) (hp : PassesOwn (model X.prog X.w) X.A X.env X.xe) (hc : PT X c (TB g W tc)) (hb : PSs X ss (TM g W body)) : PS X (.While c ss [] pos) (TM g W (sWh n tc body)) := by
  refine wkS (ps_while hp hc hb) fun Dn σ H ⟨F, α, δ, π, r, h⟩ => ?_
  refine ⟨fun m σ' H' => ∃ α' δ' π', Le α H α' H' ∧ Rel g F α' δ' π' σ' H' ∧ PostS g F W α' H' Dn (whLoop tc body m δ' π'), ⟨n δ π, α, δ, π, .refl, r, h⟩, ?_⟩
  rintro m σ' H' ⟨α', δ', π', le', r', h3⟩
  cases m with
  | zero => exact h3.elim
  | succ m =>
    refine ⟨F, α', δ', π', r', (sb_post (R := RB) r' h3).imp fun k H1 ⟨α1, π1, b, le1, r1, rb, h4⟩ => ?_⟩
    have e := rb
    subst e
    cases b with
    | false => exact h4 α1 σ' H1 .refl r1
    | true =>
      refine ⟨fun σ2 H2 => ∃ α2 δ2 π2, Le α H α2 H2 ∧ Rel g F α2 δ2 π2 σ2 H2 ∧ PostS g F W α2 H2 Dn (whLoop tc body m δ2 π2), fun σ2 H2 q => ⟨m, Nat.lt_succ_self m, q⟩, F, α1, δ', π1, r1, ?_⟩
      simp only [if_true] at h4
      revert h4
      cases body δ' π1 with
      | nx δ2 π2 => exact fun h4 a s b l r => ⟨a, δ2, π2, (le'.trans le1).trans l, r, PostS.le l h4⟩
      | ct δ2 π2 => exact fun h4 a s b l r => ⟨a, δ2, π2, (le'.trans le1).trans l, r, PostS.le l h4⟩
      | brk δ2 π2 => exact fun h4 => h4
      | ret d π2 => exact fun h4 => h4
      | exc x δ2 π2 => exact fun h4 => h4
      | stuck => exact fun h4 => h4
end
end MI

set_option Elab.async false
set_option linter.all false
set_option maxRecDepth 100000
/-! List comprehensions. -/
namespace MI
open PySem L2

/-- slots put out -/
def wipeE (δ : Env) : List Nat → Env
  | [] => δ
  | i :: is => (wipeE δ is).set i none
theorem rel_wipe {g : G} {F : Addr → Prop} {α : List Addr} {δ : Env} {π : PH} {σ : L2.St} {H : Hp} (r : Rel g F α δ π σ H) : ∀ is : List Nat, Rel g F α (wipeE δ is) π (wipe σ is) H
  | [] => r
  | i :: is => (rel_wipe r is).unset
/-- a target that fills the slots is alone -/
structure PGC (X : Cx) (g : G) (tg : Expr) (set : SetD) (is : List Nat) (t : TG) : Prop where
  pg : PG X tg t
  do_ : ∀ (F : Addr → Prop) (α : List Addr) (δ δ' : Env) (π : PH) (σ : L2.St) (H : Hp) (d : D) (v : V) (Q : L2.St → Hp → Prop), Rel g F α δ π σ H → RD g α F H d v → set d δ = some δ' → (∀ σ', Rel g F α δ' π σ' H → (∀ j, j ∉ is → σ'[j]? = σ[j]?) → σ'.length = σ.length → Q σ' H) → t v σ H Q
/-- items so far: acc -/
def lcLoop (s : Src) (set : SetD) (tt : M Bool) (te : M D) (δ : Env) : Nat → Nat → List D → PH → Res (List D)
  | 0, _, acc, π => if s.fin π = true then .ok acc π else .stuck
  | k + 1, i, acc, π => match s.get π i with
    | none => .stuck
    | some d => match set d δ with
      | none => .stuck
      | some δ1 => match tt δ1 π with
        | .ok b π2 => if b = true then (match te δ1 π2 with
          | .ok e π3 => if acc.length < sizeLine then lcLoop s set tt te δ k (i + 1) (acc ++ [e]) π3 else .stuck
          | _ => .stuck) else lcLoop s set tt te δ k (i + 1) acc π2
        | _ => .stuck
def mLc (reg : Bool) (is : List Nat) (src : M Src) (set : SetD) (tt : M Bool) (te : M D) : M D := fun δ π => (src δ π).bind fun s π1 => (lcLoop s set tt te (wipeE δ is) s.len 0 [] π1).bind fun ds π2 => alloc reg ds π2
def mYes : M Bool := fun _ π => .ok true π
abbrev W0 : WX := fun _ _ _ _ => False

section
variable {g : G} {α α' : List Addr} {F : Addr → Prop} {H H' : Hp}
theorem Le.updNew (le : Le α H α' H') {p : Addr} {o : HO} (hp : H p = none) : Le α H α' (upd H' p o) :=
  ⟨le.ext, fun a u h hα => by rw [upd_ne (ne_of_none h hp)]; exact le.keep a u h hα, fun a u h => by rw [upd_ne (ne_of_none h hp)]; exact le.tup a u h,
    fun a x u h => by rw [upd_ne (ne_of_none h hp)]; exact le.frz a x u h, fun a h => by
      by_cases e : a = p
      · subst e; exact hp
      · rw [upd_ne e] at h; exact le.dom a h⟩
/-- the list that is being made: none knows it -/
abbrev hide (F : Addr → Prop) (p : Addr) : Addr → Prop := fun a => F a ∨ a = p
theorem via_hide {p : Addr} (hp : H p = none) {o : HO} : Via g α F H α (hide F p) (upd H p o) :=
  ⟨fun _ _ h => h, fun a u h h1 h2 => ⟨by rw [upd_ne (ne_of_none h hp)]; exact h, h1, fun z => z.elim h2 (ne_of_none h hp)⟩, fun a vs h => by
    rcases h with (h | ⟨x, h⟩) | h
    · exact .inl (.inl (by rw [upd_ne (ne_of_none h hp)]; exact h))
    · exact .inl (.inr ⟨x, by rw [upd_ne (ne_of_none h hp)]; exact h⟩)
    · exact .inr h, fun a x u h => by rw [upd_ne (ne_of_none h hp)]; exact h⟩
theorem via_more {p : Addr} {xs ys : List V} (hp : H p = some (.lst xs)) : Via g α (hide F p) H α (hide F p) (upd H p (.lst ys)) := by
  have ne : ∀ a u, H a = some u → u ≠ .lst xs → a ≠ p := fun a u h hn e => by subst e; rw [hp] at h; cases h; exact hn rfl
  exact ⟨fun _ _ h => h, fun a u h h1 h2 => ⟨by rw [upd_ne (fun e => h2 (.inr e))]; exact h, h1, h2⟩, fun a vs h => by
    rcases h with (h | ⟨x, h⟩) | h
    · exact .inl (.inl (by rw [upd_ne (ne a _ h (by simp))]; exact h))
    · exact .inl (.inr ⟨x, by rw [upd_ne (ne a _ h (by simp))]; exact h⟩)
    · exact .inr h, fun a x u h => by rw [upd_ne (ne a _ h (by simp))]; exact h⟩
theorem via_show {p : Addr} : Via g α (hide F p) H α F H :=
  ⟨fun _ _ h => h, fun a u h h1 h2 => ⟨h, h1, fun z => h2 (.inl z)⟩, fun a vs h => h, fun a x u h => h⟩
theorem Le.viaH {p : Addr} (le : Le α H α' H') (hp : H p = none) : Via g α F H α' (hide F p) H' :=
  ⟨fun i a h => le.at h, fun a o h h1 h2 => ⟨le.keep a o h h1, le.notin h h1, fun z => z.elim h2 (ne_of_none h hp)⟩, fun a vs h => le.sqT h, fun a o u h => le.frz a o u h⟩
theorem relP_show {p : Addr} {π : PH} (r : RelP g (hide F p) α π H) : RelP g F α π H := ⟨r.nd, r.len, fun i a o ha ho => by
  obtain ⟨u, h1, h2⟩ := r.obj i a o ha ho
  exact ⟨u, h1, h2.via via_show⟩, fun a h => r.dom a (.inl h), fun a h z => r.sep a h (.inl z), r.tabs⟩
end
theorem wipe_get (σ : L2.St) (is : List Nat) (j : Nat) : (wipe σ is)[j]? = if j ∈ is ∧ j < σ.length then some none else σ[j]? := by
  induction is with
  | nil => simp [wipe]
  | cons i is ih =>
    show ((wipe σ is).set i none)[j]? = _
    rw [List.getElem?_set, wipe_length, ih]
    by_cases hij : i = j
    · subst hij
      by_cases hl : i < σ.length
      · simp [hl]
      · simp [hl]
    · rw [if_neg hij]
      have hji : ¬ j = i := fun e => hij e.symm
      simp [hji]
theorem wipe_eq {σ σ' : L2.St} (hl : σ'.length = σ.length) : ∀ {is : List Nat}, (∀ j, j ∉ is → σ'[j]? = σ[j]?) → wipe σ' is = wipe σ is := by
  intro is h
  apply List.ext_getElem?
  intro j
  rw [wipe_get, wipe_get, hl]
  by_cases hj : j ∈ is
  · by_cases h2 : j < σ.length
    · simp [hj, h2]
    · have e1 : σ[j]? = none := List.getElem?_eq_none (by omega)
      have e2 : σ'[j]? = none := List.getElem?_eq_none (by omega)
      simp [h2, e1, e2]
  · simp [hj, h j hj]
theorem wipe_wipe {σ σ' : L2.St} {is : List Nat} (hl : σ'.length = (wipe σ is).length) (h : ∀ j, j ∉ is → σ'[j]? = (wipe σ is)[j]?) : wipe σ' is = wipe σ is := by
  rw [wipe_eq hl h]
  exact wipe_eq (wipe_length σ is) fun j hj => by rw [wipe_get]; simp [hj]
section
variable {X : Cx} {g : G} {W : WX} {tg iter elt : Expr} {ifs : List Expr} {src : M Src} {set : SetD} {mt : M Bool} {me : M D} {t : TG} {is : List Nat} {reg : Bool}
theorem lcR {σ : L2.St} {H : Hp} {Q : VK} (hdo : ∀ (F : Addr → Prop) (α : List Addr) (δ δ' : Env) (π : PH) (σ : L2.St) (H : Hp) (d : D) (v : V) (Q : L2.St → Hp → Prop), Rel g F α δ π σ H → RD g α F H d v → set d δ = some δ' → (∀ σ', Rel g F α δ' π σ' H → (∀ j, j ∉ is → σ'[j]? = σ[j]?) → σ'.length = σ.length → Q σ' H) → t v σ H Q)
    (h : T g W (mLc reg is src set mt me) σ H Q) : tLc (TSrc g W src) t (TB g W0 mt) (T g W0 me) is σ H Q := by
  obtain ⟨F, α, δ, π, r, h⟩ := h
  refine ⟨F, α, δ, π, r, (Post.bind (R := RSrc g F) h).imp fun J H1 ⟨α1, π1, s, le, r1, rs, h2⟩ => ?_⟩
  intro p hp
  obtain ⟨rp, _, np, nF⟩ := r1.p.fresh (o := .lst []) hp
  -- the list is hidden while it is made
  have r1w := rel_wipe r1 is
  have r2 : Rel g (hide F p) α1 (wipeE δ is) π1 (wipe σ is) (upd H1 p (.lst [])) := r1w.via (via_hide hp) (fun a ha o ho => by rw [upd_ne (ne_of_none ho hp)]; exact ho)
    (fun a ha => by
      rcases ha with ha | ha
      · exact rp.dom a ha
      · subst ha; rw [upd_same]; simp) (fun a ha z => z.elim (rp.sep a ha) fun e => np (e ▸ ha))
  refine ⟨fun i m H' => ∃ α' π' ds acc, i + m = s.len ∧ Le α1 H1 α' H' ∧ Rel g (hide F p) α' (wipeE δ is) π' (wipe σ is) H' ∧ H' p = some (.lst acc) ∧ RDs g α' (hide F p) H' ds acc ∧
    Post g F (RV g F) W α1 δ σ H1 Q ((lcLoop s set mt me (wipeE δ is) m i ds π').bind fun ds π2 => alloc reg ds π2), ⟨s.len, α1, π1, [], [], by simp, Le.updNew .refl hp, r2, upd_same, .nil, h2⟩, ?_⟩
  rintro i m H' ⟨α', π', ds, acc, hm, le', r', hacc, racc, h3⟩
  obtain ⟨hgo, hstop⟩ := rs (hide F p) α' (wipeE δ is) π' (wipe σ is) H' (Le.viaH le' hp) r'
  cases m with
  | zero =>
    have h3' : Post g F (RV g F) W α1 δ σ H1 Q ((if s.fin π' = true then Res.ok ds π' else .stuck).bind fun ds π2 => alloc reg ds π2) := h3
    by_cases hf : s.fin π' = true
    · rw [if_pos hf] at h3'
      have e : i = s.len := by omega
      have np' : p ∉ α' := fun hm => (r'.p.sep p hm) (.inr rfl)
      refine .inl ⟨e ▸ hstop hf, ?_⟩
      have h4 : Post g F (RV g F) W α1 δ σ H1 Q (alloc reg ds π') := h3'
      unfold alloc at h4
      cases reg with
      | false =>
        simp only [Bool.false_eq_true, if_false] at h4
        exact h4 α' H' (.ref p) le' (r1.with le' (relP_show r'.p)) (.lst hacc np' nF (racc.via via_show))
      | true =>
        simp only [if_true] at h4
        have vi : Via g α' (hide F p) H' (α' ++ [p]) F H' := ⟨fun i a h => by rw [List.getElem?_append_left (List.getElem?_eq_some_iff.mp h).1]; exact h,
          fun a o h h1 h2 => ⟨h, fun z => (List.mem_append.mp z).elim h1 fun z => h2 (.inr (by simpa using z)), fun z => h2 (.inl z)⟩, fun a vs h => h, fun a o u h => h⟩
        have le5 : Le α1 H1 (α' ++ [p]) H' := by
          obtain ⟨e, he, hn⟩ := le'.ext
          refine ⟨⟨e ++ [p], by rw [he, List.append_assoc], fun a ha => (List.mem_append.mp ha).elim (hn a) fun z => by simp at z; subst z; exact hp⟩, le'.keep, le'.tup, le'.frz, le'.dom⟩
        refine h4 (α' ++ [p]) H' (.ref p) le5 (r1.with le5 ⟨?_, by simp [r'.p.len], fun i a o ha ho => ?_, fun a h => r'.p.dom a (.inl h), fun a ha z => ?_, fun t q h => ?_⟩) (.ref (by rw [← r'.p.len]; simp))
        · rw [List.nodup_append]
          exact ⟨r'.p.nd, by simp, fun a ha b hb => by simp at hb; rintro rfl; subst hb; exact np' ha⟩
        · by_cases hi : i < α'.length
          · rw [List.getElem?_append_left hi] at ha
            rw [List.getElem?_append_left (by rw [← r'.p.len]; exact hi)] at ho
            obtain ⟨u, h1, h2⟩ := r'.p.obj i a o ha ho
            exact ⟨u, h1, h2.via vi⟩
          · rw [List.getElem?_append_right (by omega)] at ha
            rw [List.getElem?_append_right (by rw [← r'.p.len]; omega), ← r'.p.len] at ho
            have e0 : i - α'.length = 0 := by
              have := (List.getElem?_eq_some_iff.mp ha).1
              simp at this; omega
            rw [e0] at ha ho
            simp at ha ho
            subst ha; subst ho
            exact ⟨_, hacc, .lst (racc.via vi)⟩
        · rcases List.mem_append.mp ha with h | h
          · exact r'.p.sep a h (.inl z)
          · simp at h; subst h; exact nF z
        · by_cases hi : t < π'.length
          · rw [List.getElem?_append_left hi] at h
            rw [List.getElem?_append_left (by rw [r'.p.len]; exact hi)]
            exact r'.p.tabs t q h
          · rw [List.getElem?_append_right (by omega)] at h
            have e0 : t - π'.length = 0 := by
              have := (List.getElem?_eq_some_iff.mp h).1
              simp at this; omega
            rw [e0] at h
            simp at h
    · rw [if_neg hf] at h3'
      exact h3'.elim
  | succ m =>
    have h3' : Post g F (RV g F) W α1 δ σ H1 Q ((match s.get π' i with
      | none => Res.stuck
      | some d => match set d (wipeE δ is) with
        | none => .stuck
        | some δ1 => match mt δ1 π' with
          | .ok b π2 => if b = true then (match me δ1 π2 with
            | .ok e π3 => if ds.length < sizeLine then lcLoop s set mt me (wipeE δ is) m (i + 1) (ds ++ [e]) π3 else .stuck
            | _ => .stuck) else lcLoop s set mt me (wipeE δ is) m (i + 1) ds π2
          | _ => .stuck).bind fun ds π2 => alloc reg ds π2) := h3
    cases hd : s.get π' i with
    | none => rw [hd] at h3'; exact h3'.elim
    | some d =>
      rw [hd] at h3'
      dsimp only at h3'
      obtain ⟨go, yl⟩ := hgo i d (by omega) hd
      cases hδ : set d (wipeE δ is) with
      | none => rw [hδ] at h3'; exact h3'.elim
      | some δ1 =>
        rw [hδ] at h3'
        dsimp only at h3'
        refine .inr ⟨go, fun H2 => ∃ α' π' ds acc, i + 1 + m = s.len ∧ Le α1 H1 α' H2 ∧ Rel g (hide F p) α' (wipeE δ is) π' (wipe σ is) H2 ∧ H2 p = some (.lst acc) ∧ RDs g α' (hide F p) H2 ds acc ∧
          Post g F (RV g F) W α1 δ σ H1 Q ((lcLoop s set mt me (wipeE δ is) m (i + 1) ds π').bind fun ds π2 => alloc reg ds π2), fun H2 q => ⟨m, by omega, q⟩, fun x H'' y => ?_⟩
        obtain ⟨ex2, rd⟩ := yl x H'' y
        have r'' := r'.ex ex2
        have le2 : Le α' H' α' H'' := ex2.le
        refine hdo (hide F p) α' (wipeE δ is) δ1 π' (wipe σ is) H'' d x _ r'' rd hδ fun σ2 r4 hout hl => ⟨wipe_wipe hl hout, ?_⟩
        have hp2 : H'' p = some (.lst acc) := ex2 _ _ hacc
        -- the test
        refine ⟨hide F p, α', δ1, π', r4, ?_⟩
        cases ht : mt δ1 π' with
        | ok b π2 =>
          rw [ht] at h3'
          dsimp only at h3'
          intro α3 H3 b' le3 r5 eb
          have eb' : b = b' := eb
          subst eb'
          have back : ∀ {α3 : List Addr} {π3 : PH} {σ3 : L2.St} {H3 : Hp}, Rel g (hide F p) α3 δ1 π3 σ3 H3 → Le α' H'' α3 H3 → Rel g (hide F p) α3 (wipeE δ is) π3 (wipe σ is) H3 := fun r le => ⟨r.p, r''.len, fun i d h => by
            obtain ⟨v, h1, h2⟩ := r''.slot i d h
            exact ⟨v, h1, h2.mono le⟩⟩
          have np3 : p ∉ α' := fun z => r''.p.sep p z (.inr rfl)
          have hp3 : H3 p = some (.lst acc) := le3.keep _ _ hp2 np3
          cases b with
          | false =>
            simp only [Bool.false_eq_true, if_false] at h3' ⊢
            exact ⟨α3, π2, ds, acc, by omega, (le'.trans le2).trans le3, back r5 le3, hp3, (racc.mono le2).mono le3, h3'⟩
          | true =>
            simp only [if_true] at h3' ⊢
            refine ⟨hide F p, α3, δ1, π2, r5, ?_⟩
            cases hm' : me δ1 π2 with
            | ok e π3 =>
              rw [hm'] at h3'
              dsimp only at h3'
              intro α4 H4 v le4 r6 rv
              have np4 : p ∉ α3 := fun z => r5.p.sep p z (.inr rfl)
              have hp4 : H4 p = some (.lst acc) := le4.keep _ _ hp3 np4
              have racc4 := ((racc.mono le2).mono le3).mono le4
              by_cases hz : ds.length < sizeLine
              · rw [if_pos hz] at h3'
                refine ⟨acc, hp4, by rw [← racc.length]; exact hz, α4, π3, ds ++ [e], acc ++ [v], by omega, ?_, ?_, upd_same, ?_, h3'⟩
                · exact Le.updNew (((le'.trans le2).trans le3).trans le4) hp
                · have np5 : p ∉ α4 := fun z => r6.p.sep p z (.inr rfl)
                  refine (back r6 (le3.trans le4)).via (via_more hp4) (fun a ha o ho => by rw [upd_ne (fun z => np5 (by rw [← z]; exact ha))]; exact ho) (fun a ha => ?_) r6.p.sep
                  by_cases z : a = p
                  · subst z; rw [upd_same]; simp
                  · rw [upd_ne z]; exact r6.p.dom a ha
                · exact (racc4.append (.cons rv .nil)).via (via_more hp4)
              · rw [if_neg hz] at h3'
                exact h3'.elim
            | exc x π3 => rw [hm'] at h3'; exact h3'.elim
            | stuck => rw [hm'] at h3'; exact h3'.elim
        | exc x π2 => rw [ht] at h3'; exact h3'.elim
        | stuck => rw [ht] at h3'; exact h3'.elim
/-- a name as a comprehension's target -/
theorem pgc_name {x : Str} {pos : Pos} (i : Nat) (hN : X.N.Nodup) (hi : X.N[i]? = some x := by rfl) (hx : Loc X.env.scope x := by first | exact Or.inl rfl | exact Or.inr rfl) (hf : X.fn x = true ∨ X.env.scope.names.lookup x = some .local := by first | exact .inl rfl | exact .inr rfl | assumption) : PGC X g (.Name x pos) (setN i) [i] (gName i) :=
  ⟨pg_name hN hi hx hf, fun F α δ δ' π σ H d v Q r rd h q => by
    cases h
    exact q _ (r.set rd) (fun j hj => by rw [List.getElem?_set_ne (fun e => hj (by simp [e]))]) (by simp)⟩
/-- names as a comprehension's targets -/
structure PNC (X : Cx) (g : G) (es : List Expr) (is : List Nat) (t : TGs) : Prop where
  pg : PGs X es t
  do_ : ∀ (F : Addr → Prop) (α : List Addr) (δ δ' : Env) (π : PH) (σ : L2.St) (H : Hp) (ds : List D) (vs : List V) (Q : L2.St → Hp → Prop), Rel g F α δ π σ H → RDs g α F H ds vs → setAll δ is ds = some δ' → (∀ σ', Rel g F α δ' π σ' H → (∀ j, j ∉ is → σ'[j]? = σ[j]?) → σ'.length = σ.length → Q σ' H) → t vs σ H Q
theorem pnc_nil : PNC X g [] [] gNil := ⟨pgs_nil, fun F α δ δ' π σ H ds vs Q r rd h q => by
  cases rd with
  | nil => cases h; exact ⟨rfl, q σ r (fun _ _ => rfl) rfl⟩
  | cons _ _ => cases h⟩
theorem pnc_cons {es : List Expr} {x : Str} {pos : Pos} {u : TGs} (i : Nat) (hN : X.N.Nodup) (h : PNC X g es is u) (hi : X.N[i]? = some x := by rfl) (hx : Loc X.env.scope x := by first | exact Or.inl rfl | exact Or.inr rfl) (hf : X.fn x = true ∨ X.env.scope.names.lookup x = some .local := by first | exact .inl rfl | exact .inr rfl | assumption)
    (hs : (assignEach (.Name x pos :: es) X.env).map (·.2) = assign (.Name x pos) X.env :: (assignEach es X.env).map (·.2) := by rfl) : PNC X g (.Name x pos :: es) (i :: is) (gCons (gName i) u) := by
  refine ⟨pgs_cons (pg_name (i := i) hN hi hx hf) h.pg hs, fun F α δ δ' π σ H ds vs Q r rd hA q => ?_⟩
  cases rd with
  | nil => cases hA
  | cons rd rs =>
    refine ⟨_, _, rfl, h.do_ F α _ δ' π _ H _ _ Q (r.set rd) rs hA fun σ' r' ho hl => q σ' r' (fun j hj => ?_) (by rw [hl]; simp)⟩
    rw [ho j (fun z => hj (List.mem_cons_of_mem _ z)), List.getElem?_set_ne (fun e => hj (by simp [e]))]
theorem pgc_tup {es : List Expr} {n k : Nat} {p2 : Pos} {u : TGs} (hK : g.K = X.K) (hc : X.calm = true) (h : PNC X g es is u) (hn : (assignEach es X.env).length = n := by rfl) (hl : is.length = n := by rfl) (hst : (assignEach es X.env).findIdx? (·.1) = none := by rfl) : PGC X g (.Tuple es k p2) (setT is) is (gTup g.K n u) := by
  refine ⟨hK ▸ pg_tup hc h.pg hn hst, fun F α δ δ' π σ H d v Q r rd hA q => ?_⟩
  unfold setT at hA
  split at hA
  · cases rd with
    | tup ht hs => exact ⟨_, _, rfl, ht, by rw [← hs.length, setAll_len hA, hl], h.do_ F α δ δ' π σ H _ _ Q r hs hA q⟩
  · cases hA
theorem te_lc {scope : Scope} {own : List (Str × Nat)} {pos : Pos} (reg : Bool) (hc : X.calm = true) (hN : X.N.Nodup) (hi : PI X tg iter (TSrc g W src)) (ok : BlkOk X.N X.env.scope scope own) (ho : own.map (·.2) = is)
    (hg : ∀ (s : Shared) (H : Hp) (C : Addr) (cl : List (Str × Addr)) (fp : List Addr), PGC (X.blk s H scope (compEnvC scope cl C X.env) fp) g tg set is t)
    (ht : ∀ (s : Shared) (H : Hp) (C : Addr) (cl : List (Str × Addr)) (fp : List Addr), PTs (X.blk s H scope (compEnvC scope cl C X.env) fp) ifs (TB g W0 mt))
    (he : ∀ (s : Shared) (H : Hp) (C : Addr) (cl : List (Str × Addr)) (fp : List Addr), PE (X.blk s H scope (compEnvC scope cl C X.env) fp) elt (T g W0 me)) (hs : ∀ x, foldedSetIterable iter X.env x = pure x := by intro _; rfl) :
    PE X (.ListComp elt [⟨tg, iter, ifs, 0⟩] scope pos) (T g W (mLc reg is src set mt me)) := by
  have hdo := (hg ⟨{}, #[], {}, 0, {}⟩ (fun _ => none) 0 [] []).do_
  refine wkE (pe_lc hc hN hi ok (fun s H C cl fp => (hg s H C cl fp).pg) ht he hs) fun σ H Q h => ?_
  rw [ho]
  exact lcR hdo h
theorem tts_nil : PTs X [] (TB g W mYes) := ⟨fun pins s σ H Q I ⟨F, α, δ, π, r, h⟩ => pts_nil.run pins s σ H Q I (h α H true .refl r rfl)⟩
theorem tts_one {c : Expr} (h : PT X c (TB g W mt)) : PTs X [c] (TB g W mt) := pts_one h
end
end MI

set_option Elab.async false
set_option linter.all false
set_option maxRecDepth 100000
/-! Built-ins, methods of texts and lists, f-strings. -/
namespace MI
open PySem L2

section
variable {X : Cx} {g : G} {W : WX}
/-- what is never reached -/
theorem ts_never {st : Stmt} : PS X st (TM g W fun _ _ => .stuck) := ⟨fun pins s σ H D I ⟨F, α, δ, π, r, h⟩ => h.elim⟩
theorem tss_never {st : List Stmt} : PSs X st (TM g W fun _ _ => .stuck) := ⟨fun pins s σ H D I ⟨F, α, δ, π, r, h⟩ => h.elim⟩
theorem te_never {e : Expr} : PE X e (T g W fun _ _ => .stuck) := ⟨fun pins s σ H D I ⟨F, α, δ, π, r, h⟩ => h.elim⟩
/-- a built-in class as a value -/
theorem te_ty {x : Str} {n : String} {pos : Pos} (hg : Gl X x) (hm : X.mg x = none) (hv : bootBuiltins x = some (.type n)) (hn : x ≠ "__name__" := by decide) (hd : (x == ("__debug__" : Str)) = false := by decide) : PE X (.Name x pos) (T g W (mC (.ty n))) :=
  te_c (pe_bltn hg hm hv (show RelV (.ty n) _ from rfl) hn hd) fun _ _ _ => .ty n
end

/-! ### len, abs, int, str, tuple, list -/
def fLen : Fun_ := fun ds π => match ds with
  | [.str s] => when_ (fitsB s.length) (.ok (.int s.length) π)
  | [d] => opt (sqOf π d) fun xs => .ok (.int xs.length) π
  | _ => .stuck
def fAbs : Fun_ := fun ds π => match ds with
  | [.int i] => .ok (.int (if i < 0 then -i else i)) π
  | _ => .stuck
def fStrI : Fun_ := fun ds π => match ds with
  | [.int i] => when_ (decide (i.natAbs.log2 < 1920)) (.ok (.str (toString i)) π)
  | _ => .stuck
def fIntS : Fun_ := fun ds π => match ds with
  | [.str a] => when_ (decide (a.length ≤ 640)) (opt (PySem.intText? a) fun n => .ok (.int n) π)
  | _ => .stuck
def fTup : Fun_ := fun ds π => match ds with
  | [d] => opt (sqOf π d) fun xs => .ok (.tup xs) π
  | _ => .stuck
def fLst (reg : Bool) : Fun_ := fun ds π => match ds with
  | [d] => opt (sqOf π d) fun xs => alloc reg xs π
  | _ => .stuck
section
variable {g : G}
theorem rds1 {F : Addr → Prop} {α : List Addr} {H : Hp} {d : D} {vs : List V} (h : RDs g α F H [d] vs) : ∃ v, vs = [v] ∧ RD g α F H d v := by
  cases h with
  | cons h hs => cases hs; exact ⟨_, rfl, h⟩
theorem rds2 {F : Addr → Prop} {α : List Addr} {H : Hp} {d e : D} {vs : List V} (h : RDs g α F H [d, e] vs) : ∃ v w, vs = [v, w] ∧ RD g α F H d v ∧ RD g α F H e w := by
  cases h with
  | cons h hs =>
    obtain ⟨w, rfl, h2⟩ := rds1 hs
    exact ⟨_, w, rfl, h, h2⟩
theorem cm_len : ClM g (fun xs H Q => ∃ x n, xs = [x] ∧ LenV g.K x H n ∧ Q (.int n) H) fLen := by
  intro F W α δ π σ H Q ds vs r rd h
  unfold fLen at h
  split at h
  · obtain ⟨v, rfl, rv⟩ := rds1 rd
    cases rv
    obtain ⟨h1, h2⟩ := when_ok h
    exact ⟨_, _, rfl, ⟨fits_ok h1, rfl⟩, ok_post r h2 (.int _)⟩
  · obtain ⟨v, rfl, rv⟩ := rds1 rd
    obtain ⟨xs, hx, h2⟩ := opt_ok h
    obtain ⟨a, ws, rfl, h3, h4⟩ := sqOf_ok r.p rv hx
    refine ⟨_, ws.length, rfl, ?_, ?_⟩
    · rcases h3 with h3 | h3
      · exact .inl ⟨ws, h3, rfl⟩
      · exact .inr ⟨ws, h3, rfl⟩
    · rw [← h4.length]; exact ok_post r h2 (.int _)
  · exact h.elim
theorem cm_abs : ClM g (fun xs H Q => ∃ i, xs = [.int i] ∧ Q (.int (if i < 0 then -i else i)) H) fAbs := by
  intro F W α δ π σ H Q ds vs r rd h
  unfold fAbs at h
  split at h
  · obtain ⟨v, rfl, rv⟩ := rds1 rd
    cases rv
    exact ⟨_, rfl, ok_post r h (.int _)⟩
  · exact h.elim
theorem cm_strI : ClM g (fun xs H Q => ∃ i, xs = [.int i] ∧ i.natAbs.log2 < 1920 ∧ Q (.str (toString i)) H) fStrI := by
  intro F W α δ π σ H Q ds vs r rd h
  unfold fStrI at h
  split at h
  · obtain ⟨v, rfl, rv⟩ := rds1 rd
    cases rv
    obtain ⟨h1, h2⟩ := when_ok h
    exact ⟨_, rfl, of_decide_eq_true h1, ok_post r h2 (.str _)⟩
  · exact h.elim
theorem cm_intS : ClM g (fun xs H Q => ∃ a n, xs = [.str a] ∧ PySem.intText? a = some n ∧ a.length ≤ 640 ∧ Q (.int n) H) fIntS := by
  intro F W α δ π σ H Q ds vs r rd h
  unfold fIntS at h
  split at h
  · obtain ⟨v, rfl, rv⟩ := rds1 rd
    cases rv
    obtain ⟨h1, h2⟩ := when_ok h
    obtain ⟨n, h3, h4⟩ := opt_ok h2
    exact ⟨_, n, rfl, h3, of_decide_eq_true h1, ok_post r h4 (.int _)⟩
  · exact h.elim
theorem cm_tup : ClM g (fun xs H Q => ∃ p ys, xs = [.ref p] ∧ ((SqL g.K H p ys ∧ ∀ l, H l = none → Q (.ref l) (upd H l (.tup ys))) ∨ (SqT g.K H p ys ∧ Q (.ref p) H))) fTup := by
  intro F W α δ π σ H Q ds vs r rd h
  unfold fTup at h
  split at h
  · obtain ⟨v, rfl, rv⟩ := rds1 rd
    obtain ⟨xs, hx, h2⟩ := opt_ok h
    obtain ⟨a, ws, rfl, h3, h4⟩ := sqOf_ok r.p rv hx
    refine ⟨a, ws, rfl, ?_⟩
    rcases h3 with h3 | h3
    · exact .inl ⟨h3, fun l hl => tup_post r h4 h2 l hl⟩
    · exact .inr ⟨h3, ok_post r h2 (.tup h3 h4)⟩
  · exact h.elim
theorem cm_lst (reg : Bool) : ClM g (fun xs H Q => ∃ p ys, xs = [.ref p] ∧ (SqL g.K H p ys ∨ SqT g.K H p ys) ∧ ∀ l, H l = none → Q (.ref l) (upd H l (.lst ys))) (fLst reg) := by
  intro F W α δ π σ H Q ds vs r rd h
  unfold fLst at h
  split at h
  · obtain ⟨v, rfl, rv⟩ := rds1 rd
    obtain ⟨xs, hx, h2⟩ := opt_ok h
    obtain ⟨a, ws, rfl, h3, h4⟩ := sqOf_ok r.p rv hx
    exact ⟨a, ws, rfl, h3, alloc_post r h4 h2⟩
  · exact h.elim
end

/-! ### all, any, sum -/
def blsOf : List D → Option (List Bool)
  | [] => some []
  | .bl b :: ds => (blsOf ds).map (b :: ·)
  | _ :: _ => none
def intsOf : List D → Option (List Int)
  | [] => some []
  | .int b :: ds => (intsOf ds).map (b :: ·)
  | _ :: _ => none
def strsOf : List D → Option (List Str)
  | [] => some []
  | .str b :: ds => (strsOf ds).map (b :: ·)
  | _ :: _ => none
def fAll : Fun_ := fun ds π => match ds with
  | [d] => opt (lsOf π d) fun xs => opt (blsOf xs) fun bs => .ok (.bl (bs.all id)) π
  | _ => .stuck
def fAny : Fun_ := fun ds π => match ds with
  | [d] => opt (lsOf π d) fun xs => opt (blsOf xs) fun bs => .ok (.bl (bs.any id)) π
  | _ => .stuck
def fSum : Fun_ := fun ds π => match ds with
  | [d] => opt (lsOf π d) fun xs => opt (intsOf xs) fun bs => .ok (.int bs.sum) π
  | _ => .stuck
section
variable {g : G} {F : Addr → Prop} {α : List Addr} {H : Hp}
theorem bls_ok : ∀ {ds : List D} {bs : List Bool} {vs : List V}, blsOf ds = some bs → RDs g α F H ds vs → vs = bs.map V.bl
  | [], _, _, h, .nil => by cases h; rfl
  | d :: ds, bs, _, h, .cons r t => by
    cases d <;> try (cases h)
    rename_i b
    have h' : (blsOf ds).map (b :: ·) = some bs := h
    rw [Option.map_eq_some_iff] at h'
    obtain ⟨cs, h1, h2⟩ := h'
    subst h2
    cases r
    rw [bls_ok h1 t]; rfl
theorem ints_ok : ∀ {ds : List D} {bs : List Int} {vs : List V}, intsOf ds = some bs → RDs g α F H ds vs → vs = bs.map V.int
  | [], _, _, h, .nil => by cases h; rfl
  | d :: ds, bs, _, h, .cons r t => by
    cases d <;> try (cases h)
    rename_i b
    have h' : (intsOf ds).map (b :: ·) = some bs := h
    rw [Option.map_eq_some_iff] at h'
    obtain ⟨cs, h1, h2⟩ := h'
    subst h2
    cases r
    rw [ints_ok h1 t]; rfl
theorem strs_ok : ∀ {ds : List D} {bs : List Str} {vs : List V}, strsOf ds = some bs → RDs g α F H ds vs → vs = bs.map V.str
  | [], _, _, h, .nil => by cases h; rfl
  | d :: ds, bs, _, h, .cons r t => by
    cases d <;> try (cases h)
    rename_i b
    have h' : (strsOf ds).map (b :: ·) = some bs := h
    rw [Option.map_eq_some_iff] at h'
    obtain ⟨cs, h1, h2⟩ := h'
    subst h2
    cases r
    rw [strs_ok h1 t]; rfl
theorem strs_rd : ∀ (ss : List Str), RDs g α F H (ss.map D.str) (ss.map V.str)
  | [] => .nil
  | s :: ss => .cons (.str s) (strs_rd ss)
theorem cm_all : ClM g (rAll g.K) fAll := by
  intro F W α δ π σ H Q ds vs r rd h
  unfold fAll at h
  split at h
  · obtain ⟨v, rfl, rv⟩ := rds1 rd
    obtain ⟨xs, hx, h2⟩ := opt_ok h
    obtain ⟨bs, hb, h3⟩ := opt_ok h2
    obtain ⟨a, ws, rfl, h4, h5⟩ := lsOf_ok r.p rv hx
    have e := bls_ok hb h5
    subst e
    exact ⟨a, bs, rfl, h4, ok_post r h3 (.bl _)⟩
  · exact h.elim
theorem cm_any : ClM g (rAny g.K) fAny := by
  intro F W α δ π σ H Q ds vs r rd h
  unfold fAny at h
  split at h
  · obtain ⟨v, rfl, rv⟩ := rds1 rd
    obtain ⟨xs, hx, h2⟩ := opt_ok h
    obtain ⟨bs, hb, h3⟩ := opt_ok h2
    obtain ⟨a, ws, rfl, h4, h5⟩ := lsOf_ok r.p rv hx
    have e := bls_ok hb h5
    subst e
    exact ⟨a, bs, rfl, h4, ok_post r h3 (.bl _)⟩
  · exact h.elim
theorem cm_sum : ClM g (rSum g.K) fSum := by
  intro F W α δ π σ H Q ds vs r rd h
  unfold fSum at h
  split at h
  · obtain ⟨v, rfl, rv⟩ := rds1 rd
    obtain ⟨xs, hx, h2⟩ := opt_ok h
    obtain ⟨bs, hb, h3⟩ := opt_ok h2
    obtain ⟨a, ws, rfl, h4, h5⟩ := lsOf_ok r.p rv hx
    have e := ints_ok hb h5
    subst e
    exact ⟨a, bs, rfl, h4, ok_post r h3 (.int _)⟩
  · exact h.elim
end

/-! ### isinstance, built-in classes -/
/-- the name of a value's class -/
def tyN (π : PH) : D → Option String
  | .non => some "NoneType"
  | .bl _ => some "bool"
  | .int _ => some "int"
  | .str _ => some "str"
  | .tup _ => some "tuple"
  | .lst _ => some "list"
  | .frz _ => some "list"
  | .ref i => match π[i]? with
    | some (.lst _) => some "list"
    | _ => none
  | _ => none
def isiT (a b : String) : Option Bool := if a = b then some true else if b = "int" then some (decide (a = "bool")) else if b = "bool" ∨ b = "str" ∨ b = "tuple" ∨ b = "list" then some false else none
def fIsi : Fun_ := fun ds π => match ds with
  | [d, .ty t] => opt (tyN π d) fun n => opt (isiT n t) fun b => .ok (.bl b) π
  | _ => .stuck
theorem tyN_mem {π : PH} {d : D} {n : String} (h : tyN π d = some n) : n = "NoneType" ∨ n = "bool" ∨ n = "int" ∨ n = "str" ∨ n = "tuple" ∨ n = "list" := by
  cases d with
  | ref i =>
    have h' : (match π[i]? with
      | some (.lst _) => some "list"
      | _ => none) = some n := h
    split at h'
    · cases h'; simp
    · cases h'
  | _ => first | (cases h; simp) | cases h
theorem isiT_ok {K : PySem.W.Frag} {a b : String} {r : Bool} (ha : a = "NoneType" ∨ a = "bool" ∨ a = "int" ∨ a = "str" ∨ a = "tuple" ∨ a = "list") (h : isiT a b = some r) : PySem.W.kitOne K (.type a) (.type b) = some r := by
  apply kit_ty
  unfold isiT at h
  by_cases e1 : a = b
  · rw [if_pos e1] at h
    subst e1
    cases h
    rcases ha with rfl | rfl | rfl | rfl | rfl | rfl <;> decide +kernel
  · rw [if_neg e1] at h
    by_cases e2 : b = "int"
    · rw [if_pos e2] at h
      subst e2
      rcases ha with rfl | rfl | rfl | rfl | rfl | rfl <;> first | exact absurd rfl e1 | (simp at h; subst h; decide +kernel)
    · rw [if_neg e2] at h
      by_cases e3 : b = "bool" ∨ b = "str" ∨ b = "tuple" ∨ b = "list"
      · rw [if_pos e3] at h
        cases h
        rcases e3 with rfl | rfl | rfl | rfl <;> (rcases ha with rfl | rfl | rfl | rfl | rfl | rfl <;> first | exact absurd rfl e1 | decide +kernel)
      · rw [if_neg e3] at h
        cases h
theorem sqT_ty {K : PySem.W.Frag} {H : Hp} {a : Addr} {vs : List V} (h : SqT K H a vs) : TyX K H (.ref a) (.type "tuple") := by
  rcases h with (h | ⟨o, h⟩) | ⟨o, its, n, h, hc, _⟩
  · exact .base (.tup h)
  · exact .fTuple h
  · exact .kTuple h hc
section
variable {g : G}
theorem cm_isi : ClM g (rIsi g.K) fIsi := by
  intro F W α δ π σ H Q ds vs r rd h
  unfold fIsi at h
  split at h
  · rename_i d t
    obtain ⟨v, w', rfl, rv, rt⟩ := rds2 rd
    cases rt
    obtain ⟨n, hn, h2⟩ := opt_ok h
    obtain ⟨b, hb, h3⟩ := opt_ok h2
    have hty : TyX g.K H v (.type n) := by
      cases rv with
      | non => cases hn; exact .base .non
      | bl b => cases hn; exact .base (.bl b)
      | int b => cases hn; exact .base (.int b)
      | str b => cases hn; exact .base (.str b)
      | tup h1 h2 => cases hn; exact sqT_ty h1
      | lst h1 h2 h3 h4 => cases hn; exact .base (.lst h1)
      | frz h1 h2 => cases hn; exact .base (.frz h1)
      | @ref i a ha =>
        have h' : (match π[i]? with
          | some (.lst _) => some "list"
          | _ => none) = some n := hn
        split at h'
        · rename_i ho
          cases h'
          obtain ⟨vs, h1, h2⟩ := r.p.lst ha ho
          exact .base (.lst h1)
        · cases h'
      | _ => cases hn
    exact ⟨v, .ty t, _, _, b, rfl, .ty t, hty, isiT_ok (tyN_mem hn) hb, ok_post r h3 (.bl _)⟩
  · exact h.elim
end

/-! ### methods of built-in types -/
def MtM' (g : G) (r : V → List V → Hp → VK → Prop) (f : D → List D → PH → Res D) : Prop := ∀ (F : Addr → Prop) (W : WX) (α : List Addr) (δ : Env) (π : PH) (σ : L2.St) (H : Hp) (Q : VK) (d : D) (v : V) (ds : List D) (vs : List V), Rel g F α δ π σ H → RD g α F H d v → RDs g α F H ds vs → Post g F (RV g F) W α δ σ H Q (f d ds π) → r v vs H Q
/-- the receiver is of the type -/
def tyB (T : String) (π : PH) : D → Bool
  | .str _ => decide (T = "str")
  | d => decide (T = "list") && (lsOf π d).isSome
def mBM (T : String) (f : D → List D → PH → Res D) (mo : M D) (ms : M (List D)) : M D := fun δ π => (mo δ π).bind fun d π1 => if tyB T π1 d = true then (ms δ π1).bind fun ds π2 => f d ds π2 else .stuck
theorem tyB_ok {g : G} {F : Addr → Prop} {α : List Addr} {π : PH} {H : Hp} {T : String} {d : D} {v : V} (r : RelP g F α π H) (rd : RD g α F H d v) (h : tyB T π d = true) : tyV g.K T v H := by
  have lst : ∀ d v, RD g α F H d v → (decide (T = "list") && (lsOf π d).isSome) = true → tyV g.K T v H := fun d v rd h => by
    rw [Bool.and_eq_true] at h
    obtain ⟨ds, hd⟩ := Option.isSome_iff_exists.mp h.2
    obtain ⟨a, vs, rfl, h1, _⟩ := lsOf_ok r rd hd
    exact .inl ⟨of_decide_eq_true h.1, vs, h1⟩
  cases rd with
  | str s => exact (show T = "str" from of_decide_eq_true h)
  | non => exact lst _ _ .non h
  | bl b => exact lst _ _ (.bl b) h
  | int b => exact lst _ _ (.int b) h
  | tup a b => exact lst _ _ (.tup a b) h
  | lst a b c d => exact lst _ _ (.lst a b c d) h
  | frz a b => exact lst _ _ (.frz a b) h
  | obj a b c d => exact lst _ _ (.obj a b c d) h
  | ref a => exact lst _ _ (.ref a) h
  | fn k => exact lst _ _ (.fn k) h
  | ty n => exact lst _ _ (.ty n) h
  | exv a b c d e f i => exact lst _ _ (.exv a b c d e f i) h
  | lam a b c d e f => exact lst _ _ (.lam a b c d e f) h
  | clo a b c d => exact lst _ _ (.clo a b c d) h
  | cls c => exact lst _ _ (.cls c) h
section
variable {X : Cx} {g : G} {W : WX} {o e : Expr} {es : List Expr} {mo : M D} {ms : M (List D)} {name : Str} {id TN : String} {apos cpos : Pos} {r : V → List V → Hp → VK → Prop} {f : D → List D → PH → Res D}
theorem te_bm (hK : g.K = X.K) (pa : PlainAttrs TN) (slot : Slot TN name id) (hty : typeOf (.builtin id) = pure (.type "method_descriptor")) (hm : MtR X id r) (hf : MtM' g r f) (ho : PE X o (T g W mo)) (ha : PA X (e :: es) (TAs g W ms))
    (hbase : attributeBase o name X.env (eval o X.env) = eval o X.env := by rfl)
    (hfew : ((backTo cpos (starEach (e :: es) X.env)).all (fun x => !x.1) && (backToKw cpos (keywordEach [] X.env)).all (fun x => x.1.isSome)
      && decide ((e :: es).length + ([] : List Keyword).length + (if ([] : List Keyword).isEmpty then 0 else 1) < 30)) = true := by rfl)
    (hline : (apos.endLine == cpos.line) = true := by rfl) (hs : starEach (e :: es) X.env = (false, eval e X.env) :: starEach es X.env := by rfl) (hplain : (backTo cpos (starEach es X.env)).any (·.1) = false := by rfl) :
    PE X (.Call (.Attribute o name apos) (e :: es) [] cpos) (T g W (mBM TN f mo ms)) :=
  wkE (pe_bm pa slot hty hm ho ha hbase hfew hline hs hplain) fun σ H Q ⟨F, α, δ, π, rl, h⟩ => by
    refine ⟨F, α, δ, π, rl, (Post.bind (R := RV g F) h).imp fun v H1 ⟨α1, π1, d, le, r1, rd, h2⟩ => ?_⟩
    by_cases hb : tyB TN π1 d = true
    · rw [if_pos hb] at h2
      refine ⟨hK ▸ tyB_ok r1.p rd hb, F, α1, δ, π1, r1, (Post.bind (R := RA g F) h2).imp fun vs H2 ⟨α2, π2, ds, le2, r2, rds, h3⟩ => ?_⟩
      exact hf F W α2 δ π2 σ H2 Q d v ds vs r2 (rd.mono le2) rds h3
    · rw [if_neg hb] at h2
      exact h2.elim
end
def fAppend : D → List D → PH → Res D := fun d ds π => match d, ds with
  | .ref i, [e] => match π[i]? with
    | some (.lst xs) => if xs.length < sizeLine then .ok .non (π.set i (.lst (xs ++ [e]))) else .stuck
    | _ => .stuck
  | _, _ => .stuck
def fSplit (reg : Bool) : D → List D → PH → Res D := fun d ds π => match d, ds with
  | .str a, [.str b] => when_ (!(b.length == 0) && fitsB (a.length + 2)) (alloc reg ((Txt.split a b).map D.str) π)
  | _, _ => .stuck
def fPartition : D → List D → PH → Res D := fun d ds π => match d, ds with
  | .str a, [.str b] => when_ (!(b.length == 0) && fitsB a.length) (.ok (.tup [.str (Txt.partition a b).1, .str (Txt.partition a b).2.1, .str (Txt.partition a b).2.2]) π)
  | _, _ => .stuck
def fJoin : D → List D → PH → Res D := fun d ds π => match d, ds with
  | .str a, [e] => opt (sqOf π e) fun xs => opt (strsOf xs) fun ys => when_ (decide ((ys.map (·.length)).sum + ys.length * a.length ≤ 16777216)) (.ok (.str (Txt.join a ys)) π)
  | _, _ => .stuck
section
variable {g : G}
theorem mm_append : MtM' g rAppend fAppend := by
  intro F W α δ π σ H Q d v ds vs r rd rds h
  unfold fAppend at h
  split at h
  · rename_i i e
    obtain ⟨w, rfl, rw'⟩ := rds1 rds
    cases rd with
    | ref ha =>
      split at h
      · rename_i xs ho
        obtain ⟨vs, h1, h2⟩ := r.p.lst ha ho
        split at h
        · rename_i hz
          obtain ⟨r2, le⟩ := r.p.write (o := .lst (xs ++ [e])) (ho := .lst (vs ++ [w])) ha h1 (fun _ z => by cases z) (fun _ _ z => by cases z) (.lst (h2.append (.cons rw' .nil)))
          exact ⟨_, vs, w, rfl, rfl, h1, by rw [← h2.length]; exact hz, h α _ .non le (r.with le r2) .non⟩
        · exact h.elim
      · exact h.elim
  · exact h.elim
theorem mm_split (reg : Bool) : MtM' g (fun x xs H Q => ∃ a b, x = .str a ∧ xs = [.str b] ∧ (b.length == 0) = false ∧ a.length + 2 ≤ sizeLine ∧ rNewStrs (Txt.split a b) H Q) (fSplit reg) := by
  intro F W α δ π σ H Q d v ds vs r rd rds h
  unfold fSplit at h
  split at h
  · obtain ⟨w, rfl, rw'⟩ := rds1 rds
    cases rd; cases rw'
    obtain ⟨h1, h2⟩ := when_ok h
    rw [Bool.and_eq_true] at h1
    exact ⟨_, _, rfl, rfl, by simpa using h1.1, fits_ok h1.2, alloc_post r (strs_rd _) h2⟩
  · exact h.elim
theorem mm_partition : MtM' g (fun x xs H Q => ∃ a b, x = .str a ∧ xs = [.str b] ∧ (b.length == 0) = false ∧ a.length ≤ sizeLine ∧ ∀ p, H p = none → Q (.ref p) (upd H p (.tup [.str (Txt.partition a b).1, .str (Txt.partition a b).2.1, .str (Txt.partition a b).2.2]))) fPartition := by
  intro F W α δ π σ H Q d v ds vs r rd rds h
  unfold fPartition at h
  split at h
  · obtain ⟨w, rfl, rw'⟩ := rds1 rds
    cases rd; cases rw'
    obtain ⟨h1, h2⟩ := when_ok h
    rw [Bool.and_eq_true] at h1
    exact ⟨_, _, rfl, rfl, by simpa using h1.1, fits_ok h1.2, tup_post r (.cons (.str _) (.cons (.str _) (.cons (.str _) .nil))) h2⟩
  · exact h.elim
theorem mm_join : MtM' g (fun x xs H Q => ∃ a p, ∃ ys : List Str, x = .str a ∧ xs = [.ref p] ∧ (SqL g.K H p (ys.map V.str) ∨ SqT g.K H p (ys.map V.str)) ∧ (ys.map (·.length)).sum + ys.length * a.length ≤ 16777216 ∧ Q (.str (Txt.join a ys)) H) fJoin := by
  intro F W α δ π σ H Q d v ds vs r rd rds h
  unfold fJoin at h
  split at h
  · obtain ⟨w, rfl, rw'⟩ := rds1 rds
    cases rd
    obtain ⟨xs, hx, h2⟩ := opt_ok h
    obtain ⟨ys, hy, h3⟩ := opt_ok h2
    obtain ⟨a, ws, rfl, h4, h5⟩ := sqOf_ok r.p rw' hx
    have e := strs_ok hy h5
    subst e
    obtain ⟨h6, h7⟩ := when_ok h3
    exact ⟨_, a, ys, rfl, rfl, h4, of_decide_eq_true h6, ok_post r h7 (.str _)⟩
  · exact h.elim
end

/-! ### f-strings -/
def fFmt : D → PH → Res D
  | .str s, π => when_ (fitsB s.length) (.ok (.str s) π)
  | .int i, π => when_ (decide (i.natAbs.log2 < 1920)) (.ok (.str (toString i)) π)
  | _, _ => .stuck
def mJs : List (M D) → Str → M D
  | [], acc => fun _ π => .ok (.str acc) π
  | m :: ms, acc => fun δ π => (m δ π).bind fun d π1 => match d with
    | .str y => if (acc ++ y).length ≤ sizeLine then mJs ms (acc ++ y) δ π1 else .stuck
    | _ => .stuck
section
variable {X : Cx} {g : G} {W : WX} {e : Expr} {mo : M D} {pos : Pos}
theorem te_fmt (he : PE X e (T g W mo)) : PE X (.FormattedValue e (-1) none pos) (T g W (mUn fFmt mo)) :=
  wkE (pe_fmt he) fun σ H Q ⟨F, α, δ, π, r, h⟩ => ⟨F, α, δ, π, r, (Post.bind (R := RV g F) h).imp fun v H1 ⟨α1, π1, d, le, r1, rd, h2⟩ => by
    unfold fFmt at h2
    split at h2
    · cases rd
      obtain ⟨h3, h4⟩ := when_ok h2
      exact .inl ⟨_, rfl, fits_ok h3, ok_post r1 h4 (.str _)⟩
    · cases rd
      obtain ⟨h3, h4⟩ := when_ok h2
      exact .inr ⟨_, rfl, of_decide_eq_true h3, ok_post r1 h4 (.str _)⟩
    · exact h2.elim⟩
inductive PJM (X : Cx) (g : G) (W : WX) : List Expr → List (M D) → Prop where
  | nil : PJM X g W [] []
  | cons {e : Expr} {m : M D} {es : List Expr} {ms : List (M D)} (h : PE X e (T g W m)) (r : PJM X g W es ms) : PJM X g W (e :: es) (m :: ms)
theorem PJM.pj : ∀ {es : List Expr} {ms : List (M D)}, PJM X g W es ms → PJ X es (ms.map (T g W))
  | _, _, .nil => .nil
  | _, _, .cons h r => .cons h r.pj
theorem js_ok {σ : L2.St} : ∀ {ms : List (M D)} {acc : Str} {H : Hp} {Q : Str → Hp → Prop}, T g W (mJs ms acc) σ H (fun v H1 => ∀ y, v = .str y → Q y H1) → tJs (ms.map (T g W)) acc σ H Q
  | [], acc, H, Q, ⟨F, α, δ, π, r, h⟩ => h α H (.str acc) .refl r (.str acc) acc rfl
  | m :: ms, acc, H, Q, ⟨F, α, δ, π, r, h⟩ => ⟨F, α, δ, π, r, (Post.bind (R := RV g F) h).imp fun v H1 ⟨α1, π1, d, le, r1, rd, h2⟩ => by
    split at h2
    · rename_i y
      cases rd
      split at h2
      · rename_i hz
        exact ⟨y, rfl, hz, js_ok ⟨F, α1, δ, π1, r1, h2⟩⟩
      · exact h2.elim
    · exact h2.elim⟩
theorem te_js {v1 v2 : Expr} {rest : List Expr} {ms : List (M D)} (h : PJM X g W (v1 :: v2 :: rest) ms) : PE X (.JoinedStr (v1 :: v2 :: rest) pos) (T g W (mJs ms Str.empty)) :=
  wkE (pe_joined h.pj) fun σ H Q ⟨F, α, δ, π, r, h⟩ => js_ok ⟨F, α, δ, π, r, h.imp fun v H1 q y e => e ▸ q⟩
theorem te_js1 (he : PE X e (T g W mo)) : PE X (.JoinedStr [e] pos) (T g W mo) := pe_joined1 he
end
end MI

set_option Elab.async false
set_option linter.all false
set_option maxRecDepth 100000
/-! What the generator's texts lean on: facts of the head, a def from its row, y = [..]. -/
namespace MI
open PySem L2

section
variable {X : Cx} {g : G} {W : WX}
theorem te_gsE {x s : Str} {pos : Pos} (hg : Gl X x) (hm : ∃ t, X.mg x = some (.str s t)) (hd : (x == ("__debug__" : Str)) = false := by decide) : PE X (.Name x pos) (T g W (mC (.str s))) := by
  obtain ⟨t, h⟩ := hm
  exact te_gs hg h ⟨t, rfl⟩ hd
theorem te_giE {x : Str} {i : Int} {pos : Pos} (hg : Gl X x) (hm : ∃ t, X.mg x = some (.int i t)) (hd : (x == ("__debug__" : Str)) = false := by decide) : PE X (.Name x pos) (T g W (mC (.int i))) := by
  obtain ⟨t, h⟩ := hm
  exact te_gi hg h ⟨t, rfl⟩ hd
end

section
variable {P : Program} {w : World} {mg : Str → Option Value} {base : Heap} {g : G} {x qual : Str} {params : Arguments} {body : List Stmt} {scope : Scope} {f : Addr} {fd : FuncData} {N ps : List Str} {k n : Nat} {ms : MS}
theorem runB_sp {vs : List V} {H : Hp} {Q : VK} {E : XK} (h : spM g n (runB N.length ms) vs H Q E) : TM g (fun cls d _ H' => E cls d H') ms { nx := fun _ H' => Q .non H', rt := Q } (L2.start N vs) H := by
  obtain ⟨hn, F, α, π, ds, r, rd, h⟩ := h
  refine ⟨F, α, _, π, rel_start r rd, ?_⟩
  unfold runB at h
  revert h
  cases ms (ds.map some ++ List.replicate (N.length - ds.length) none) π with
  | nx δ π' => exact fun h α' σ' H' le r' => h α' H' .non le r'.p .non
  | ret d π' => exact fun h α' H' v le r' rd' => h α' H' v le r' rd'
  | exc x δ π' => exact fun h α' σ' H' c d le r' rx => h α' H' c d le r'.p rx
  | brk δ π' => exact fun h => h.elim
  | ct δ π' => exact fun h => h.elim
  | stuck => exact fun h => h.elim
/-- a def of the text, without defaults -/
theorem fn_mk (Fu : FunD g.K x qual params body scope [] [] f fd) (S : FnScope N ps scope)
    (hb : ∀ (cdv : Value) (A : Around) (outer : List PySem.Env) (s : Shared) (H : Hp) (E : XK), Room k (A.deeper (PyProof.Rows.envOfC qual scope s.heap.objs.size f cdv)) → Takes (cxOf (L2.CX P w) P w g.K mg base N qual scope f cdv A outer s H E) (fun cls d _ H' => E cls d H') →
      PSs (cxOf (L2.CX P w) P w g.K mg base N qual scope f cdv A outer s H E) body (TM g (fun cls d _ H' => E cls d H') ms))
    (hbind : ∀ (kV doc pm : Value) (an : Option Addr) (cdv ct : Value) (us : List Value), us.length = ps.length → bindArgs (PySem.W.fnOf x qual params body scope .none kV doc pm an cdv ct) ⟨us, []⟩ = pure (ps.zip us)) : Fn P w mg base g (k + 1) f ps.length [] (runB N.length ms) := by
  refine ⟨⟨fd, ps, [], [], Fu.ok S (fun vs H Q E h => h.1) fun cdv A outer s H vs Q E hr h => ⟨_, hb cdv A outer s H E hr (takes_of rfl rfl rfl rfl), runB_sp h⟩, Fu.bindsN hbind, .nil, fun _ _ _ => .nil, rfl⟩, Fu.kp⟩
end
end MI
namespace MI
open PySem L2
section
variable {X : Cx} {g : G} {W : WX} {tg iter elt : Expr} {ifs : List Expr} {src : M Src} {set : SetD} {mt : M Bool} {me : M D} {t : TG} {is : List Nat} {reg : Bool}
/-- y = [..] on one line -/
theorem ts_setLc {y : Str} {py spos : Pos} {scope : Scope} {own : List (Str × Nat)} {pos : Pos} (i : Nat) (reg : Bool) (hc : X.calm = true) (hN : X.N.Nodup) (hi : PI X tg iter (TSrc g W src)) (ok : BlkOk X.N X.env.scope scope own) (ho : own.map (·.2) = is)
    (hg : ∀ (s : Shared) (H : Hp) (C : Addr) (cl : List (Str × Addr)) (fp : List Addr), PGC (X.blk s H scope (compEnvC scope cl C X.env) fp) g tg set is t)
    (ht : ∀ (s : Shared) (H : Hp) (C : Addr) (cl : List (Str × Addr)) (fp : List Addr), PTs (X.blk s H scope (compEnvC scope cl C X.env) fp) ifs (TB g W0 mt))
    (he : ∀ (s : Shared) (H : Hp) (C : Addr) (cl : List (Str × Addr)) (fp : List Addr), PE (X.blk s H scope (compEnvC scope cl C X.env) fp) elt (T g W0 me)) (hy : X.N[i]? = some y := by rfl) (hyl : X.env.scope.names.lookup y = some .local := by rfl)
    (hsw : swapsWith (.ListComp elt [⟨tg, iter, ifs, 0⟩] scope pos) (some (.Name y py)) spos.line X.env = pure true := by exact sw_true rfl rfl rfl (by decide +kernel)) (hs : ∀ x, foldedSetIterable iter X.env x = pure x := by intro _; rfl) :
    PS X (.Assign [.Name y py] (.ListComp elt [⟨tg, iter, ifs, 0⟩] scope pos) spos) (TM g W (sSet i (mLc reg is src set mt me))) := by
  have hdo := (hg ⟨{}, #[], {}, 0, {}⟩ (fun _ => none) 0 [] []).do_
  refine wkS (ps_setLc hc hN hy hyl hsw hi ok (fun s H C cl fp => (hg s H C cl fp).pg) ht he hs) fun Dn σ H ⟨F, α, δ, π, r, h⟩ => ?_
  rw [ho]
  exact lcR hdo ⟨F, α, δ, π, r, (sb_post (R := RV g F) r h).imp fun v H1 ⟨α1, π1, d, le, r1, rd, h2⟩ => h2 α1 _ H1 .refl (r1.set rd)⟩
end
def fRjust : D → List D → PH → Res D := fun d ds π => match d, ds with
  | .str a, [.int i] => when_ (PadOk i) (.ok (.str (Txt.rjust a i)) π)
  | _, _ => .stuck
/-- with '0' to fill -/
def fRjust0 : D → List D → PH → Res D := fun d ds π => .stuck
theorem mm_rjust {g : G} : MtM' g (fun x xs H Q => ∃ (a : Str) (i : Int), x = .str a ∧ xs = [.int i] ∧ PadOk i = true ∧ Q (.str (Txt.rjust a i)) H) fRjust := by
  intro F W α δ π σ H Q d v ds vs r rd rds h
  unfold fRjust at h
  split at h
  · obtain ⟨w, rfl, rw'⟩ := rds1 rds
    cases rd; cases rw'
    obtain ⟨h1, h2⟩ := when_ok h
    exact ⟨_, _, rfl, rfl, h1, ok_post r h2 (.str _)⟩
  · exact h.elim
end MI

set_option Elab.async false
set_option linter.all false
set_option maxRecDepth 100000
/-! xs[i] = e; o.f = e; calls by keywords; starred arguments; text * int. -/
namespace MI
open PySem L2

/-! ### xs[i] = e -/
def fPut : D → D → D → PH → Option PH := fun o i v π => match o, i with
  | .ref r, .int k => match π[r]? with
    | some (.lst xs) => (ixN xs.length k).map fun j => π.set r (.lst (xs.set j v))
    | _ => none
  | _, _ => none
def sPut (mo mi mv : M D) : MS := fun δ π => (mv δ π).sb δ fun v π1 => (mo δ π1).sb δ fun o π2 => (mi δ π2).sb δ fun i π3 => match fPut o i v π3 with
  | some π4 => .nx δ π4
  | none => .stuck
/-! ### o.f = e -/
def fFldPut (c : Nat) (f : Str) : D → D → PH → Option PH := fun o v π => match o with
  | .ref r => match π[r]? with
    | some (.ins c' fs) => if c' = c ∧ fs.length < 1000 then some (π.set r (.ins c (putD f v fs))) else none
    | _ => none
  | _ => none
def sFldPut (c : Nat) (f : Str) (mo mv : M D) : MS := fun δ π => (mv δ π).sb δ fun v π1 => (mo δ π1).sb δ fun o π2 => match fFldPut c f o v π2 with
  | some π3 => .nx δ π3
  | none => .stuck
section
variable {X : Cx} {g : G} {W : WX} {o i e : Expr} {mo mi mv : M D} {pos p2 : Pos}
theorem ts_put (ho : PE X o (T g W mo)) (hi : PE X i (T g W mi)) (he : PE X e (T g W mv))
    (ha : ∀ v, assign (.Subscript o i p2) X.env v = (do
      let ov ← holding [v] (eval o X.env)
      let iv ← holding [v, ov] (eval i X.env)
      standAt p2
      holding [v, ov, iv] (setItem ov iv v)
      release [v, ov, iv] []) := by intro _; rfl)
    (hs : swapsWithSole [.Subscript o i p2] e pos.line X.env = pure false := by rfl) (hw : swappedStores [.Subscript o i p2] e X.env = pure none := by rfl) (h1 : (assignEach [.Subscript o i p2] X.env).map (·.2) = [assign (.Subscript o i p2) X.env] := by rfl) :
    PS X (.Assign [.Subscript o i p2] e pos) (TM g W (sPut mo mi mv)) :=
  wkS (ps_asg he (pg_sub ho hi set_list ha) hs hw h1) fun Dn σ H ⟨F, α, δ, π, r, h⟩ => ⟨F, α, δ, π, r, (sb_post (R := RV g F) r h).imp fun v H1 ⟨α1, π1, dv, le, r1, rv, h2⟩ => by
    refine ⟨F, α1, δ, π1, r1, (sb_post (R := RV g F) r1 h2).imp fun ov H2 ⟨α2, π2, dO, le2, r2, ro, h3⟩ => ?_⟩
    refine ⟨F, α2, δ, π2, r2, (sb_post (R := RV g F) r2 h3).imp fun iv H3 ⟨α3, π3, dI, le3, r3, ri, h4⟩ => ?_⟩
    have rv' := ((rv.mono le2).mono le3)
    have ro' := ro.mono le3
    unfold fPut at h4
    split at h4
    · rename_i π4 hp
      split at hp
      · rename_i rr kk hxx
        cases ri
        cases ro' with
        | ref ha' =>
          split at hp
          · rename_i xs hx
            rw [Option.map_eq_some_iff] at hp
            obtain ⟨j, hj, e4⟩ := hp
            subst e4
            obtain ⟨vs, hv, rvs⟩ := r3.p.lst ha' hx
            obtain ⟨p4, le4⟩ := r3.p.write (o := .lst (xs.set j dv)) (ho := .lst (vs.set j v)) ha' hv (fun _ z => by cases z) (fun _ _ z => by cases z) (.lst (rvs.set rv' j))
            exact ⟨_, vs, _, j, rfl, rfl, hv, by rw [← rvs.length]; exact hj, h4 α3 σ _ le4 (r3.with le4 p4)⟩
          · cases hp
      · cases hp
    · exact h4.elim⟩
theorem ts_fldput {c : Nat} {f : Str} (hK : g.K = X.K) (cl : Cls g.K (g.cadr c)) (na : NoAttr g.K (g.cadr c) f) (ho : PE X o (T g W mo)) (he : PE X e (T g W mv)) (hs : swapsWith e (some (.Attribute o f p2)) pos.line X.env = pure false := by rfl) :
    PS X (.Assign [.Attribute o f p2] e pos) (TM g W (sFldPut c f mo mv)) :=
  wkS (ps_fld ho he hs) fun Dn σ H ⟨F, α, δ, π, r, h⟩ => ⟨F, α, δ, π, r, (sb_post (R := RV g F) r h).imp fun v H1 ⟨α1, π1, dv, le, r1, rv, h2⟩ => by
    refine ⟨F, α1, δ, π1, r1, (sb_post (R := RV g F) r1 h2).imp fun ov H2 ⟨α2, π2, dO, le2, r2, ro, h3⟩ => ?_⟩
    have rv' := rv.mono le2
    unfold fFldPut at h3
    split at h3
    · rename_i π3 hp
      split at hp
      · rename_i rr
        cases ro with
        | ref ha' =>
          split at hp
          · rename_i c' fs hx
            split at hp
            · rename_i hc
              cases hp
              obtain ⟨ec, hl⟩ := hc
              subst ec
              obtain ⟨hob, h5, h6⟩ := r2.p.obj _ _ _ ha' hx
              cases h6 with
              | ins h7 =>
                rename_i dx vs
                obtain ⟨p4, le4⟩ := r2.p.write (o := .ins c' (putD f dv fs)) (ho := .ins (g.cadr c') dx (putF f v vs)) ha' h5 (fun _ z => by cases z) (fun _ _ z => by cases z) (.ins (h7.put rv'))
                exact ⟨_, _, dx, vs, rfl, h5, hK ▸ cl, hK ▸ na, by rw [← h7.length]; exact hl, h3 α2 σ _ le4 (r2.with le4 p4)⟩
            · cases hp
          · cases hp
      · cases hp
    · exact h3.elim⟩
end

/-! ### f(k = v, ..): all parameters by name, in order -/
structure FnK (P : Program) (w : World) (mg : Str → Option Value) (base : Heap) (g : G) (k : Nat) (f : Addr) (ks : List Str) (m : Fun_) : Prop where
  ex : ∃ (fd : FuncData), FnOk P w g.K mg base (L2.CX P w) k f fd ks (spM g ks.length m) ∧ ∀ (s : Shared) (ws : List Value), ws.length = ks.length → BindsTo s fd ⟨[], ks.zip ws⟩ (ks.zip ws)
  kp : PySem.W.keepIn g.K (.ref f) = true
/-- a def of the text, without defaults, by keywords -/
theorem fn_mkK {P : Program} {w : World} {mg : Str → Option Value} {base : Heap} {g : G} {x qual : Str} {params : Arguments} {body : List Stmt} {scope : Scope} {f : Addr} {fd : FuncData} {N ps : List Str} {k : Nat} {ms : MS} (Fu : FunD g.K x qual params body scope [] [] f fd) (S : FnScope N ps scope)
    (hb : ∀ (cdv : Value) (A : Around) (outer : List PySem.Env) (s : Shared) (H : Hp) (E : XK), Room k (A.deeper (PyProof.Rows.envOfC qual scope s.heap.objs.size f cdv)) → Takes (cxOf (L2.CX P w) P w g.K mg base N qual scope f cdv A outer s H E) (fun cls d _ H' => E cls d H') →
      PSs (cxOf (L2.CX P w) P w g.K mg base N qual scope f cdv A outer s H E) body (TM g (fun cls d _ H' => E cls d H') ms))
    (hbind : ∀ (kV doc pm : Value) (an : Option Addr) (cdv ct : Value) (us : List Value), us.length = ps.length → bindArgs (PySem.W.fnOf x qual params body scope .none kV doc pm an cdv ct) ⟨[], ps.zip us⟩ = pure (ps.zip us)) : FnK P w mg base g (k + 1) f ps (runB N.length ms) := by
  refine ⟨⟨fd, Fu.ok S (fun vs H Q E h => h.1) fun cdv A outer s H vs Q E hr h => ⟨_, hb cdv A outer s H E hr (takes_of rfl rfl rfl rfl), runB_sp h⟩, fun s ws hl => ?_⟩, Fu.kp⟩
  obtain ⟨oc, od, dV, kV, doc, pm, an, cdv, ct, osl, rfl, lk, hcd, hD, hK⟩ := Fu.ex
  rcases hD with ⟨_, rfl⟩ | ⟨e, _⟩
  · exact .of_eq (hbind kV doc pm an cdv ct ws hl)
  · exact absurd rfl e
structure PKM (X : Cx) (g : G) (W : WX) (kws : List Keyword) (m : M (List D)) : Prop where
  pk : PK X kws (TAs g W m)
section
variable {X : Cx} {g : G} {W : WX} {k : Nat} {f : Addr} {ks : List Str} {m : Fun_} {a : Expr} {ma : M D} {kws : List Keyword} {x : Str} {p pos kpos : Pos} {ms : M (List D)} {nm : Option Str}
theorem tk_nil : PKM X g W [] mNil := ⟨⟨fun pos pins s σ H Q I ⟨F, α, δ, π, r, h⟩ => pk_nil.run pos pins s σ H Q I (h α H [] .refl r .nil)⟩⟩
theorem tk_cons (ha : PE X a (T g W ma)) (hr : PKM X g W kws ms) : PKM X g W (⟨nm, a, kpos⟩ :: kws) (mCons ma ms) := ⟨⟨fun pos pins s σ H Q I ⟨F, α, δ, π, rl, h⟩ => (pk_cons ha hr.pk).run pos pins s σ H Q I (by
  refine ⟨F, α, δ, π, rl, (Post.bind (R := RV g F) h).imp fun v H1 ⟨α1, π1, d, le, r1, rd, h2⟩ => ?_⟩
  refine ⟨F, α1, δ, π1, r1, (Post.bind (R := RA g F) h2).imp fun w H2 ⟨α2, π2, e, le2, r2, re, h3⟩ => ?_⟩
  exact h3 α2 H2 _ .refl r2 (.cons (rd.mono le2) re))⟩⟩
theorem te_callK (hK : g.K = X.K) (c : FnK X.prog X.w X.mg X.base g k f ks m) (hr : Room k X.A) (tk : Takes X W) (hg : Gl X x) (hm : X.mg x = some (.ref f)) (hkw : PKM X g W kws ms)
    (hall : (backToKw pos (keywordEach kws X.env)).all (·.1.isSome) = true := by rfl) (hks : (backToKw pos (keywordEach kws X.env)).filterMap (·.1) = ks := by rfl) (hdb : (x == ("__debug__" : Str)) = false := by decide)
    (hpl : ((backTo pos (starEach [] X.env)).any (·.1) || (backToKw pos (keywordEach kws X.env)).any (·.1.isNone)) = false := by rfl) :
    PE X (.Call (.Name x p) [] kws pos) (T g W (mArgs (fCall ks.length [] m) ms)) := by
  refine ⟨fun pins s σ H Q I ⟨F, α, δ, π, r, h⟩ => ?_⟩
  refine wpAny_Call_Name_kw (ld_glob I hg hm ?_ hdb)
  refine PySem.W.callWith_KW0 (h₀ := X.base) I.ok.mod.kin (hK ▸ c.kp) hall (thn (hkw.pk.run pos pins s σ H _ I ⟨F, α, δ, π, r, Post.bind (R := RA g F) h⟩) fun us s1 ⟨vs, H1, I1, rv, α1, π1, d, le, r1, rd, h2⟩ => ⟨I1.kIn, ?_⟩) hpl
  rw [hks]
  obtain ⟨hl, h3⟩ := when_ok h2
  have hl' : d.length = ks.length := of_decide_eq_true hl
  rw [List.append_nil] at h3
  obtain ⟨⟨fd, FO, hb⟩, kp⟩ := c
  rw [hK] at FO
  have lv : vs.length = ks.length := by rw [← rd.length, hl']
  have lu : us.length = ks.length := by rw [← rv.length, lv]
  have hsp : spM g ks.length m vs H1 Q (WE W σ) := ⟨lv, F, α1, π1, d, r1.p, rd, Post.p r1 h3⟩
  refine wpAny_call (codeAny_mono (FO.run X.A X.stack s1 H1 ⟨[], ks.zip us⟩ us vs Q (WE W σ) hr I1.env0 (hb s1 us lu) rv hsp) fun r s' hq => ?_)
  cases r with
  | error e => exact passAt tk σ pins H1 s1 e s' I1 hq
  | ok fl =>
    cases fl with
    | ret u => exact I1.after hq
    | next => exact False.elim hq
    | brk => exact False.elim hq
    | cont => exact False.elim hq
/-- a starred argument -/
def mStar (ma : M D) (mr : M (List D)) : M (List D) := fun δ π => (ma δ π).bind fun d π1 => opt (sqOf π1 d) fun xs => (mr δ π1).bind fun ds π2 => .ok (xs ++ ds) π2
theorem ta_star {es : List Expr} {mr : M (List D)} {p : Pos} (hK : g.K = X.K) (ha : PE X a (T g W ma)) (hr : PA X es (TAs g W mr)) (hs : starEach (.Starred a p :: es) X.env = (true, eval a X.env) :: starEach es X.env := by rfl) : PA X (.Starred a p :: es) (TAs g W (mStar ma mr)) := by
  refine wkA (StX.pa_star ha hr hs) fun σ H Q ⟨F, α, δ, π, rl, h⟩ => ?_
  refine ⟨F, α, δ, π, rl, (Post.bind (R := RV g F) h).imp fun v H1 ⟨α1, π1, d, le, r1, rd, h2⟩ => ?_⟩
  obtain ⟨xs, hx, h3⟩ := opt_ok h2
  obtain ⟨a, vs, rfl, h4, h5⟩ := sqOf_ok r1.p rd hx
  refine ⟨a, vs, rfl, hK ▸ h4.symm, ?_⟩
  refine ⟨F, α1, δ, π1, r1, (Post.bind (R := RA g F) h3).imp fun w H2 ⟨α2, π2, e, le2, r2, re, h6⟩ => ?_⟩
  exact h6 α2 H2 _ .refl r2 ((h5.mono le2).append re)
end

/-! ### text * int -/
def rep (z : Str) (n : Nat) : Str := ⟨(List.replicate n z.cps).foldl (· ++ ·) #[]⟩
def fMulS : D → D → PH → Res D
  | .str z, .int n, π => when_ (decide (1 < n) && decide (z.length = 1) && decide (n ≤ 1000000)) (.ok (.str (rep z n.toNat)) π)
  | d, e, π => fMul d e π
def rMulS : R2 := fun x y H Q => rI CMulW (fun i j => .int (i * j)) x y H Q ∨ ∃ z n, x = .str z ∧ y = .int n ∧ 1 < n ∧ z.length = 1 ∧ n ≤ 1000000 ∧ Q (.str (rep z n.toNat)) H
theorem rep_size (c : Array Nat) : ∀ (n : Nat) (acc : Array Nat), ((List.replicate n c).foldl (· ++ ·) acc).size = acc.size + n * c.size
  | 0, acc => by simp
  | n + 1, acc => by
    rw [List.replicate_succ, List.foldl_cons, rep_size c n, Array.size_append, Nat.succ_mul]
    omega
theorem or_mulS {X : Cx} : OpR X (binaryOp .Mult) rMulS := by
  refine OpR.or op_mulW ?_
  intro pins s σ H x y v u Q I rx ry ⟨z, n, h1, h2, h3, h4, h5, q⟩
  subst h1; subst h2
  obtain ⟨t, rfl⟩ := rx
  obtain ⟨t', rfl⟩ := ry
  have e1 : ¬ n < 1 := by omega
  have e2 : (n == 1 || z.length == 0) = false := by rw [h4]; simp; omega
  refine PySem.P.mul_str (by rw [decide_eq_false (by omega), decide_eq_false (by omega)]; rfl) (fun _ _ => ?_) (fun _ _ => ?_) ?_
  · rw [h4]
    have : (1 : Int) ≤ (2 ^ 63 - 1) / n := by
      apply (Int.le_ediv_iff_mul_le (by omega)).mpr
      omega
    omega
  · rw [h4]
    unfold Builtin.Str.tooLong
    rw [sizeLine_eq]
    simp
    omega
  · rw [if_neg e1, if_neg (by rw [e2]; simp)]
    refine ⟨?_, .str (rep z n.toNat), H, I.tok _, ⟨_, rfl⟩, q⟩
    show ((List.replicate n.toNat z.cps).foldl (· ++ ·) #[]).size ≤ sizeLine
    rw [rep_size, sizeLine_eq]
    have : z.cps.size = 1 := h4
    simp [this]
    omega
theorem om_mulS {g : G} : OpM g rMulS fMulS := by
  intro F W α δ π σ H Q d e v w r rd re h
  unfold fMulS at h
  split at h
  · cases rd; cases re
    obtain ⟨h1, h2⟩ := when_ok h
    simp only [Bool.and_eq_true, decide_eq_true_eq] at h1
    exact .inr ⟨_, _, rfl, rfl, h1.1.1, h1.1.2, h1.2, ok_post r h2 (.str _)⟩
  · exact .inl (om_mul F W α δ π σ H Q d e v w r rd re h)
end MI
namespace MI
open PySem L2
/-- what is never called may be any def -/
theorem fn_stuck {P : Program} {w : World} {mg : Str → Option Value} {base : Heap} {g : G} {x qual : Str} {params : Arguments} {body : List Stmt} {scope : Scope} {f : Addr} {fd : FuncData} {ps : List Str} {k : Nat} (Fu : FunD g.K x qual params body scope [] [] f fd)
    (hbind : ∀ (kV doc pm : Value) (an : Option Addr) (cdv ct : Value) (us : List Value), us.length = ps.length → bindArgs (PySem.W.fnOf x qual params body scope .none kV doc pm an cdv ct) ⟨us, []⟩ = pure (ps.zip us)) : Fn P w mg base g k f ps.length [] (fun _ _ => .stuck) :=
  ⟨⟨fd, ps, [], [], ⟨fun vs H Q E h => h.1, fun A outer s H args us vs Q E hr e hb hv h => by
    obtain ⟨_, _, _, _, _, _, _, h⟩ := h
    exact h.elim⟩, Fu.bindsN hbind, .nil, fun _ _ _ => .nil, rfl⟩, Fu.kp⟩
end MI

set_option Elab.async false
set_option linter.all false
set_option maxRecDepth 100000
set_option maxHeartbeats 4000000
/-! The making of an own exception over ValueError whose __init__ says super().__init__(a, b); self.a = a; self.b = b. -/
namespace MIX
open PySem PySem.W PySem.Calls PyProof.Rows PySem.HandSPX

/-- what the written part says of the class at C, its __init__ at fI -/
structure SupC (prog : Program) (K : Frag) (mg : Str → Option Value) (C fI cc cda : Addr) (qual : Str) (params : Arguments) (body : List Stmt) (scope : Scope) : Prop where
  cls : ∃ nm q N bs bm sn sub ab col dd k0 k1 k2 k3 k5, K.lookup C = some (excClassObj nm q C N bs bm true sn sub ab col dd k0 k1 k2 k3 k5 "ValueError.__new__") ∧ refsVE bm = true
  sa : findIn K (.ref C) "__setattr__" = some (some (.builtin "object.__setattr__"))
  iC : findIn K (.ref C) "__init__" = some (some (.ref fI))
  tF : typeIn K (.ref fI) = some (.type "function")
  fn : ∃ (oc : Value) (od : Option Addr) (doc pm : Value) (an : Option Addr) (kV ct : Value) (osl : Array (Option Value)), K.lookup fI = some ⟨oc, od, .func (ksFn "__init__" qual params body scope .none kV doc pm an (.ref cda) ct cc), osl⟩
  hcd : codeIn K (.ref cda) qual = true
  file : ∃ ccl cdd vs ccs fl tf, K.lookup cda = some ⟨ccl, cdd, .fields vs, ccs⟩ ∧ vs[2]? = some (.str fl tf) ∧ ((prog.main.file : Str) == fl) = true
  cell : ∃ cl cld csl, K.lookup cc = some ⟨cl, cld, .cell (some (.ref C)), csl⟩
  sup : ks_superIn K C C "__init__" = some (some (.builtin "ValueError.__init__"))
  sVE : subIn K (.ref C) (.type "ValueError") = some true
  self : mroIn K C (.ref C) = some true
  any : nsIn K cStatics "thirdparty.any" = some none
  gS : mg "super" = none
  top : (prog.main.scope.names.lookup ("super" : Str)).isSome = false
/-- the scope of such an __init__ -/
structure SupSc (scope : Scope) (ps : List Str) : Prop where
  kind : scope.kind = .function
  co : scope.isCoroutine = false
  gen : scope.isGenerator = false
  nocell : ∀ x ∈ scope.names, x.2 ≠ .cell
  sup : scope.names.lookup ("super" : Str) = some .globalImplicit
  cls : scope.names.lookup ("__class__" : Str) = some .free
  par : ∀ p ∈ ps, scope.names.lookup p = some .local
def iP2 (a b : Str) (p1 p2 p3 : Pos) : Arguments := { posonlyargs := [], args := [{ arg := "self", annotation := none, pos := p1 }, { arg := a, annotation := none, pos := p2 }, { arg := b, annotation := none, pos := p3 }], vararg := none, kwonlyargs := [], kw_defaults := [], kwarg := none, defaults := [] }
def sup2 (a b : Str) (p0 p1 p2 p3 p4 p5 p6 q1 q2 q3 q4 q5 q6 q7 q8 : Pos) : List Stmt := [.Expr (.Call (.Attribute (.Call (.Name "super" p0) [] [] p1) "__init__" p2) [.Name a p3, .Name b p4] [] p5) p6,
  .Assign [.Attribute (.Name "self" q1) a q2] (.Name a q3) q4, .Assign [.Attribute (.Name "self" q5) b q6] (.Name b q7) q8]
/-- what __init__ leaves of a fresh exception at x -/
structure InitEnd (h h' : Heap) (x C dx t1 : Addr) (mA : Str → Option Value) : Prop where
  keep : ∀ b o, b ≠ x → h.get? b = some o → h'.get? b = some o
  obj : h'.get? x = some { cls := .ref C, dict := some dx, data := .fields #[.ref t1, .none, .none, .none, .bool false, .none] }
  dbig : h.objs.size ≤ dx
  dne : dx ≠ x
  ns : h'.Ns1 dx mA
section
variable {prog : Program} {w : World} {A : Around} {E : Value → Shared → Prop} {R : Result → Shared → Prop} {s : Shared} {K : Frag} {mg mb : Str → Option Value} {C fI cc cda : Addr} {qual : Str} {params : Arguments} {body : List Stmt} {scope : Scope}
theorem ldK {M : Model} {scope : Scope} {L a c : Addr} {cd : Value} {q : Str} {m : Str → Option Value} {x : Str} {pos : Pos} {v : Value} {Q : Value → Shared → Prop} (hn : s.heap.Ns L m) (hv : m x = some v) (h : Q v s) (hk : scope.kind = .function) (hl : scope.names.lookup x = some .local) (hd : (x == ("__debug__" : Str)) = false) :
    wpAny M A (eval (.Name x pos) (ksEnv q scope L a cd c)) Q E s := wpAny_Name (wpAny_loadName_local (env := ksEnv q scope L a cd c) hk hl hn hv h) hd
/-- super().__init__(..) bound at u, called: the args are laid anew -/
theorem call_mw {u e t0 : Addr} {rest : List Value} {Q : Value → Shared → Prop} {h : Heap} {g : Array GenState} {d : Drawn} {t : Nat} {os : OsState} {nm q : Str} {N : Addr} {bs bm : List Value} {hdct : Bool} {sn : List Str} {sub : List Value} {ab : Bool} {col : Option Bool} {dd : Option Addr} {k0 k1 k2 k3 k5 : Option Value}
    (hC : h.get? C = some (excClassObj nm q C N bs bm hdct sn sub ab col dd k0 k1 k2 k3 k5 "ValueError.__new__")) (he : h.get? e = some (excO C t0)) (hu : h.get? u = some (kxs_mw "ValueError.__init__" e)) (hrest : rest.length ≤ sizeLine)
    (hq : ∀ h' t1, (∀ b o, b ≠ e → h.get? b = some o → h'.get? b = some o) → h'.get? e = some (excO C t1) → Q .none ⟨h', g, d, t, os⟩) :
    wpAny (model prog w) A (call (.ref u) rest) Q E ⟨h, g, d, t, os⟩ := by
  refine wpAny_call (codeAny_of_tree ?_)
  show wpAny _ A.in1 (callAny (.ref u) ⟨rest, []⟩) _ _ _
  simp only [callAny]
  refine wpAny_bind (wpAny_load hu ?_)
  simp only [kxs_mw, show (Value.type "method-wrapper" == Value.type "method" || Value.type "method-wrapper" == Value.type "builtin_function_or_method" || Value.type "method-wrapper" == Value.type "method-wrapper") = true by decide, if_true]
  refine KFB.if_so (by decide) ?_
  refine wpAny_bind (check_bound_init F.excBase_ValueError.toExcCallFacts hC he rfl ?_)
  refine wpAny_bind (wpAny_pure (wpAny_pure ?_))
  refine ⟨plainId_quiet F.excBase_ValueError.init.plain _, codeAny_builtin F.excBase_ValueError.initEntry ?_⟩
  exact exc_init_tree (cls := .ref C) (t0 := t0) (dv := none) (c2 := .none) (c3 := .none) (b4 := .bool false) he hrest fun h' k e1 _ => hq h' _ k e1
theorem init2 {a b : Str} {p0 p1 p2 p3 p4 p5 p6 q1 q2 q3 q4 q5 q6 q7 q8 r1 r2 r3 : Pos} (T : SupC prog K mg C fI cc cda qual (iP2 a b r1 r2 r3) (sup2 a b p0 p1 p2 p3 p4 p5 p6 q1 q2 q3 q4 q5 q6 q7 q8) scope) (S : SupSc scope ["self", a, b])
    (hab : a ≠ b) (has : (a == ("self" : Str)) = false) (hbs : (b == ("self" : Str)) = false) (had : (a == ("__debug__" : Str)) = false) (hbd : (b == ("__debug__" : Str)) = false) (na : findIn K (.ref C) a = some none) (nb : findIn K (.ref C) b = some none)
    {x t0 : Addr} {v1 v2 : Value} (X : K.In s.heap) (G : s.heap.Ns mainGlobals mg) (B : s.heap.Ns builtinsNs mb) (hB : mb "super" = some (.type "super")) (hlim : s.heap.NoLimit) (hx : s.heap.get? x = some (excO C t0)) (hnx : K.lookup x = none) (hxG : x ≠ mainGlobals) (hxB : x ≠ builtinsNs) (hroom : A.depth < recursionLimit)
    (hbind : ∀ (kV doc pm cdv ct : Value) (an : Option Addr) (u v w : Value), bindArgs (ksFn "__init__" qual (iP2 a b r1 r2 r3) (sup2 a b p0 p1 p2 p3 p4 p5 p6 q1 q2 q3 q4 q5 q6 q7 q8) scope .none kV doc pm an cdv ct cc) ⟨[u, v, w], []⟩ = pure [(("self" : Str), u), (a, v), (b, w)])
    {pl : Env → Sem Bool} (hm : ∀ env : Env, eval (.Call (.Attribute (.Call (.Name "super" p0) [] [] p1) "__init__" p2) [.Name a p3, .Name b p4] [] p5) env = (do
      let ov ← attributeBase (.Call (.Name "super" p0) [] [] p1) "__init__" env (eval (.Call (.Name "super" p0) [] [] p1) env)
      standAt p2.atName
      let (f, first) ← holding [ov] (getMethod ov "__init__" (pl env))
      callWith p5 f first (backTo p5 (starEach [.Name a p3, .Name b p4] env)) []))
    (hq : ∀ h' tk dx t1, InitEnd s.heap h' x C dx t1 (fun y => if y = b then some v2 else if y = a then some v1 else none) → R (.ok (.ret .none)) { s with heap := h', toks := tk }) :
    codeAny (model prog w) A (.call (.ref fI) ⟨[.ref x, v1, v2], []⟩) R s := by
  obtain ⟨nm, q, N, bs, bm, sn, sub, ab, col, dd, k0, k1, k2, k3, k5, hC, hbm⟩ := T.cls
  obtain ⟨oc, od, doc, pm, an, kV, ct, osl, ho⟩ := T.fn
  obtain ⟨ccl, cdd, vs, ccs, fl, tf, hcode, hvs, hfile⟩ := T.file
  obtain ⟨cl, cld, csl, hcell⟩ := T.cell
  have hcl : clsIn K C = some { name := nm, bases := bs, mro := .ref C :: bm, ns := N, qualname := q, hasDict := true, slotNames := sn, subclasses := sub, abstract := ab, collection := col, hasDel := false } := by unfold clsIn; rw [hC] <;> rfl
  have pS := S.par "self" (by simp)
  have pa := S.par a (by simp)
  have pb := S.par b (by simp)
  refine ks_codeAny_call_defAt (fd := ksFn "__init__" qual (iP2 a b r1 r2 r3) (sup2 a b p0 p1 p2 p3 p4 p5 p6 q1 q2 q3 q4 q5 q6 q7 q8) scope .none kV doc pm an (.ref cda) ct cc) (body := sup2 a b p0 p1 p2 p3 p4 p5 p6 q1 q2 q3 q4 q5 q6 q7 q8) (binds := [("self", .ref x), (a, v1), (b, v2)]) hroom (X _ _ ho) rfl hlim (codeRec_of X T.hcd) rfl ?_ S.nocell ?_ (fun h₁ hns kp => ?_) S.co S.gen S.kind
  · exact BindsTo.of_eq (hbind _ _ _ _ _ _ _ _ _)
  · intro y hy
    simp only [List.mem_cons, List.not_mem_nil, or_false] at hy
    rcases hy with rfl | rfl | rfl
    · exact pS
    · exact pa
    · exact pb
  · show PySem.wpAt (model prog w) (A.deeper (ksEnv qual scope s.heap.objs.size fI (.ref cda) cc)) (.func _ (ksEnv qual scope s.heap.objs.size fI (.ref cda) cc)) (execs _ (ksEnv qual scope s.heap.objs.size fI (.ref cda) cc)) _ _ _
    have hL := Heap.lt_size hx
    have X1 : K.In h₁ := X.keeps kp
    have G1 : h₁.Ns mainGlobals mg := G.keeps kp
    have B1 : h₁.Ns builtinsNs mb := B.keeps kp
    have hx1 := kp _ _ hx
    have l0 : (fun y => (List.reverse [(("self" : Str), Value.ref x), (a, v1), (b, v2)]).lookup y) "self" = some (.ref x) := by
      show List.lookup ("self" : Str) [(b, v2), (a, v1), (("self" : Str), Value.ref x)] = _
      have e1 : (("self" : Str) == b) = false := by rw [beq_eq_false_iff_ne] at hbs ⊢; exact Ne.symm hbs
      have e2 : (("self" : Str) == a) = false := by rw [beq_eq_false_iff_ne] at has ⊢; exact Ne.symm has
      simp [List.lookup, e1, e2]
    have l1 : (fun y => (List.reverse [(("self" : Str), Value.ref x), (a, v1), (b, v2)]).lookup y) a = some v1 := by
      show List.lookup a [(b, v2), (a, v1), (("self" : Str), Value.ref x)] = _
      have e1 : (a == b) = false := beq_eq_false_iff_ne.mpr hab
      simp [List.lookup, e1]
    have l2 : (fun y => (List.reverse [(("self" : Str), Value.ref x), (a, v1), (b, v2)]).lookup y) b = some v2 := by
      show List.lookup b [(b, v2), (a, v1), (("self" : Str), Value.ref x)] = _
      simp [List.lookup]
    generalize (fun y => (List.reverse [(("self" : Str), Value.ref x), (a, v1), (b, v2)]).lookup y) = m at hns l0 l1 l2
    -- super().__init__(a, b)
    refine ks_wpAt_execs_cons (ks_wpAt_Expr_any (hi := by unfold interactive; rw [show (ksEnv qual scope s.heap.objs.size fI (.ref cda) cc).scope.kind = .function from S.kind]; rfl) (ks_wpAt_MethodCall ?_ (hm _)))
    refine ks_wpAt_super_base (env := ksEnv qual scope s.heap.objs.size fI (.ref cda) cc) S.sup S.cls rfl rfl (X1 _ _ ho) rfl rfl rfl (X1 _ _ hcode) rfl hvs hfile T.top ?_
    refine ks_loadName_global S.kind S.sup (loadGlobal_builtin (env := ksEnv qual scope s.heap.objs.size fI (.ref cda) cc) G1 T.gS B1 hB ⟨rfl, ?_⟩)
    refine wpAny_loadName_free S.kind S.cls rfl ⟨_, X1 _ _ hcell, rfl⟩ ?_
    refine wpAny_loadName_local S.kind pS hns l0 ?_
    obtain ⟨hp, g, d, tk, os⟩ := s
    refine ks_wpAny_isType_cls (X1 _ _ hC) rfl ⟨rfl, ?_⟩
    refine ks_wpAny_call_super (X1 _ _ hC) rfl hx1 rfl (fun c e => by cases e) (looks_mroIn X1 T.self) (fun h2 e2 k2 => ?_)
    have X2 : K.In h2 := X1.keeps k2
    have hI : W.Looks (model prog w) h2 (isInstance (.ref x) (.type "ValueError")) true := (show W.InstAt h2 x (excO C t0) C none from ⟨k2 _ _ hx1, rfl, rfl, trivial⟩).type.andThen (looks_subIn X2 T.sVE)
    have hxC : x ≠ C := fun z => by rw [z, hC] at hnx; cases hnx
    have hsup := T.sup
    unfold ks_superIn at hsup
    rw [hcl] at hsup
    refine kxs_getMethod kxs_ValueError e2 (looks_opaque X2 T.any) (l₀ := .ref C :: bm) (fun A Q E s k q => wpAny_bind ((looks_clsIn X2 hcl) A _ E s k (wpAny_pure q))) rfl X2 hsup hI hxC rfl ?_
    have k3 : ∀ b o, h2.get? b = some o → (h2.push (kxs_mw "ValueError.__init__" x)).get? b = some o := fun b o e => Heap.get?_push_of_some _ e
    have hu : (h2.push (kxs_mw "ValueError.__init__" x)).get? h2.objs.size = some (kxs_mw "ValueError.__init__" x) := Heap.get?_push_at rfl rfl
    have hns2 := (hns.keeps k2).keeps k3
    refine kxs_callWith (i := "ValueError.__init__") (x := x) rfl (evalArgs_plain ?_)
    refine Calls.spliced_cons (ldK hns2 l1 ?_ S.kind pa had)
    refine Calls.spliced_cons (ldK hns2 l2 ?_ S.kind pb hbd)
    refine Calls.spliced_nil ⟨hu, ?_⟩
    refine call_mw (k3 _ _ (k2 _ _ (X1 _ _ hC))) (k3 _ _ (k2 _ _ hx1)) hu (by rw [sizeLine_eq]; show 2 ≤ _; omega) fun h4 t1 k4 hx4 => ?_
    have nLx : hp.objs.size ≠ x := Nat.ne_of_gt hL
    have hns4 : h4.Ns hp.objs.size m := hns2.at (fun o e => k4 _ _ nLx e)
    -- self.a = a
    have kx : ∀ b o, b ≠ x → hp.get? b = some o → h4.get? b = some o := fun b o hb e => k4 _ _ hb (k3 _ _ (k2 _ _ (kp _ _ e)))
    have nxK : ∀ b o, K.lookup b = some o → b ≠ x := fun b o e z => by rw [z, hnx] at e; cases e
    have X4 : K.In h4 := fun b o e => kx b o (nxK b o e) (X b o e)
    have hcd : refsVE (.ref C :: bm) = true := hbm
    refine wpAt_of_wpAny ?_
    refine wpAny_execs_cons (plainObj_wpAny_Assign_Attribute ?_ rfl)
    refine ldK hns4 l1 (ldK hns4 l0 ?_ S.kind pS rfl) S.kind pa had
    refine set_plain X4 (ox := excO C t1) (od := none) ⟨hx4, rfl, rfl, trivial⟩ T.sa ?_
    refine exc_osa X4 hx4 hcl hcd rfl na fun h5 tk5 dx k5 dn dne hx5 hn5 => ?_
    have hns5 : h5.Ns hp.objs.size m := hns4.at (fun o e => k5 _ _ nLx e)
    have X5 : K.In h5 := fun b o e => k5 b o (nxK b o e) (X4 b o e)
    -- self.b = b
    refine wpAny_execs_cons (plainObj_wpAny_Assign_Attribute ?_ rfl)
    refine ldK hns5 l2 (ldK hns5 l0 ?_ S.kind pS rfl) S.kind pb hbd
    obtain ⟨oD, esD, epD, hoD, hdD, hrD⟩ := hn5
    have hn5 : h5.Ns1 dx (fun y => if y = a then some v1 else none) := ⟨oD, esD, epD, hoD, hdD, hrD⟩
    have l4 := hns4.lt
    have hw : Within (fun y => if y = a then some v1 else none) [a] := Within.cons a v1 Within.nil
    refine set_plain X5 (ox := { cls := .ref C, dict := some dx, data := .fields #[.ref t1, .none, .none, .none, .bool false, .none] }) (od := some oD) ⟨hx5, rfl, rfl, hoD⟩ T.sa ?_
    refine OEX.osa_old X5 hx5 hn5 hw (by simp) hcl hcd rfl nb fun h6 tk6 k6 hn6 => ?_
    have ndx : ∀ c o, hp.get? c = some o → c ≠ dx := fun c o e z => by
      have l3 : c < hp.objs.size := Heap.lt_size e
      have l5 : hp.objs.size < h4.objs.size := l4
      have l6 : h4.objs.size ≤ dx := dn
      rw [z] at l3
      exact absurd (Nat.lt_of_lt_of_le (Nat.lt_trans l3 l5) l6) (Nat.lt_irrefl _)
    refine wpAny_execs_nil (hq h6 tk6 dx t1 ⟨fun c o hc e => k6 c o (ndx c o e) (k5 c o hc (kx c o hc e)), k6 x _ (Ne.symm dne) hx5, ?_, dne, hn6⟩)
    have l5 : hp.objs.size < h4.objs.size := l4
    have l6 : h4.objs.size ≤ dx := dn
    exact Nat.le_of_lt (Nat.lt_of_lt_of_le l5 l6)
end
end MIX
namespace MIX
open PySem PySem.W PySem.Calls PyProof.Rows PySem.HandSPX
/-- a made exception -/
structure OwnMade (h h' : Heap) (e C d : Addr) (mA : Str → Option Value) : Prop where
  keep : ∀ b o, h.get? b = some o → h'.get? b = some o
  new : h.objs.size ≤ e
  obj : ∃ oe vs, h'.get? e = some oe ∧ oe.cls = .ref C ∧ oe.dict = some d ∧ oe.data = .fields vs ∧ vs[1]? = some .none
  dbig : h.objs.size ≤ d
  dne : d ≠ e
  ns : h'.Ns1 d mA
section
variable {prog : Program} {w : World} {A : Around} {E : Value → Shared → Prop} {R : Result → Shared → Prop} {s : Shared} {K : Frag} {mg mb : Str → Option Value} {C fI cc cda : Addr} {qual : Str} {params : Arguments} {body : List Stmt} {scope : Scope}
theorem made_of (T : SupC prog K mg C fI cc cda qual params body scope) {us : List Value} {mA : Str → Option Value} (X : K.In s.heap) (G : s.heap.Ns mainGlobals mg) (B : s.heap.Ns builtinsNs mb) (hlim : s.heap.NoLimit) (hroom : A.depth + 1 < recursionLimit) (hl : us.length ≤ sizeLine)
    (init : ∀ (s' : Shared) (x t0 : Addr) (A : Around) (R : Result → Shared → Prop), K.In s'.heap → s'.heap.Ns mainGlobals mg → s'.heap.Ns builtinsNs mb → s'.heap.NoLimit → s'.heap.get? x = some (excO C t0) → K.lookup x = none → x ≠ mainGlobals → x ≠ builtinsNs → A.depth < recursionLimit →
      (∀ h' tk dx t1, InitEnd s'.heap h' x C dx t1 mA → R (.ok (.ret .none)) { s' with heap := h', toks := tk }) → codeAny (model prog w) A (.call (.ref fI) ⟨.ref x :: us, []⟩) R s')
    (hq : ∀ h' tk e d, OwnMade s.heap h' e C d mA → R (.ok (.ret (.ref e))) { s with heap := h', toks := tk }) :
    codeAny (model prog w) A (.call (.ref C) ⟨us, []⟩) R s := by
  obtain ⟨nm, q, N, bs, bm, sn, sub, ab, col, dd, k0, k1, k2, k3, k5, hC, hbm⟩ := T.cls
  obtain ⟨hp, g, dr, tk, os⟩ := s
  have k : ∀ b o, hp.get? b = some o → ((hp.push (kdv_tup us)).push (excO C hp.objs.size)).get? b = some o := fun b o e => Heap.get?_push_of_some _ (Heap.get?_push_of_some _ e)
  have hget : ((hp.push (kdv_tup us)).push (excO C hp.objs.size)).get? (hp.objs.size + 1) = some (excO C hp.objs.size) := by heap_get
  have big : ∀ b o, hp.get? b = some o → hp.objs.size + 1 ≠ b := fun b o e z => by
    have l : b < hp.objs.size := Heap.lt_size e
    rw [← z] at l
    exact absurd (Nat.lt_of_succ_lt l) (Nat.lt_irrefl _)
  have hnx : K.lookup (hp.objs.size + 1) = none := by
    cases e : K.lookup (hp.objs.size + 1) with
    | none => rfl
    | some o => exact absurd rfl (big _ o (X _ _ e))
  have nG : hp.objs.size + 1 ≠ mainGlobals := by
    obtain ⟨o, _, _, e, _⟩ := G
    exact big _ o e
  have nB : hp.objs.size + 1 ≠ builtinsNs := by
    obtain ⟨o, _, _, e, _⟩ := B
    exact big _ o e
  refine call_own F.excBase_ValueError (fun X => refsVE_contains X bm hbm) (X _ _ hC) (looks_findIn X T.iC) (fun self => bind_fn X self T.tF) hl ?_
  refine init ⟨(hp.push (kdv_tup us)).push (excO C hp.objs.size), g, dr, tk, os⟩ (hp.objs.size + 1) hp.objs.size _ _ (X.keeps k) (G.keeps k) (B.keeps k) (hlim.keeps k) hget hnx nG nB (by show A.depth + 1 < recursionLimit; exact hroom) fun h' tk' dx t1 ⟨k', hx, dn, dne, hns⟩ => ?_
  have old : ∀ b o, hp.get? b = some o → h'.get? b = some o := fun b o e => k' b o (Nat.ne_of_lt (Nat.lt_succ_of_lt (Heap.lt_size e))) (k b o e)
  have z : hp.objs.size + 1 + 1 ≤ dx := by
    have q := dn
    rw [Heap.size_push, Heap.size_push] at q
    exact q
  exact ⟨rfl, hq h' tk' (hp.objs.size + 1) dx ⟨old, Nat.le_succ _, ⟨_, _, hx, rfl, rfl, rfl, rfl⟩, Nat.le_trans (Nat.le_trans (Nat.le_succ _) (Nat.le_succ _)) z, dne, hns⟩⟩
end
end MIX

set_option Elab.async false
set_option linter.all false
set_option maxRecDepth 100000
set_option maxHeartbeats 4000000
/-! raise C(a, b). -/
namespace MI
open PySem L2 PyProof.Rows

theorem relO2 {v1 v2 : V} {u1 u2 : Value} {a b : Str} (hab : a ≠ b) (r1 : RelV v1 u1) (r2 : RelV v2 u2) (f : Str) : RelO (List.lookup f [(a, v1), (b, v2)]) (if f = b then some u2 else if f = a then some u1 else none) := by
  by_cases hb : f = b
  · subst hb
    have e : (f == a) = false := beq_eq_false_iff_ne.mpr (Ne.symm hab)
    simp only [if_true, List.lookup, e, beq_self_eq_true]
    exact r2
  · rw [if_neg hb]
    have eb : (f == b) = false := beq_eq_false_iff_ne.mpr hb
    by_cases ha : f = a
    · subst ha
      simp only [if_true, List.lookup, beq_self_eq_true]
      exact r1
    · rw [if_neg ha]
      have ea : (f == a) = false := beq_eq_false_iff_ne.mpr ha
      simp only [List.lookup, ea, eb]
      trivial
/-- a class of two fields, as the raise wants it -/
structure Sup2 (prog : Program) (K : PySem.W.Frag) (mg : Str → Option Value) (C : Addr) (a b : Str) : Prop where
  ex : ∃ fI cc cda qual params body scope, MIX.SupC prog K mg C fI cc cda qual params body scope ∧
    ∀ (w : World) (mb : Str → Option Value) (v1 v2 : Value) (s' : Shared) (x t0 : Addr) (A : Around) (R : Result → Shared → Prop), mb "super" = some (.type "super") → K.In s'.heap → s'.heap.Ns mainGlobals mg → s'.heap.Ns builtinsNs mb → s'.heap.NoLimit → s'.heap.get? x = some (PySem.HandSPX.excO C t0) → K.lookup x = none → x ≠ mainGlobals → x ≠ builtinsNs → A.depth < recursionLimit →
      (∀ h' tk dx t1, MIX.InitEnd s'.heap h' x C dx t1 (fun y => if y = b then some v2 else if y = a then some v1 else none) → R (.ok (.ret .none)) { s' with heap := h', toks := tk }) → codeAny (model prog w) A (.call (.ref fI) ⟨.ref x :: [v1, v2], []⟩) R s'
  kC : PySem.W.keepIn K (.ref C) = true
  exC : PySem.W.subIn K (.ref C) (.type "BaseException") = some true
  tyC : PySem.W.typeIn K (.ref C) = some (.type "type")
  ab : a ≠ b
section
variable {X : Cx} {C : Addr} {a b : Str}
def tMk2 (C : Addr) (a b : Str) (ta : TA) : L2.St → Hp → XK → Prop := fun σ H Q => ta σ H fun vs H1 => ∃ v1 v2, vs = [v1, v2] ∧ ∀ d, H1 d = none → Q (.ref C) (some d) (upd H1 d (.xd [(a, v1), (b, v2)]))
theorem pmk_2 {x : Str} {e : Expr} {es : List Expr} {ta : TA} {p pos : Pos} {k : Nat} (T : Sup2 X.prog X.K X.mg C a b) (hm : X.mg x = some (.ref C)) (hr : Room k X.A) (ha : PA X (e :: es) ta) (hg : Gl X x) (hdb : (x == ("__debug__" : Str)) = false)
    (he : starEach (e :: es) X.env = (false, eval e X.env) :: starEach es X.env) (hpl : (backTo pos (starEach es X.env)).any (·.1) = false) :
    PMk X (.Call (.Name x p) (e :: es) [] pos) (tMk2 C a b ta) := by
  intro pins s σ H Q I h
  refine wpAny_Call_Name_kw (ld_glob I hg hm ?_ hdb)
  refine PySem.W.callWith_K (h₀ := X.base) I.ok.mod.kin T.kC (thn (ha.run pos pins s σ H _ I h) fun us s1 hh => ?_) he hpl
  obtain ⟨vs, H1, I1, r1, v1, v2, ev, q1⟩ := hh
  subst ev
  refine ⟨I1.kIn, ?_⟩
  match us, r1 with
  | [u1, u2], .cons rv1 (.cons rv2 .nil) =>
    show wpAny _ _ (call (.ref C) [u1, u2]) _ _ _
    have hlim := I1.nolimit
    obtain ⟨fI, cc, cda, qual, params, body, scope, TS, init⟩ := T.ex
    obtain ⟨mb, hb1, hb2⟩ := I1.mod.blt
    have hBk := hb1.keeps I1.bk
    have hGk := I1.mod.glob.keeps I1.bk
    have kIn := I1.kIn
    obtain ⟨hp, g, dr, tk, os⟩ := s1
    refine wpAny_call (MIX.made_of TS (mb := mb) (us := [u1, u2]) kIn hGk hBk hlim (by have := hr.dp; omega) (by rw [sizeLine_eq]; show 2 ≤ _; omega) (fun s' x t0 A R => init X.w mb u1 u2 s' x t0 A R ((hb2 "super" (by decide)).trans (by rfl))) fun h' tk' e d M => ?_)
    show MkP X pins σ Q (.ref e) ⟨h', g, dr, tk', os⟩
    obtain ⟨oe, fv, hoe, hc, hd, hdat, h1⟩ := M.obj
    have hns := M.ns
    obtain ⟨G', g1, g2⟩ := restrict h' fun b => decide (b ≠ e)
    have gk : ∀ b, b ≠ e → G'.get? b = h'.get? b := fun b hb => g1 b (decide_eq_true hb)
    have ge : G'.get? e = none := g2 e (by simp)
    have old : ∀ b o, hp.get? b = some o → G'.get? b = some o := fun b o q => (gk b (Nat.ne_of_lt (Nat.lt_of_lt_of_le (Heap.lt_size q) M.new))).trans (M.keep b o q)
    have ob : ObjOk X.prog X.w (upd H1 d (.xd [(a, v1), (b, v2)])) G' d (.xd [(a, v1), (b, v2)]) := ⟨_, hns.at (fun o q => (gk d M.dne).trans q), fun f => relO2 T.ab rv1 rv2 f⟩
    have J : Inv X pins σ (upd H1 d (.xd [(a, v1), (b, v2)])) ⟨G', g, dr, tk', os⟩ := I1.laid (t' := tk') old M.dbig ob
    refine ⟨e, oe, fv, ⟨G', g, dr, tk', os⟩, _, .ref C, some d, rfl, J, fun b o q => ?_, ge, hoe, ⟨hc, hd⟩, hdat, h1, ?_, rfl, I1.bare, raises_own T.exC T.tyC, q1 d (I1.hok.fresh M.dbig)⟩
    · by_cases hb : b = e
      · have q' : G'.get? b = some o := q
        rw [hb, ge] at q'; cases q'
      · exact (gk b hb).symm.trans q
    · rw [upd_ne (Ne.symm M.dne)]
      exact I1.hok.fresh M.new
def sRaise2 (c : Nat) (a b : Str) (ms : M (List D)) : MS := fun δ π => (ms δ π).sb δ fun ds π1 => match ds with
  | [d, e] => .exc ⟨c, [(a, d), (b, e)]⟩ δ π1
  | _ => .stuck
theorem ts_raise2 {g : G} {W : WX} {x : Str} {e : Expr} {es : List Expr} {ms : M (List D)} {c : Nat} {p pos pos2 : Pos} {k : Nat} (hK : g.K = X.K) (hc : X.calm = true) (T : Sup2 X.prog X.K X.mg (g.cadr c) a b) (hm : X.mg x = some (.ref (g.cadr c))) (hr : Room k X.A) (tk : Takes X W) (ha : PA X (e :: es) (TAs g W ms)) (hg : Gl X x) (hdb : (x == ("__debug__" : Str)) = false := by decide)
    (he : starEach (e :: es) X.env = (false, eval e X.env) :: starEach es X.env := by rfl) (hpl : (backTo pos (starEach es X.env)).any (·.1) = false := by rfl) :
    PS X (.Raise (some (.Call (.Name x p) (e :: es) [] pos)) none pos2) (TM g W (sRaise2 c a b ms)) :=
  wkS (ps_raise hc tk (pmk_2 T hm hr ha hg hdb he hpl)) fun Dn σ H ⟨F, α, δ, π, r, h⟩ => ⟨F, α, δ, π, r, (sb_post (R := RA g F) r h).imp fun vs H1 ⟨α1, π1, ds, le, r1, rd, h2⟩ => by
    match ds, vs, rd, h2 with
    | [d, e], [v1, v2], .cons rd (.cons re .nil), h2 =>
      refine ⟨v1, v2, rfl, fun p hp => ?_⟩
      obtain ⟨r2, le2, h3, h4⟩ := r1.p.fresh (o := .xd [(a, v1), (b, v2)]) hp
      exact h2 α1 σ _ _ _ le2 (r1.with le2 r2) ⟨rfl, p, _, rfl, upd_same, h3, h4, .cons (rd.mono le2) (.cons (re.mono le2) .nil)⟩⟩
end
end MI

set_option Elab.async false
set_option linter.all false
set_option maxRecDepth 100000
set_option maxHeartbeats 4000000
/-! try: .. except C as n: m = n: the exception is kept as a value. -/
namespace MI
open PySem L2 PyProof.Rows

section
variable {X : Cx} {pins : List (Addr × Obj)} {σ : L2.St} {H : Hp} {s : Shared}
theorem unsuiteP {a : Addr} {q : Addr × Obj} {pn' : List (Addr × Obj)} (I : Inv (X.suite a (q :: (X.pn ++ pins))) pn' σ H s) (ok : X.Ok) : Inv X (q :: pins) σ H s :=
  ⟨ok, I.os, I.bare, I.base, I.loc, I.cell, I.free, I.freeC, fun p hp => I.pin p (by
    rcases List.mem_append.mp hp with h | h
    · exact List.mem_append_left _ (List.mem_cons_of_mem _ (List.mem_append_left _ h))
    · rcases List.mem_cons.mp h with h | h
      · exact List.mem_append_left _ (by rw [h]; exact List.mem_cons_self)
      · exact List.mem_append_left _ (List.mem_cons_of_mem _ (List.mem_append_right _ h))), I.hok, I.len⟩
/-- a pinned thing is tracked -/
theorem track {a : Addr} {oe : Obj} {φ : Heap → Prop} (I : Inv X ((a, oe) :: pins) σ H s) (h0 : X.s_0.heap.get? a = none) (hp : ∀ p ∈ X.pn ++ pins, p.1 ≠ a) (hc : ∀ x c, X.env.cells.lookup x = some c → c ≠ a) (new : ObjOk X.prog X.w (upd H a (.ext φ)) s.heap a (.ext φ)) : Inv X pins σ (upd H a (.ext φ)) s := by
  obtain ⟨ha, na, nL, nF, _⟩ := I.pin (a, oe) (List.mem_append_right _ List.mem_cons_self)
  have nb : ∀ b o, X.s_0.heap.get? b = some o → b ≠ a := fun b o e z => by rw [z, h0] at e; cases e
  refine ⟨I.ok, I.os, I.bare, ⟨fun b o e n => I.base.keep b o e n, fun b o e n => I.base.slot b o e n, fun b o e n hx => ?_, I.base.there, fun b xs e => ?_, fun b o u e => ?_, fun b ps e => ?_⟩, I.loc, I.cell, ?_, fun x c e => ?_, fun p h => ?_, ?_, I.len⟩
  · rw [upd_ne (nb b o e)]; exact I.base.free b o e n hx
  · have q := I.base.tups b xs e
    rw [upd_ne (ne_of_none q na)]; exact q
  · have q := I.base.frzs b o u e
    rw [upd_ne (ne_of_none q na)]; exact q
  · obtain ⟨m, q⟩ := I.base.tbls b ps e
    exact ⟨m, by rw [upd_ne (ne_of_none q na)]; exact q⟩
  · rw [upd_ne (Ne.symm nL)]; exact I.free
  · rw [upd_ne (hc x c e)]; exact I.freeC x c e
  · obtain ⟨e1, e2, e3⟩ := I.pin p (by
      rcases List.mem_append.mp h with h | h
      · exact List.mem_append_left _ h
      · exact List.mem_append_right _ (List.mem_cons_of_mem _ h))
    exact ⟨e1, by rw [upd_ne (hp p h)]; exact e2, e3⟩
  · intro b u e
    by_cases hb : b = a
    · subst hb; rw [upd_same] at e; cases e; exact new
    · rw [upd_ne hb] at e
      exact (I.hok b u e).stay (fun c v _ q => q) (fun c q => by rw [upd_ne (ne_of_none q na)]; exact q) fun c xs q => by rw [upd_ne (ne_of_none q na)]; exact q
end

/-- what is wished of an exception: it is kept in slot j -/
def wKeep (K : PySem.W.Frag) (c : Value) (i j : Nat) (Wout : WX) (D : Ends) : WX := fun cls d σ H =>
  ∃ b, PySem.W.exmOne K cls c = some b ∧ (b = true → ∃ dx, d = some dx ∧ ∀ a, H a = none → D.nx (((σ.set i (some (.ref a))).set j (some (.ref a))).set i none) (upd H a (ExT cls dx a))) ∧ (b = false → Wout cls d σ H)
section
variable {X : Cx} {x n m : Str} {c : Value} {i j : Nat} {body : List Stmt} {np n2 m2 p3 pos pos' : Pos} {tb : WX → TS} {Wout : WX}
theorem ps_try_keep (hs : X.stack = X.env :: X.outer) (hf : X.env.frame = some X.env.locals) (hex : X.ex = []) (hN : X.N.Nodup) (hi : X.N[i]? = some n) (hj : X.N[j]? = some m) (hij : i ≠ j) (hln : X.env.kindOf n = some .local) (hlm : X.env.kindOf m = some .local) (hc : Names X x c) (tk : Takes X Wout)
    (hdn : (n == ("__debug__" : Str)) = false) (hcn : (n == ("__classdict__" : Str)) = false) (hsw : ∀ (A : Cx), A.env = X.env → swapsWith (.Name n n2) (some (.Name m m2)) p3.line A.env = pure false)
    (hb : ∀ (W : WX) (pn : List (Addr × Obj)) (xe : Value → Shared → Prop), Takes (X.tr pn xe) W → PassesOwn (model X.prog X.w) X.A X.env xe → PSs (X.tr pn xe) body (tb W)) :
    PS X (.Try body [.ExceptHandler (some (.Name x np)) (some n) [.Assign [.Name m m2] (.Name n n2) p3] pos'] [] [] pos) (fun D σ H => tb (wKeep X.K c i j Wout D) D σ H) := by
  refine ⟨fun pins s σ H D I h => ?_⟩
  have ok := I.ok
  have hfr : X.A.frames = some (X.env :: X.outer) := by rw [ok.frames, hs]
  have hloc : Loc X.env.scope n := .inl hln
  refine wpAny_Try_except ?_
  refine wpAny_mono ((hb (wKeep X.K c i j Wout D) (X.pn ++ pins) (fun e s₁ => wpAny (model X.prog X.w) X.A (noteFrame e X.env) (fun _ s₂ => wpAny (model X.prog X.w) X.A (setFlight e none) (fun _ s₃ =>
    wpAny (model X.prog X.w) X.A (handleBy e X.env [.ExceptHandler (some (.Name x np)) (some n) [.Assign [.Name m m2] (.Name n n2) p3] pos']) (SP X pins D) X.xe s₃) X.xe s₂) X.xe s₁) (fun u s' xx => ?_) PassesOwn.looking).run [] s σ H D (I.toTry _) h) (fun f s1 hsp => ?_) (fun e s1 he => he)
  · -- the catch
    obtain ⟨a, B, sI, pins', σ', H', cls, d, rfl, J', nb, up, sky, na, os, ag, b, hb1, hyes, hno⟩ := xx
    have J : Inv X pins σ' H' sI := J'.ofTry ok
    have sky' : Sky B (X.env :: X.outer) a (Zc cls d) X.env.locals s'.heap := by rw [← hs]; exact sky
    show wpAny _ X.A (noteFrame (.ref a) X.env) _ _ _
    refine Sky.land Zc.steady hfr hf sky' fun h3 fl3 up3 => ?_
    have J3 : Inv X pins σ' H' { s' with heap := h3 } := J.landed nb fl3.1 (up.trans up3) os ag
    obtain ⟨oe3, vs3, he3, hz3, hd3⟩ := fl3.there
    have notFr : ∀ {h : Heap} {o : Obj} {vs : Array Value}, h.FunFrames B (X.env :: X.outer) → h.get? a = some o → o.data = .fields vs → a ∉ frs (X.env :: X.outer) := fun {h o vs} ff e dd hm => by
      obtain ⟨_, o', e', hnf⟩ := ff.mem hm
      rw [e] at e'; cases e'
      exact hnf _ dd
    have nfr := notFr fl3.2.2.1 he3 hd3
    have aI : sI.heap.get? a = none := by
      cases e : sI.heap.get? a with
      | none => rfl
      | some o =>
        have z := nb a o e (by rw [hs]; exact nfr)
        rw [fl3.2.1] at z; cases z
    have a0 : X.s_0.heap.get? a = none := by
      cases e : X.s_0.heap.get? a with
      | none => rfl
      | some o =>
        obtain ⟨o', z⟩ := J.base.there a o e (by rw [hex]; simp)
        rw [aI] at z; cases z
    have aP : ∀ p ∈ X.pn ++ pins, p.1 ≠ a := fun p hp z => by
      have q := (J.pin p hp).1
      rw [z, aI] at q; cases q
    have aC : ∀ x c, X.env.cells.lookup x = some c → c ≠ a := fun x c e z => by
      obtain ⟨v, o, q, _⟩ := J.cell x c e
      rw [z, aI] at q; cases q
    have nL : a ≠ X.env.locals := fun z => nfr (List.mem_filterMap.mpr ⟨X.env, List.mem_cons_self, by rw [hf, z]⟩)
    have nF : a ∉ X.fs := fun hm => by
      obtain ⟨e, he, q⟩ := List.mem_filterMap.mp hm
      exact nfr (List.mem_filterMap.mpr ⟨e, List.mem_cons_of_mem _ he, q⟩)
    have S3 := J3.suite he3 hd3 na nL nF
    refine wpAny_handleBy_cons (codeAny_handlers_test ?_) (by intro q; cases q)
    have LT : PySem.W.Looks (model X.prog X.w) h3 (typeOf (.ref a)) cls := fun A Q E s k q => wpAny_typeOf_ref (k _ _ he3) (by rw [hz3.1]; exact q)
    have LM := PySem.W.exm_one (M := model X.prog X.w) (J3.kIn) LT hb1
    have test : ∀ {Q : Value → Shared → Prop} {E : Value → Shared → Prop}, Q c { s' with heap := h3 } → wpAny (model X.prog X.w) (X.A.mark (some (.ref a))) (eval (.Name x np) X.env) Q E { s' with heap := h3 } := fun {Q E} q => by
      obtain ⟨hg, hdbg, hm | ⟨hm, hv, hnn⟩⟩ := hc
      · exact ld_glob (X := X.suite a ((a, oe3) :: (X.pn ++ pins))) S3 hg hm q hdbg
      · exact ld_blt (X := X.suite a ((a, oe3) :: (X.pn ++ pins))) S3 hg hm hv q hnn hdbg
    refine test (LM.here ?_)
    cases b with
    | true =>
      obtain ⟨dx, ed, wish⟩ := hyes rfl
      refine codeAny_handlers_suite_as ?_
      refine HandSPX.lands_againZ fl3 fun h4 fl4 up4 => ?_
      have J4 : Inv X pins σ' H' { s' with heap := h4 } := J.landed nb fl4.1 ((up.trans up3).trans up4) os ag
      obtain ⟨oe4, vs4, he4, hz4, hd4⟩ := fl4.there
      have S4 := J4.suite he4 hd4 na nL nF
      refine store_ok (X := X.suite a ((a, oe4) :: (X.pn ++ pins))) (v := .ref a) S4 hN hi hloc rfl (fun s5 S5 => ?_) (.inr hln)
      have lenσ : σ'.length = X.N.length := J.len
      have hil : i < σ'.length := by rw [lenσ]; exact (List.getElem?_eq_some_iff.mp hi).1
      have hsu : PSs (X.suite a ((a, oe4) :: (X.pn ++ pins))) [.Assign [.Name m m2] (.Name n n2) p3] (tAsg (tVar i) (gName j)) := pss_one (ps_set (X := X.suite a ((a, oe4) :: (X.pn ++ pins))) hN hj (.inl hlm) (pe_var hi (.inl hln) hdn hcn) (hsw (X.suite a ((a, oe4) :: (X.pn ++ pins))) rfl) (.inr hlm))
      refine wpAny_mono (hsu.run [] s5 _ H' { nx := fun σ6 H6 => σ6 = (σ'.set i (some (.ref a))).set j (some (.ref a)) ∧ H6 = H', rt := fun _ _ => False, bk := fun _ _ => False, ct := fun _ _ => False } S5 ⟨.ref a, List.getElem?_set_self hil, rfl, rfl⟩) (fun f s6 hsp => ?_) (fun _ _ z => False.elim z)
      cases f with
      | next =>
        obtain ⟨σ6, H6, S6, e6, eH⟩ := hsp
        subst e6; subst eH
        refine gone_ok (unsuiteP S6 ok) hN hi hln fun s7 J7 => ?_
        obtain ⟨ha7, _⟩ := J7.pin (a, oe4) (List.mem_append_right _ List.mem_cons_self)
        subst ed
        exact ⟨_, _, track (φ := fun h => ∃ (oe : Obj) (vs : Array Value), h.get? a = some oe ∧ Zc cls (some dx) oe ∧ oe.data = .fields vs) J7 a0 aP aC ⟨⟨oe4, vs4, ha7, hz4, hd4⟩, ⟨oe4, ha7⟩, fun h1 h2 ⟨o, v, q, r⟩ k => ⟨o, v, k o q, r⟩⟩, wish a na⟩
      | brk => obtain ⟨_, _, _, q⟩ := hsp; exact q.elim
      | cont => obtain ⟨_, _, _, q⟩ := hsp; exact q.elim
      | ret u => obtain ⟨_, _, _, _, _, q⟩ := hsp; exact q.elim
    | false =>
      show wpAny _ X.A (handleBy (.ref a) X.env []) _ _ _
      refine wpAny_handleBy_nil ?_
      obtain ⟨k1, k2, k3, oe, vs, T, oT, ts', he, hz, hd, h1, hr⟩ := id fl3
      unfold PySem.passOn
      refine wpAny_bind (wpAny_field he hd h1 ?_)
      rw [if_neg (show ¬ ((Value.ref T == Value.none) = true) from by simp)]
      have fin : wpAny (model X.prog X.w) X.A (setFlight (.ref a) X.env.frame) (fun _ s4 => wpAny (model X.prog X.w) X.A (throw (.ref a) : Sem Flow) (SP X pins D) X.xe s4) X.xe { s' with heap := h3 } := by
        rw [hf]
        refine HandSPX.setFlight_upZ fl3 fun h4 hh4 up4 => wpAny_throw (tk _ _ ?_)
        exact ⟨a, B, sI, pins, σ', H', cls, d, rfl, J, nb, (up.trans up3).trans up4, .inr (.inr (by rw [hs]; exact hh4)), na, os, ag, hno rfl⟩
      first
        | exact wpAny_bind (wpAny_pure (wpAny_bind fin))
        | exact wpAny_bind fin
  · cases f with
    | next =>
      obtain ⟨σ', H', J', q⟩ := hsp
      exact wpAny_execs_nil ⟨σ', H', J'.ofTry ok, q⟩
    | brk =>
      obtain ⟨σ', H', J', q⟩ := hsp
      exact ⟨σ', H', J'.ofTry ok, q⟩
    | cont =>
      obtain ⟨σ', H', J', q⟩ := hsp
      exact ⟨σ', H', J'.ofTry ok, q⟩
    | ret u =>
      obtain ⟨v, σ', H', J', r, q⟩ := hsp
      exact ⟨v, σ', H', J'.ofTry ok, r, q⟩
end
end MI
namespace MI
open PySem L2 PyProof.Rows
/-- which classes an except clause catches -/
def sTry (cau : Nat → Option Bool) (i j : Nat) (mb : MS) : MS := fun δ π => match mb δ π with
  | .exc x δ1 π1 => match cau x.c with
    | some true => .nx (((δ1.set i none).set j (some (.exv x.c x.fs))).set i none) π1
    | some false => .exc x δ1 π1
    | none => .stuck
  | r => r
theorem ts_try {X : Cx} {x n m : Str} {c : Value} {body : List Stmt} {np n2 m2 p3 pos pos' : Pos} {mb : MS} {g : G} {W : WX} {cau : Nat → Option Bool} (i j : Nat) (hK : g.K = X.K) (hs : X.stack = X.env :: X.outer) (hf : X.env.frame = some X.env.locals) (hex : X.ex = []) (hN : X.N.Nodup) (hc : Names X x c) (tk : Takes X W)
    (hcau : ∀ k b, cau k = some b → PySem.W.exmOne g.K (.ref (g.cadr k)) c = some b)
    (hb : ∀ (W' : WX) (pn : List (Addr × Obj)) (xe : Value → Shared → Prop), Takes (X.tr pn xe) W' → PassesOwn (model X.prog X.w) X.A X.env xe → PSs (X.tr pn xe) body (TM g W' mb))
    (hi : X.N[i]? = some n := by rfl) (hj : X.N[j]? = some m := by rfl) (hij : i ≠ j := by decide) (hln : X.env.kindOf n = some .local := by rfl) (hlm : X.env.kindOf m = some .local := by rfl)
    (hdn : (n == ("__debug__" : Str)) = false := by decide) (hcn : (n == ("__classdict__" : Str)) = false := by decide) (hsw : ∀ (A : Cx), A.env = X.env → swapsWith (.Name n n2) (some (.Name m m2)) p3.line A.env = pure false := by exact fun A e => e ▸ rfl) :
    PS X (.Try body [.ExceptHandler (some (.Name x np)) (some n) [.Assign [.Name m m2] (.Name n n2) p3] pos'] [] [] pos) (TM g W (sTry cau i j mb)) := by
  refine wkS (ps_try_keep hs hf hex hN hi hj hij hln hlm hc tk hdn hcn hsw hb) fun Dn σ H ⟨F, α, δ, π, r, h⟩ => ⟨F, α, δ, π, r, ?_⟩
  unfold sTry at h
  revert h
  cases mb δ π with
  | nx δ1 π1 => exact fun h => h
  | ret d π1 => exact fun h => h
  | brk δ1 π1 => exact fun h => h
  | ct δ1 π1 => exact fun h => h
  | stuck => exact fun h => h
  | exc y δ1 π1 =>
    intro h α' σ' H' cls dd le rl ⟨e1, dx, vs, e2, e3, nda, ndF, e4⟩
    subst e1
    dsimp only at h
    cases hq : cau y.c with
    | none => rw [hq] at h; exact h.elim
    | some b =>
      rw [hq] at h
      refine ⟨b, hK ▸ hcau _ _ hq, fun hb => ?_, fun hb => ?_⟩
      · subst hb
        refine ⟨dx, e2, fun a na => ?_⟩
        obtain ⟨p2, le2, h3, h4⟩ := rl.p.fresh (o := ExT (.ref (g.cadr y.c)) dx a) na
        have rl2 := rl.with le2 p2
        refine h α' _ _ (le.trans le2) (((rl2.unset (i := i)).set (i := j) (.exv upd_same h3 h4 (le2.keep _ _ e3 nda) nda ndF (e4.mono le2))).unset (i := i))
      · subst hb
        exact h α' σ' H' _ dd le rl ⟨rfl, dx, vs, e2, e3, nda, ndF, e4⟩
end MI

set_option Elab.async false
set_option linter.all false
set_option maxRecDepth 100000
set_option maxHeartbeats 4000000
/-! Exceptions as values: isinstance, attributes. -/
namespace MI
open PySem L2 PyProof.Rows

/-- what the class of an exception must say -/
structure ExcV (K : PySem.W.Frag) (C : Addr) : Prop where
  cl : (PySem.W.clsIn K C).isSome = true
  ga : PySem.W.findIn K (.ref C) "__getattribute__" = some (some (.builtin "BaseException.__getattribute__"))
  gt : PySem.W.findIn K (.ref C) "__getattr__" = some none
  sub : PySem.W.subIn K (.ref C) (.type "BaseException") = some true
  ac : PySem.W.findIn K (.ref C) "__class__" = some (some (.builtin "object.__class__"))
  sp : PySem.W.specialIn K (.builtin "object.__class__") "__get__" = some (some (.builtin "getset_descriptor.__get__"))
  tk : PySem.W.takesIn K (.builtin "object.__class__") = some true
  ob : PySem.W.mroIn K C (.type "object") = some true
  hd : PySem.W.hasDictIn K C = true
/-- an exception object with its dict -/
def ExA (K : PySem.W.Frag) (H : Hp) (a C : Addr) (vs : List (Str × V)) : Prop := ∃ dx, H a = some (ExT (.ref C) dx a) ∧ H dx = some (.xd vs)
section
variable {X : Cx} {pins : List (Addr × Obj)} {σ : L2.St} {H : Hp} {s : Shared} {a C : Addr} {vs : List (Str × V)}
theorem exA_inst (I : Inv X pins σ H s) (h : ExA X.K H a C vs) : ∃ (ox od : Obj) (mA : Str → Option Value), PySem.W.InstAt s.heap a ox C (some od) ∧ (∀ f, PySem.W.lookIn f od = some (mA f)) ∧ ∀ f, RelO (vs.lookup f) (mA f) := by
  obtain ⟨dx, h1, h2⟩ := h
  obtain ⟨⟨oe, ws, e1, ⟨z1, z2⟩, e3⟩, _, _⟩ := I.hok a _ h1
  have hx : ObjOk X.prog X.w H s.heap dx (.xd vs) := I.hok dx _ h2
  obtain ⟨mA, hns, hr⟩ := hx
  obtain ⟨od, ho, hl⟩ := lookIn_ns hns
  exact ⟨oe, od, mA, ⟨e1, z1, by unfold PySem.W.notCls; rw [e3] <;> rfl, by rw [z2]; exact ho⟩, hl, hr⟩
end
def rIsX (K : PySem.W.Frag) : List V → Hp → VK → Prop := fun xs H Q => ∃ (a C : Addr) (vs : List (Str × V)) (c : V) (u : Value) (b : Bool), xs = [.ref a, c] ∧ ClsV c u ∧ ExA K H a C vs ∧ ExcV K C ∧ PySem.W.kitOne K (.ref C) u = some b ∧ Q (.bl b) H
theorem call_isx {X : Cx} : CallR X (.builtin "isinstance") (rIsX X.K) := by
  intro pins s σ H xs us Q I r h
  obtain ⟨a, C, vs, c, u, b, rfl, k, ex, cv, e, q⟩ := h
  obtain ⟨u1, u2, rfl, r1, r2⟩ := vals2 r
  have e2 := k.eq r2
  subst e2
  cases (show u1 = Value.ref a from r1)
  obtain ⟨ox, od, mA, J, _, _⟩ := exA_inst I ex
  exact PySem.W.kia_one (PySem.W.kitx_exc cv.cl cv.ga cv.gt cv.sub cv.ac cv.sp cv.tk cv.ob) I.kIn J e (fun z => nomatch z) fun tk => ⟨.bl b, H, I.tok tk, rfl, q⟩
/-- isinstance, the exceptions' classes by tables -/
def fIsx (su : Nat → Nat → Option Bool) (st : Nat → String → Option Bool) : Fun_ := fun ds π => match ds with
  | [.exv c _, .cls k] => opt (su c k) fun b => .ok (.bl b) π
  | [.exv c _, .ty t] => opt (st c t) fun b => .ok (.bl b) π
  | ds => fIsi ds π
structure SubT (g : G) (su : Nat → Nat → Option Bool) (st : Nat → String → Option Bool) : Prop where
  own : ∀ c k b, su c k = some b → PySem.W.kitOne g.K (.ref (g.cadr c)) (.ref (g.cadr k)) = some b ∧ ExcV g.K (g.cadr c)
  ty : ∀ c t b, st c t = some b → PySem.W.kitOne g.K (.ref (g.cadr c)) (.type t) = some b ∧ ExcV g.K (g.cadr c)
theorem call_isa {X : Cx} : CallR X (.builtin "isinstance") (fun xs H Q => rIsi X.K xs H Q ∨ rIsX X.K xs H Q) := CallR.or call_isi call_isx
section
variable {g : G}
theorem exv_A {F : Addr → Prop} {α : List Addr} {H : Hp} {c : Nat} {fs : List (Str × D)} {v : V} (h : RD g α F H (.exv c fs) v) : ∃ a vs, v = .ref a ∧ ExA g.K H a (g.cadr c) vs ∧ RFs g α F H fs vs := by
  cases h with
  | exv h1 h2 h3 h4 h5 h6 h7 => exact ⟨_, _, rfl, ⟨_, h1, h4⟩, h7⟩
theorem cm_isx {su : Nat → Nat → Option Bool} {st : Nat → String → Option Bool} (S : SubT g su st) : ClM g (fun xs H Q => rIsi g.K xs H Q ∨ rIsX g.K xs H Q) (fIsx su st) := by
  intro F W α δ π σ H Q ds vs r rd h
  unfold fIsx at h
  split at h
  · rename_i c fs k
    obtain ⟨b, hb, h2⟩ := opt_ok h
    obtain ⟨v, w', rfl, rv, rt⟩ := rds2 rd
    cases rt
    obtain ⟨a, ws, rfl, hA, _⟩ := exv_A rv
    obtain ⟨k1, k2⟩ := S.own _ _ _ hb
    exact .inr ⟨a, _, ws, _, _, b, rfl, .own _, hA, k2, k1, ok_post r h2 (.bl _)⟩
  · rename_i c fs t
    obtain ⟨b, hb, h2⟩ := opt_ok h
    obtain ⟨v, w', rfl, rv, rt⟩ := rds2 rd
    cases rt
    obtain ⟨a, ws, rfl, hA, _⟩ := exv_A rv
    obtain ⟨k1, k2⟩ := S.ty _ _ _ hb
    exact .inr ⟨a, _, ws, _, _, b, rfl, .ty _, hA, k2, k1, ok_post r h2 (.bl _)⟩
  · exact .inl (cm_isi F W α δ π σ H Q ds vs r rd h)
/-- e.f, e an exception of the class c -/
def fFldX (c : Nat) (f : Str) : D → PH → Res D := fun d π => match d with
  | .exv c' fs => when_ (decide (c' = c)) (opt (fs.lookup f) fun e => .ok e π)
  | _ => .stuck
theorem te_fldX {X : Cx} {W : WX} {o : Expr} {mo : M D} {pos : Pos} {c : Nat} {f : Str} (hK : g.K = X.K) (cv : ExcV g.K (g.cadr c)) (na : PySem.W.findIn g.K (.ref (g.cadr c)) f = some none) (ha : PE X o (T g W mo)) (hb : attributeBase o f X.env (eval o X.env) = eval o X.env := by rfl) : PE X (.Attribute o f pos) (T g W (mUn (fFldX c f) mo)) := by
  refine ⟨fun pins s σ H Q I ⟨F, α, δ, π, r, h⟩ => ?_⟩
  refine attr_of hb (thn (ha.run pins s σ H _ I ⟨F, α, δ, π, r, Post.bind (R := RV g F) h⟩) fun u s1 hh => ?_)
  obtain ⟨x, H1, I1, rx, α1, π1, d, le, r1, rd, h2⟩ := hh
  unfold fFldX at h2
  split at h2
  · rename_i c' fs
    obtain ⟨hc, h3⟩ := when_ok h2
    have e1 : c' = c := of_decide_eq_true hc
    subst e1
    obtain ⟨e, he, h4⟩ := opt_ok h3
    obtain ⟨a, ws, rfl, hA, rf⟩ := exv_A rd
    obtain ⟨v, hv, rv⟩ := rf.get he
    obtain rfl : u = Value.ref a := rx
    obtain ⟨ox, od, mA, J, hl, hr⟩ := exA_inst I1 (hK ▸ hA)
    obtain ⟨u', hu, ru⟩ := RelO.some_of (v := v) (o := mA f) (by rw [← hv]; exact hr f)
    rw [hK] at cv na
    exact HandSPX.exc_get I1.kIn J cv.ga cv.gt cv.sub (PySem.W.findObj_own cv.hd na rfl (by rw [hl, hu])) (handed_of ru) ⟨v, H1, I1.tok _, ru, ok_post r1 h4 rv⟩
  · exact h2.elim
/-- a class as a value -/
theorem te_gc {X : Cx} {W : WX} {x : Str} {c : Nat} {pos : Pos} (hg : Gl X x) (hm : X.mg x = some (.ref (g.cadr c))) (hd : (x == ("__debug__" : Str)) = false := by decide) : PE X (.Name x pos) (T g W (mC (.cls c))) := te_c (pe_glob hg hm (show RelV (.ref (g.cadr c)) _ from rfl) hd) fun _ _ _ => .cls c
end
end MI

set_option Elab.async false
set_option linter.all false
set_option maxRecDepth 100000
set_option maxHeartbeats 4000000
/-! Lambdas that capture nothing, as values. -/
namespace MI
open PySem L2 PyProof.Rows LamX

section
variable {X : Cx} {pins : List (Addr × Obj)} {σ : L2.St} {H : Hp} {s : Shared}
/-- a lambda is made and tracked: its code object is new, or found -/
theorem lam_new {c P : Addr} {ps : Array Value} {params : Arguments} {body : Expr} {scope : Scope} {pos : Pos} {E : Value → Shared → Prop} {Q : Value → Shared → Prop} {l : LamD} (I : Inv X pins σ H s) (TB : TabB X.base X.mg c P) (hcode : X.env.code = .ref c)
    (hl : l = ⟨X.env.qual ++ "<lambda>", params, body, scope⟩) (hP : H P = some (.tbl ps)) (ht : TriplesOk ps.toList) (ha : ∀ (pos : Pos) (cv : Value), codeAmong pos ps.toList = some cv → ∃ c, cv = .ref c ∧ H c = some (CodeO c (X.env.qual ++ "<lambda>")))
    (hdef : defaultsOf params X.env = ([], [])) (hclo : closureFor scope X.env = pure [])
    (h : ∀ (f c' : Addr) (s' : Shared) (H1 : Hp), Inv X pins σ (upd H1 f (LamO l c' f)) s' → H1 f = none → H1 c' = some (CodeO c' (X.env.qual ++ "<lambda>")) →
      ((H1 = H ∧ codeAmong pos ps.toList = some (.ref c')) ∨ (H c' = none ∧ H1 = upd (upd H P (.tbl (ps ++ #[rawInt pos.line, rawInt pos.col, .ref c']))) c' (CodeO c' (X.env.qual ++ "<lambda>")))) → Q (.ref f) s') :
    wpAny (model X.prog X.w) X.A (eval (.Lambda params body scope pos) X.env) Q E s := by
  refine PySem.W.kla_eval hdef ?_
  have bP : s.heap.BuiltinsAt X.mg P := TB.bm.keeps I.bk
  have hP' : s.heap.get? P = some { cls := .none, data := .fields ps } := I.hok P _ hP
  have ok_lam : ∀ {H2 : Hp} {h2 : Heap} {f c' : Addr} {pm ctv : Value}, h2.get? f = some (PySem.W.kla_obj "<lambda>" (X.env.qual ++ "<lambda>") params body scope [] pm c' ctv) → ObjOk X.prog X.w H2 h2 f (LamO l c' f) := fun {H2 h2 f c' pm ctv} e => by
    subst hl
    exact ⟨⟨pm, ctv, e⟩, ⟨_, e⟩, fun h1 h2 ⟨p, q, r⟩ k => ⟨p, q, k _ r⟩⟩
  cases hc : codeAmong pos ps.toList with
  | none =>
    refine PySem.W.kla_makeFunction (mg := X.mg) (c := c) (P := P) (ps := ps) hclo I.ok.glob (I.mod.glob.keeps I.bk) hcode (TB.code.keeps I.bk) hP' ht hc TB.gP bP fun c' ctv h' tk hx hge hlt hrec htb => ?_
    obtain ⟨c2, oc, vs, t, e2, hoc, hd, hv⟩ := hrec
    cases e2
    have hsz : s.heap.objs.size ≤ h'.objs.size := Nat.le_trans hge (Nat.le_of_lt hlt)
    have nC : H c' = none := I.hok.fresh hge
    have I1 := inv_table (t' := tk) (more := #[rawInt pos.line, rawInt pos.col, .ref c']) (h' := h') I hP (fun b o hb e => hx b o hb e) htb hge ⟨oc, vs, t, hoc, hd, hv⟩
    have I2 := I1.laid (t' := tk) (h' := h'.push (PySem.W.kla_obj "<lambda>" (X.env.qual ++ "<lambda>") params body scope [] ((X.mg "__name__").getD .none) c' ctv)) (fun b o e => Heap.get?_push_of_some _ e) (Nat.le_refl _) (ok_lam (Heap.get?_push_size _ rfl))
    have hfr := I1.hok.fresh (a := h'.objs.size) (Nat.le_refl _)
    exact h h'.objs.size c' _ _ I2 hfr upd_same (.inr ⟨nC, rfl⟩)
  | some cv =>
    obtain ⟨c', e, hco⟩ := ha pos cv hc
    subst e
    refine PySem.W.kla_makeFunctionHit (mg := X.mg) (c := c) (P := P) (ps := ps) hclo I.ok.glob (I.mod.glob.keeps I.bk) hcode (TB.code.keeps I.bk) hP' ht hc bP fun ctv h' tk hx hsz => ?_
    have I1 : Inv X pins σ H { s with heap := h', toks := tk } := I.kept fun b o e => hx b o e
    have I2 := I1.laid (t' := tk) (h' := h'.push (PySem.W.kla_obj "<lambda>" (X.env.qual ++ "<lambda>") params body scope [] ((X.mg "__name__").getD .none) c' ctv)) (fun b o e => Heap.get?_push_of_some _ e) (Nat.le_refl _) (ok_lam (Heap.get?_push_size _ rfl))
    exact h h'.objs.size c' _ _ I2 (I1.hok.fresh (a := h'.objs.size) (Nat.le_refl _)) hco (.inl ⟨rfl, hc⟩)
end
section
variable {g : G} {F : Addr → Prop} {α : List Addr} {δ : Env} {π : PH} {σ : L2.St} {H : Hp}
/-- the table grows by a new code object -/
theorem RelP.table (r : RelP g F α π H) {t : Nat} {P c' : Addr} {q : Str} {ps : Array Value} {pos : Pos} (hα : α[t]? = some P) (hπ : π[t]? = some (.tbl q)) (hP : H P = some (.tbl ps)) (hc : H c' = none) (ro : RO g α F H (.tbl q) (.tbl ps)) :
    RelP g F α π (upd (upd H P (.tbl (ps ++ #[rawInt pos.line, rawInt pos.col, .ref c']))) c' (CodeO c' q)) ∧ Le α H α (upd (upd H P (.tbl (ps ++ #[rawInt pos.line, rawInt pos.col, .ref c']))) c' (CodeO c' q)) ∧ c' ∉ α ∧ ¬ F c' := by
  cases ro with
  | tbl hT hC =>
    have ro2 : RO g α F (upd H c' (CodeO c' q)) (.tbl q) (.tbl (ps ++ #[rawInt pos.line, rawInt pos.col, .ref c'])) := by
      obtain ⟨r1, le1, nα, nF⟩ := r.fresh (o := CodeO c' q) hc
      have eL : (ps ++ #[rawInt pos.line, rawInt pos.col, .ref c']).toList = ps.toList ++ [rawInt pos.line, rawInt pos.col, .ref c'] := by simp
      refine .tbl (by rw [eL]; exact PySem.TriplesOk_snoc _ _ _ _ hT) fun p' cv hcv => ?_
      rw [eL] at hcv
      rcases among_app _ hT hcv with z | z
      · obtain ⟨c0, e1, e2, e3, e4⟩ := hC p' cv z
        exact ⟨c0, e1, le1.keep _ _ e2 e3, e3, e4⟩
      · exact ⟨c', z, upd_same, nα, nF⟩
    obtain ⟨r1, le1, nα, nF⟩ := r.fresh (o := CodeO c' q) hc
    have nP : P ≠ c' := ne_of_none hP hc
    have hP1 : upd H c' (CodeO c' q) P = some (.tbl ps) := by rw [upd_ne nP]; exact hP
    obtain ⟨r2, le2⟩ := r1.write (o := .tbl q) (ho := .tbl (ps ++ #[rawInt pos.line, rawInt pos.col, .ref c'])) hα hP1 (fun _ z => by cases z) (fun _ _ z => by cases z) ro2 (fun q' e => by cases e; exact hπ)
    have eπ : π.set t (.tbl q) = π := by
      have hl := (List.getElem?_eq_some_iff.mp hπ).1
      apply List.ext_getElem?
      intro j
      rw [List.getElem?_set]
      by_cases e : t = j
      · subst e; rw [if_pos rfl, if_pos hl, hπ]
      · rw [if_neg e]
    rw [eπ] at r2
    have eH : upd (upd H c' (CodeO c' q)) P (.tbl (ps ++ #[rawInt pos.line, rawInt pos.col, .ref c'])) = upd (upd H P (.tbl (ps ++ #[rawInt pos.line, rawInt pos.col, .ref c']))) c' (CodeO c' q) := by
      funext b
      by_cases e1 : b = P
      · subst e1; rw [upd_same, upd_ne nP, upd_same]
      · rw [upd_ne e1]
        by_cases e2 : b = c'
        · subst e2; rw [upd_same, upd_same]
        · rw [upd_ne e2, upd_ne e2, upd_ne e1]
    rw [eH] at r2 le2
    exact ⟨r2, le1.trans le2, nα, nF⟩
end
/-- the t-th thing is the maker's table -/
def mLam (t : Nat) (k : Nat) (q : Str) : M D := fun _ π => match π[t]? with
  | some (.tbl q') => when_ (decide (q' = q)) (.ok (.lam k) π)
  | _ => .stuck
/-- the maker's code object, its table -/
structure TabAt (X : Cx) (g : G) (t : Nat) : Prop where
  all : ∃ c, X.env.code = .ref c ∧ TabB X.base X.mg c (g.tab t)
theorem te_lam {X : Cx} {g : G} {W : WX} {params : Arguments} {body : Expr} {scope : Scope} {pos : Pos} {q : Str} (t k : Nat) (hT : TabAt X g t) (hl : g.lamD k = ⟨X.env.qual ++ "<lambda>", params, body, scope⟩) (hq : q = X.env.qual ++ "<lambda>" := by rfl) (hdef : defaultsOf params X.env = ([], []) := by rfl) (hclo : closureFor scope X.env = pure [] := by rfl) :
    PE X (.Lambda params body scope pos) (T g W (mLam t k q)) := by
  refine ⟨fun pins s σ H Q I ⟨F, α, δ, π, r, h⟩ => ?_⟩
  unfold mLam at h
  split at h
  · rename_i q' hπ
    obtain ⟨h1, h2⟩ := when_ok h
    have e1 : q' = q := of_decide_eq_true h1
    subst e1
    obtain ⟨c, hcode, TB⟩ := hT.all
    have hα := r.p.tabs t _ hπ
    obtain ⟨ho, hP, ro⟩ := r.p.obj t _ _ hα hπ
    cases ro with
    | tbl hTr hC =>
      rename_i ps
      refine lam_new (l := g.lamD k) I TB hcode hl hP hTr (fun pos cv e => by
        obtain ⟨c0, a1, a2, _⟩ := hC pos cv e
        exact ⟨c0, a1, hq ▸ a2⟩) hdef hclo fun f c' s' H1 I1 nf hc' e => ?_
      have fin : ∀ {α1 : List Addr}, Le α H α H1 → RelP g F α π H1 → c' ∉ α ∧ ¬ F c' → EP X pins σ Q (.ref f) s' := fun {_} le rp nc => by
        obtain ⟨r2, le2, n1, n2⟩ := rp.fresh (o := LamO (g.lamD k) c' f) nf
        have ncf : c' ≠ f := fun z => by rw [z, nf] at hc'; cases hc'
        refine ⟨.ref f, _, I1, rfl, h2 α _ _ (le.trans le2) (r.with (le.trans le2) r2) (.lam upd_same n1 n2 ?_ nc.1 nc.2)⟩
        rw [upd_ne ncf, hc', hl]
      rcases e with ⟨e, hcm⟩ | ⟨nC, e⟩
      · subst e
        obtain ⟨c0, a1, _, a3, a4⟩ := hC pos _ hcm
        cases a1
        exact fin (α1 := α) .refl r.p ⟨a3, a4⟩
      · subst e
        obtain ⟨rp, le, n1, n2⟩ := r.p.table (pos := pos) hα hπ hP nC (.tbl hTr hC)
        rw [hq] at rp le
        exact fin (α1 := α) le rp ⟨n1, n2⟩
  · exact h.elim
end MI

set_option Elab.async false
set_option linter.all false
set_option maxRecDepth 100000
set_option maxHeartbeats 4000000
/-! Calls of what a name holds: defs, lambdas. -/
namespace MI
open PySem L2 PyProof.Rows LamX

/-- what the i-th lambda promises -/
structure Lam (P : Program) (w : World) (mg : Str → Option Value) (base : Heap) (g : G) (k i n : Nat) (m : Fun_) : Prop where
  ok : ∀ (f c' : Addr) (pm ctv : Value) (A : Around) (outer : List PySem.Env) (s : Shared) (H : Hp) (us : List Value) (vs : List V) (Q : VK) (E : XK), Room k A → Env0 P w g.K mg base A outer s H → s.heap.NoLimit →
    s.heap.get? f = some (PySem.W.kla_obj "<lambda>" (g.lamD i).qual (g.lamD i).params (g.lamD i).body (g.lamD i).scope [] pm c' ctv) → (∃ (oc : Obj) (ws : Array Value) (t : Tok), s.heap.get? c' = some oc ∧ oc.data = .fields ws ∧ ws[1]? = some (.str (g.lamD i).qual t)) →
    Vals vs us → spM g n m vs H Q E → codeAny (model P w) A (.call (.ref f) ⟨us, []⟩) (CR (L2.CX P w) outer P w H s Q E) s
theorem Lam.mono {P : Program} {w : World} {mg : Str → Option Value} {base : Heap} {g : G} {j k i n : Nat} {m : Fun_} (c : Lam P w mg base g j i n m) (h : j ≤ k) : Lam P w mg base g k i n m := ⟨fun f c' pm ctv A outer s H us vs Q E hr => c.ok f c' pm ctv A outer s H us vs Q E (hr.mono h)⟩
/-- a lambda's body as a def -/
def runE (n : Nat) (m : M D) : Fun_ := fun ds π => m (ds.map some ++ List.replicate (n - ds.length) none) π
theorem lam_mk {P : Program} {w : World} {mg : Str → Option Value} {base : Heap} {g : G} {i k : Nat} {N ps : List Str} {me : M D} (S : FnScope N ps (g.lamD i).scope)
    (hb : ∀ (cdv : Value) (f : Addr) (A : Around) (outer : List PySem.Env) (s : Shared) (H : Hp) (E : XK), Room k (A.deeper (envOfC (g.lamD i).qual (g.lamD i).scope s.heap.objs.size f cdv)) → Takes (cxOf (L2.CX P w) P w g.K mg base N (g.lamD i).qual (g.lamD i).scope f cdv A outer s H E) (fun cls d _ H' => E cls d H') →
      PE (cxOf (L2.CX P w) P w g.K mg base N (g.lamD i).qual (g.lamD i).scope f cdv A outer s H E) (g.lamD i).body (T g (fun cls d _ H' => E cls d H') me))
    (hbind : ∀ (pm cdv ctv : Value) (us : List Value), us.length = ps.length → bindArgs (PySem.W.kla_fn "<lambda>" (g.lamD i).qual (g.lamD i).params (g.lamD i).body (g.lamD i).scope [] pm cdv ctv) ⟨us, []⟩ = pure (ps.zip us)) :
    Lam P w mg base g (k + 1) i ps.length (runE N.length me) := by
  refine ⟨fun f c' pm ctv A outer s H us vs Q E hr e0 hlim ho hco r h => ?_⟩
  obtain ⟨hn, F, α, π, ds, rp, rd, hq⟩ := h
  have hkind : ∀ y ∈ ps.zip us, (g.lamD i).scope.names.lookup y.1 = some .local ∨ ((g.lamD i).scope.names.lookup y.1 = some .cell ∧ ((cellsFrom (s.heap.objs.size + 1) (g.lamD i).scope.names []).lookup y.1).isSome = true) := fun ⟨n, v⟩ hy => by
    rcases S.par n (List.of_mem_zip hy).1 with q | q
    · exact .inl q
    · exact .inr ⟨q, PySem.W.cellsFrom_some _ _ _ (.inl q)⟩
  obtain ⟨oc, ws, t, hoc, hd, hv⟩ := hco
  refine PySem.W.kla_callFunE hr.depth ho rfl S.co S.gen rfl ⟨c', oc, ws, t, rfl, hoc, hd, hv⟩ ?_
  rw [hbind _ _ _ _ (by rw [← r.length]; exact hn)]
  refine wpAny_pure (wpAny_newFunctionEnv_cells S.kind hkind fun env he s1 x => ?_)
  subst he
  refine ⟨hlim.keeps x.toInCall.keep, ?_⟩
  have hb' := hb (.ref c') f A outer s H E (hr.deeper _) (takes_of rfl rfl rfl rfl)
  have I : Inv (cxOf (L2.CX P w) P w g.K mg base N (g.lamD i).qual (g.lamD i).scope f (.ref c') A outer s H E) [] (L2.start N vs) H s1 := inv_start S hr.hd e0 hn r x
  refine PySem.W.kla_codeExpr (wpAny_mono (hb'.run [] s1 (L2.start N vs) H Q I ⟨F, α, _, π, rel_start rp rd, ?_⟩) (fun v s' hq => ?_) fun e s' hq => hq)
  · have hq' : PostP g F E α H Q (me (ds.map some ++ List.replicate (N.length - ds.length) none) π) := hq
    revert hq'
    cases me (ds.map some ++ List.replicate (N.length - ds.length) none) π with
    | ok d π' => exact fun h α' H' v le r' rd' => h α' H' v le r'.p rd'
    | exc y π' => exact fun h α' H' c d le r' rx => h α' H' c d le r'.p rx
    | stuck => exact fun h => h.elim
  · obtain ⟨w', H', J', rv, q⟩ := hq
    exact ⟨w', H', J'.os, J'.bare, J'.base, J'.hok, rv, q⟩
/-- the defs, the lambdas that a name may hold: by their numbers -/
structure Tab2 (X : Cx) (g : G) (k n : Nat) (tab lt : Nat → Option Fun_) : Prop where
  fn : ∀ i m, tab i = some m → Fn X.prog X.w X.mg X.base g k (g.fadr i) n [] m
  lam : ∀ i m, lt i = some m → Lam X.prog X.w X.mg X.base g k i n m
def mCallW (tab lt : Nat → Option Fun_) (n : Nat) (mf : M D) (ms : M (List D)) : M D := fun δ π => (mf δ π).bind fun fd π1 => match fd with
  | .fn i => opt (tab i) fun m => mArgs (fCall n [] m) ms δ π1
  | .lam i => opt (lt i) fun m => mArgs (fCall n [] m) ms δ π1
  | _ => .stuck
section
variable {X : Cx} {g : G} {W : WX} {k n : Nat} {e : Expr} {es : List Expr} {x : Str} {p pos : Pos} {ms : M (List D)}
theorem te_callW {tab lt : Nat → Option Fun_} {i : Nat} (hK : g.K = X.K) (c : Tab2 X g k n tab lt) (hr : Room k X.A) (tk : Takes X W) (ha : PA X (e :: es) (TAs g W ms)) (hN : X.N[i]? = some x := by rfl) (hv : Vis X.env.scope x := by first | exact Or.inl rfl | exact Or.inr (Or.inl rfl) | exact Or.inr (Or.inr rfl)) (hd : (x == ("__debug__" : Str)) = false := by decide) (hcd : (x == ("__classdict__" : Str)) = false := by decide)
    (he : starEach (e :: es) X.env = (false, eval e X.env) :: starEach es X.env := by rfl) (hpl : (backTo pos (starEach es X.env)).any (·.1) = false := by rfl) : PE X (.Call (.Name x p) (e :: es) [] pos) (T g W (mCallW tab lt n (mVar i) ms)) := by
  refine ⟨fun pins s σ H Q I ⟨F, α, δ, π, r, h⟩ => ?_⟩
  unfold mCallW mVar at h
  split at h
  · rename_i d hδ
    obtain ⟨v, hs, rd⟩ := r.slot i _ hδ
    refine wpAny_Call_Name_kw (thn ((pe_var (pos := p) hN hv hd hcd).run pins s σ H (fun v' H1 => v' = v ∧ H1 = H) I ⟨v, hs, rfl, rfl⟩) fun u s1 ⟨v1, H1, I1, r1, q1⟩ => ?_)
    obtain ⟨rfl, rfl⟩ := q1
    cases d with
    | fn j =>
      obtain ⟨mm, ht, h'⟩ := opt_ok h
      cases rd
      cases r1
      have cj := c.fn j mm ht
      refine PySem.W.callWith_K (h₀ := X.base) I.ok.mod.kin (hK ▸ cj.kp) (thn (ha.run pos pins s1 σ _ _ I1 ⟨F, α, δ, π, r, Post.bind (R := RA g F) h'⟩) fun us s2 ⟨vs, H2, I2, rv, α1, π1, d, le, r1, rd, h2⟩ => ⟨I2.kIn, ?_⟩) he hpl
      obtain ⟨hl, h3⟩ := when_ok h2
      exact run_fn hK cj hr tk I2 rv (of_decide_eq_true hl) r1 rd h3
    | lam j =>
      obtain ⟨mm, ht, h'⟩ := opt_ok h
      have cj := c.lam j mm ht
      have rd0 := rd
      cases rd with
      | @lam f c' _ h1 h2 h3 h4 h5 h6 =>
        cases r1
        have atF : ∀ {s : Shared} {H : Hp}, Inv X pins σ H s → H f = some (LamO (g.lamD j) c' f) → ∃ pm ctv : Value, s.heap.get? f = some (PySem.W.kla_obj "<lambda>" (g.lamD j).qual (g.lamD j).params (g.lamD j).body (g.lamD j).scope [] pm c' ctv) := fun {s H} I e => by
          obtain ⟨⟨pm, ctv, q⟩, _, _⟩ := I.hok f _ e
          exact ⟨pm, ctv, q⟩
        have atC : ∀ {s : Shared} {H : Hp}, Inv X pins σ H s → H c' = some (CodeO c' (g.lamD j).qual) → ∃ (oc : Obj) (ws : Array Value) (t : Tok), s.heap.get? c' = some oc ∧ oc.data = .fields ws ∧ ws[1]? = some (.str (g.lamD j).qual t) := fun {s H} I e => (I.hok c' _ e).1
        obtain ⟨pm0, ctv0, o0⟩ := atF I1 h1
        refine PySem.W.callWith_F ⟨_, _, _, _, o0⟩ (thn (ha.run pos pins s1 σ _ _ I1 ⟨F, α, δ, π, r, Post.bind (R := RA g F) h'⟩) fun us s2 ⟨vs, H2, I2, rv, α1, π1, d, le, r1, rd, hz⟩ => ?_) he hpl
        have h1' := le.keep _ _ h1 h2
        have h4' := le.keep _ _ h4 h5
        obtain ⟨pm, ctv, o1⟩ := atF I2 h1'
        refine ⟨⟨_, _, _, _, o1⟩, ?_⟩
        obtain ⟨hl, h9⟩ := when_ok hz
        have hl' : d.length = n := of_decide_eq_true hl
        rw [List.append_nil] at h9
        have hsp : spM g n mm vs H2 Q (WE W σ) := ⟨by rw [← rd.length]; exact hl', F, α1, π1, d, r1.p, rd, Post.p r1 h9⟩
        have run := cj.ok f c' pm ctv X.A X.stack s2 H2 us vs Q (WE W σ) hr (hK ▸ I2.env0) I2.nolimit o1 (atC I2 h4') rv hsp
        refine wpAny_call (codeAny_mono run fun r s' hq => ?_)
        cases r with
        | error e => exact passAt tk σ pins H2 s2 e s' I2 hq
        | ok fl =>
          cases fl with
          | ret u => exact I2.after hq
          | next => exact False.elim hq
          | brk => exact False.elim hq
          | cont => exact False.elim hq
    | _ => exact h.elim
  · exact h.elim
end
end MI

set_option Elab.async false
set_option linter.all false
set_option maxRecDepth 100000
/-! match e: case 'a' | 'b': .. case _: .. (the subject a text). -/
namespace MI
open PySem L2 PyProof.Rows

def eqW (s w : Str) : Bool := s == w
/-- a case: its words (none: any), its body -/
def pick (s : Str) : List (Option (List Str) × MS) → MS
  | [] => sNx
  | (none, b) :: _ => b
  | (some ws, b) :: r => fun δ π => if (ws.any (eqW s)) = true then b δ π else pick s r δ π
def sMatch (m : M D) (cs : List (Option (List Str) × MS)) : MS := fun δ π => (m δ π).sb δ fun d π1 => match d with
  | .str s => pick s cs δ π1
  | _ => .stuck
section
variable {X : Cx} {g : G} {W : WX}
/-- a pattern that is one of some texts -/
structure PtM (X : Cx) (p : Pattern) (ws : List Str) : Prop where
  run : ∀ (pins : List (Addr × Obj)) (s : Shared) (σ : L2.St) (H : Hp) (z : Str) (t : Tok) (Q : Option (List (Str × Value)) → Shared → Prop), Inv X pins σ H s → (∀ s', Inv X pins σ H s' → Q (if (ws.any (eqW z)) = true then some [] else none) s') → wpAny (model X.prog X.w) X.A (matchPattern p X.env (.str z t)) Q X.xe s
/-- several patterns: the first that fits -/
structure PfM (X : Cx) (ps : List Pattern) (ws : List Str) : Prop where
  run : ∀ (pins : List (Addr × Obj)) (s : Shared) (σ : L2.St) (H : Hp) (z : Str) (t : Tok) (Q : Option (List (Str × Value)) → Shared → Prop), Inv X pins σ H s → (∀ s', Inv X pins σ H s' → Q (if (ws.any (eqW z)) = true then some [] else none) s') → wpAny (model X.prog X.w) X.A (matchFirst ps X.env (.str z t)) Q X.xe s
theorem ptm_str {w : Str} {j : Nat} {p p2 : Pos} : PtM X (.MatchValue (.Constant (.str w) j p) p2) [w] := by
  refine ⟨fun pins s σ H z t Q I h => wpAny_matchPattern_Value ?_⟩
  have he := (pe_str (X := X) (x := w) (j := j) (pos := p)).run pins s σ H (fun v H1 => v = .str w ∧ H1 = H) I ⟨rfl, rfl⟩
  refine thn he fun v s1 ⟨y, H1, I1, r1, q1⟩ => ?_
  obtain ⟨rfl, rfl⟩ := q1
  refine thn (op_eq pins s1 σ H1 (.str z) (.str w) (.str z t) v (fun v' H2 => v' = .bl (eqW z w) ∧ H2 = H1) I1 ⟨t, rfl⟩ r1 ⟨rfl, by rw [dec_str]; exact ⟨rfl, rfl⟩⟩) fun c s2 ⟨y2, H2, I2, r2, q2⟩ => ?_
  obtain ⟨rfl, rfl⟩ := q2
  cases r2
  refine wpAny_truthy_bool ?_
  have q := h s2 I2
  have e : ([w].any (eqW z)) = eqW z w := by simp
  rw [e] at q
  cases hb : eqW z w with
  | true => rw [hb] at q; exact q
  | false => rw [hb] at q; exact q
theorem pfm_nil : PfM X [] [] := ⟨fun pins s σ H z t Q I h => wpAny_matchFirst_nil (h s I)⟩
theorem pfm_cons {p : Pattern} {ps : List Pattern} {w : Str} {ws : List Str} (hp : PtM X p [w]) (hr : PfM X ps ws) : PfM X (p :: ps) (w :: ws) := by
  refine ⟨fun pins s σ H z t Q I h => wpAny_matchFirst_cons (hp.run pins s σ H z t _ I fun s1 I1 => ?_)⟩
  have e : ([w].any (eqW z)) = eqW z w := by simp
  rw [e]
  have e2 : ((w :: ws).any (eqW z)) = (eqW z w || ws.any (eqW z)) := by simp
  rw [e2] at h
  cases hb : eqW z w with
  | true =>
    rw [hb] at h
    have q := h s1 I1
    simpa using q
  | false =>
    rw [hb] at h
    simp only [Bool.false_or] at h
    simpa using hr.run pins s1 σ H z t Q I1 h
theorem ptm_or {ps : List Pattern} {ws : List Str} {p : Pos} (h : PfM X ps ws) (hn : namesOfAll (ps.take 1) = [] := by rfl) : PtM X (.MatchOr ps p) ws := by
  refine ⟨fun pins s σ H z t Q I hq => wpAny_matchPattern_Or (h.run pins s σ H z t _ I fun s1 I1 => ?_)⟩
  have q := hq s1 I1
  cases hb : ws.any (eqW z) with
  | true =>
    rw [hb] at q
    simp only [if_true] at q ⊢
    rw [hn]
    exact q
  | false =>
    rw [hb] at q
    simpa using q
/-- the cases -/
structure CsM (X : Cx) (g : G) (W : WX) (cs : List MatchCase) (ms : List (Option (List Str) × MS)) : Prop where
  run : ∀ (first : Bool) (pins : List (Addr × Obj)) (s : Shared) (σ : L2.St) (H : Hp) (z : Str) (t : Tok) (D : Ends), Inv X pins σ H s → TM g W (pick z ms) D σ H → wpAny (model X.prog X.w) X.A (matchCases cs X.env (.str z t) first) (SP X pins D) X.xe s
theorem csm_nil : CsM X g W [] [] := ⟨fun first pins s σ H z t D I ⟨F, α, δ, π, r, h⟩ => wpAny_matchCases_nil ⟨σ, H, I, h α σ H .refl r⟩⟩
theorem csm_cons {p : Pattern} {ws : List Str} {body : List Stmt} {mb : MS} {cs : List MatchCase} {ms : List (Option (List Str) × MS)} (hp : PtM X p ws) (hb : PSs X body (TM g W mb)) (hr : CsM X g W cs ms) : CsM X g W (⟨p, none, body⟩ :: cs) ((some ws, mb) :: ms) := by
  refine ⟨fun first pins s σ H z t D I ⟨F, α, δ, π, r, h⟩ => wpAny_matchCases_cons (hp.run pins s σ H z t _ I fun s1 I1 => ?_)⟩
  have h' : PostS g F W α H D (if (ws.any (eqW z)) = true then mb δ π else pick z ms δ π) := h
  cases hq : ws.any (eqW z) with
  | true =>
    rw [hq] at h'
    simp only [if_true] at h' ⊢
    exact wpAny_assignInOrder_none (hb.run pins s1 σ H D I1 ⟨F, α, δ, π, r, h'⟩)
  | false =>
    rw [hq] at h'
    simp only [Bool.false_eq_true, if_false] at h' ⊢
    exact hr.run false pins s1 σ H z t D I1 ⟨F, α, δ, π, r, h'⟩
theorem csm_any {body : List Stmt} {mb : MS} {cs : List MatchCase} {ms : List (Option (List Str) × MS)} {p : Pos} (hb : PSs X body (TM g W mb)) : CsM X g W (⟨.MatchAs none none p, none, body⟩ :: cs) ((none, mb) :: ms) := by
  refine ⟨fun first pins s σ H z t D I ⟨F, α, δ, π, r, h⟩ => wpAny_matchCases_cons (wpAny_matchPattern_Capture ?_)⟩
  exact wpAny_assignInOrder_none (hb.run pins s σ H D I ⟨F, α, δ, π, r, h⟩)
theorem ts_match {e : Expr} {m : M D} {cs : List MatchCase} {ms : List (Option (List Str) × MS)} {pos : Pos} (he : PE X e (T g W m)) (hc : CsM X g W cs ms) : PS X (.Match e cs pos) (TM g W (sMatch m ms)) := by
  refine ⟨fun pins s σ H D I ⟨F, α, δ, π, r, h⟩ => wpAny_Match (thn (he.run pins s σ H _ I ⟨F, α, δ, π, r, sb_post (R := RV g F) r h⟩) fun v s1 ⟨x, H1, I1, rx, α1, π1, d, le, r1, rd, h2⟩ => ?_)⟩
  split at h2
  · cases rd
    obtain ⟨t, rfl⟩ := rx
    exact hc.run true pins s1 σ H1 _ t D I1 ⟨F, α1, δ, π1, r1, h2⟩
  · exact h2.elim
end
end MI

set_option Elab.async false
set_option linter.all false
set_option maxRecDepth 100000
set_option maxHeartbeats 4000000
/-! for i, x in enumerate(xs, k); for x, y in zip(xs, ys). -/
namespace MI
open PySem L2 PyProof.Rows

/-- the list at a as it stands at each turn, each item in a new pair, the numbers from k on -/
def ItK (k : Int) (K : PySem.W.Frag) (a : Addr) : It :=
  ⟨fun i H => ∃ (xs : List V) (x : V), SqL K H a xs ∧ xs[i]? = some x, fun i H v H' => ∃ p x, v = .ref p ∧ H p = none ∧ H' = upd H p (.tup [.int (k + (i : Nat)), x]) ∧ ∀ xs, SqL K H a xs → xs[i]? = some x, fun i H => ∃ xs : List V, SqL K H a xs ∧ xs.length = i⟩
theorem turn_enuK {P : Program} {w : World} {K : PySem.W.Frag} {elts : List Expr} {kk : Nat} {tpos : Pos} (k : Int) (a e it : Addr) (hai : a ≠ it) (hae : a ≠ e) :
    Turn P w K (.Tuple elts kk tpos) (ItK k K a) [e, it] e (fun i h => (∃ old, IsEnum h e it (k + ((i : Nat) : Int)) old) ∧ h.IsListIter it a i ∧ e ≠ it) where
  mem := by simp
  obj := fun i h st b hb => by
    obtain ⟨⟨old, he⟩, ⟨o, ho, _, hd⟩, _⟩ := st
    rcases (show b = e ∨ b = it by simpa using hb) with z | z
    · subst z; exact ⟨_, he, fun v q => nomatch q⟩
    · subst z; exact ⟨o, ho, fun v q => by rw [hd] at q; cases q⟩
  keep := fun i h h' ⟨⟨old, he⟩, hi, hne⟩ kp => ⟨⟨old, kp e (by simp) _ he⟩, hi.at fun o q => kp it (by simp) o q, hne⟩
  item := by
    intro X hP hw hK hc i pins s σ H E I hf st hg
    subst hP hw hK
    obtain ⟨⟨old, he⟩, hit, hne⟩ := st
    obtain ⟨xs, x, hq, hx⟩ := hg
    obtain ⟨its, rv, p, hz⟩ := I.list hq
    obtain ⟨u, hu, ru⟩ := rv.get hx
    have lte : e < s.heap.objs.size := Heap.lt_size he
    have lti : it < s.heap.objs.size := by obtain ⟨_, q, _⟩ := hit; exact Heap.lt_size q
    have hlt : i < its.toArray.size := by simpa using (List.getElem?_eq_some_iff.mp hu).1
    refine wpAny_pyNext_enum_itemC (Draws.list (prog := X.prog) (w := X.w) (A := X.A.in1) (I.ok.hd hc) it a hai its.toArray) he ⟨hit, p.isList⟩ hlt hne (by simp; exact ⟨hne, Ne.symm hae⟩) fun x' h' tk hP ho ⟨hit', _⟩ hT hsz hk => ?_
    have ex' : x' = u := by
      have hP' : its.toArray[i]? = some x' := hP
      rw [List.getElem?_toArray, hu] at hP'
      exact (Option.some.inj hP').symm
    subst ex'
    refine ⟨_, rfl, wpAny_letOwnedTupleGo_enum (s := { s with heap := h', toks := tk + 1 }) ho fun h'' he' sb => ?_⟩
    have hT2 : h''.get? s.heap.objs.size = some { cls := .type "tuple", data := .seq #[.int (k + (i : Nat)) tk, x'] } := (sb.2 _ (Nat.ne_of_gt lte)).trans hT
    have new : ObjOk X.prog X.w (upd H s.heap.objs.size (.tup [.int (k + (i : Nat)), x])) h'' s.heap.objs.size (.tup [.int (k + (i : Nat)), x]) :=
      ⟨by show 2 ≤ sizeLine; rw [sizeLine_eq]; omega, [.int (k + (i : Nat)) tk, x'], .cons ⟨_, rfl⟩ (.cons ru .nil), ⟨_, hT2, rfl, _, rfl⟩⟩
    have I1 : Inv X pins σ (upd H s.heap.objs.size (.tup [.int (k + (i : Nat)), x])) { s with heap := h'', toks := tk + 1 } :=
      I.turnedNew (ch := [e, it]) (fun b ob hb q => (sb.2 b (fun z => hb (by simp [z]))).trans (hk b ob (fun z => hb (by simp [z])) (fun z => hb (by simp [z])) q)) hf (Nat.le_refl _) new
    refine ⟨.ref s.heap.objs.size, _, I1, rfl, ⟨_, x, rfl, I.hok.fresh (Nat.le_refl _), rfl, fun ys hy => by rw [I.list_inj hy hq]; exact hx⟩, ⟨⟨x', ?_⟩, hit'.at fun o q => (sb.2 it (Ne.symm hne)).trans q, hne⟩, fun b hb => ?_⟩
    · have e1 : k + ((i + 1 : Nat) : Int) = k + (i : Int) + 1 := by omega
      rw [e1]; exact he'
    · have hb' : b < s.heap.objs.size := by
        rcases (show b = e ∨ b = it by simpa using hb) with z | z
        · subst z; exact lte
        · subst z; exact lti
      rw [upd_ne (Nat.ne_of_lt hb')]
      exact (hf b hb).1
  done := by
    intro X hP hw hK hc i pins s σ H E I hf st hg
    subst hP hw hK
    obtain ⟨⟨old, he⟩, hit, hne⟩ := st
    obtain ⟨xs, hq, hx⟩ := hg
    obtain ⟨its, rv, p, hz⟩ := I.list hq
    obtain ⟨f0, f1, f2, f3, f4, f5⟩ := hf it (by simp)
    have hsz : its.toArray.size = i := by rw [← hx, rv.length]; simp
    have hit2 : s.heap.IsListIter it a its.toArray.size := by rw [hsz]; exact hit
    exact wpAny_pyNext_enum_endD (Draws.list (prog := X.prog) (w := X.w) (A := X.A.in1) (I.ok.hd hc) it a hai its.toArray) he ⟨hit2, p.isList⟩ fun h' eb => ⟨rfl, I.turned (t' := s.toks) (fun b o hb q => eb b o hb q) f0 f1 f3 f4 f5⟩
  self := fun A i s Q E ⟨⟨_, he⟩, _⟩ h => wpAny_pyIter_enum he h
def iEnu (K : PySem.W.Frag) (ta : TA) : TI := fun σ H R => ta σ H fun vs H1 => ∃ a k xs, vs = [.ref a, .int k] ∧ okR k = true ∧ SqL K H1 a xs ∧ R (ItK k K a) H1
theorem pi_enuK {X : Cx} {e e2 : Expr} {ta : TA} {p pos tpos : Pos} {elts : List Expr} {kk : Nat} (hg : Gl X "enumerate") (hm : X.mg "enumerate" = none) (ha : PA X [e, e2] ta) (hs : starEach [e, e2] X.env = (false, eval e X.env) :: starEach [e2] X.env) (hpl : (backTo pos (starEach [e2] X.env)).any (·.1) = false) :
    PI X (.Tuple elts kk tpos) (.Call (.Name "enumerate" p) [e, e2] [] pos) (iEnu X.K ta) := by
  refine ⟨fun pins s σ H R I h => ?_⟩
  refine Call_ (ld_blt I hg hm boot_enumerate (PyProof.Rows.callWith_type1 (thn (ha.run pos pins s σ H _ I h) fun us s1 ⟨vs, H1, I1, r1, q1⟩ => ?_) hs hpl))
  obtain ⟨a, k, xs, ex, hk, hq, q⟩ := q1
  subst ex
  obtain ⟨u1, u2, rfl, ra, ri⟩ := vals2 r1
  · cases ra
    obtain ⟨t, rfl⟩ := ri
    have hk2 := okR_ok hk
    obtain ⟨its, rv, p', hz⟩ := I1.list hq
    have lta : a < s1.heap.objs.size := p'.lt
    refine enum_begins (begins_list a its.toArray) p'.isList (Int.le_trans (by decide) hk2.1) (Int.lt_trans hk2.2 (by decide)) fun h' he hit hsz hk => wpAny_pyIter_enum he ?_
    have I2 : Inv X pins σ H1 { s1 with heap := h' } := I1.kept (t' := s1.toks) hk
    refine ⟨s1.heap.objs.size + 1, [s1.heap.objs.size + 1, s1.heap.objs.size], _, _, H1, rfl, I2, turn_enuK k a (s1.heap.objs.size + 1) s1.heap.objs.size (Nat.ne_of_lt lta) (Nat.ne_of_lt (Nat.lt_succ_of_lt lta)), ⟨⟨.none, by simpa using he⟩, ⟨_, hit, rfl, rfl⟩, Nat.succ_ne_self _⟩, fun b hb => ?_, q⟩
    have hle : s1.heap.objs.size ≤ b := by
      rcases (show b = s1.heap.objs.size + 1 ∨ b = s1.heap.objs.size by simpa using hb) with z | z
      · rw [z]; exact Nat.le_add_right _ _
      · rw [z]; exact Nat.le_refl _
    exact I1.fpOk hle (I1.hok.fresh hle)
end MI
namespace MI
open PySem L2 PyProof.Rows
section
variable {g : G} {F : Addr → Prop} {α : List Addr} {π : PH} {H : Hp}
/-- a pair that was just made -/
theorem rd_pair {F' : Addr → Prop} {α' : List Addr} {H' : Hp} {p : Addr} {d e : D} {x y : V} (hp : H' p = none) (rd : RD g α' F' H' d x) (re : RD g α' F' H' e y) : Ex H' (upd H' p (.tup [x, y])) ∧ RD g α' F' (upd H' p (.tup [x, y])) (.tup [d, e]) (.ref p) := by
  have ex : Ex H' (upd H' p (.tup [x, y])) := Ex.new hp
  exact ⟨ex, .tup (.inl (.inl upd_same)) (.cons (rd.mono ex.le) (.cons (re.mono ex.le) .nil))⟩
/-- what a source over a list at a tells -/
structure LSrc (g : G) (F : Addr → Prop) (α : List Addr) (H : Hp) (s : Src) (a : Addr) : Prop where
  all : ∀ F' α' δ π' σ H', Via g α F H α' F' H' → Rel g F' α' δ π' σ H' →
    (∀ i d, s.get π' i = some d → ∃ xs v, SqL g.K H' a xs ∧ xs[i]? = some v ∧ RD g α' F' H' d v) ∧ (s.fin π' = true → ∃ xs, SqL g.K H' a xs ∧ xs.length = s.len)
theorem lsrc_fix {a : Addr} {ds : List D} {vs : List V} (h : ∀ α' F' H', Via g α F H α' F' H' → SqL g.K H' a vs ∧ RDs g α' F' H' ds vs) : LSrc g F α H (.fix ds) a := by
  refine ⟨fun F' α' δ π' σ H' le r => ?_⟩
  obtain ⟨h1, h2⟩ := h α' F' H' le
  refine ⟨fun i d hd => ?_, fun _ => ⟨vs, h1, by show vs.length = ds.length; rw [h2.length]⟩⟩
  obtain ⟨v, hv, rv⟩ := h2.get hd
  exact ⟨vs, v, h1, hv, rv⟩
theorem lsrc_mut {a : Addr} {i : Nat} {n : Nat} (ha : α[i]? = some a) : LSrc g F α H (.mut i n) a := by
  refine ⟨fun F' α' δ π' σ H' le r => ?_⟩
  have ha' := le.at_ _ _ ha
  refine ⟨fun j d hd => ?_, fun hf => ?_⟩
  · unfold Src.get at hd
    split at hd
    · rename_i ys hy
      split at hd
      · obtain ⟨vs, h1, h2⟩ := r.p.lst ha' hy
        obtain ⟨v, hv, rv⟩ := h2.get hd
        exact ⟨vs, v, .of h1, hv, rv⟩
      · cases hd
    · cases hd
  · unfold Src.fin at hf
    split at hf
    · rename_i ys hy
      obtain ⟨vs, h1, h2⟩ := r.p.lst ha' hy
      exact ⟨vs, .of h1, by show vs.length = n; rw [← h2.length]; exact of_decide_eq_true hf⟩
    · cases hf
/-- a list's source -/
theorem lsrc_of {d : D} {v : V} {s : Src} {ds : List D} (r : RelP g F α π H) (rd : RD g α F H d v) (hl : lsOf π d = some ds) (hs : srcOf π d = some s) : ∃ a xs, v = .ref a ∧ SqL g.K H a xs ∧ LSrc g F α H s a := by
  cases rd with
  | lst h1 h2 h5 h6 => cases hs; exact ⟨_, _, rfl, .of h1, lsrc_fix fun α' F' H' le => ⟨.of (le.keep _ _ h1 h2 h5).1, h6.via le⟩⟩
  | frz h1 h2 => cases hs; exact ⟨_, _, rfl, .inl (.inr ⟨_, h1⟩), lsrc_fix fun α' F' H' le => ⟨.inl (.inr ⟨_, le.frz _ _ _ h1⟩), h2.via le⟩⟩
  | @ref i a ha =>
    have h' : (match π[i]? with
      | some (.lst ys) => some (.mut i ys.length)
      | _ => none) = some s := hs
    split at h'
    · rename_i ys hy
      cases h'
      obtain ⟨vs, h5, h6⟩ := r.lst ha hy
      exact ⟨a, vs, rfl, .of h5, lsrc_mut ha⟩
    · cases h'
  | _ => cases hl
theorem enu_src {a : Addr} {s : Src} {k : Int} (h : LSrc g F α H s a) : RSrc g F α H (.enu k s) (ItK k g.K a) := by
  intro F' α' δ π' σ H' le r
  obtain ⟨h1, h2⟩ := h.all F' α' δ π' σ H' le r
  refine ⟨fun i d hi hd => ?_, fun hf => ?_⟩
  · have hd' : (s.get π' i).map (fun d => D.tup [.int (k + (i : Nat)), d]) = some d := hd
    rw [Option.map_eq_some_iff] at hd'
    obtain ⟨e, he, ed⟩ := hd'
    subst ed
    obtain ⟨xs, v, q1, q2, q3⟩ := h1 i e he
    refine ⟨⟨xs, v, q1, q2⟩, fun x H'' ⟨p, y, e1, e2, e3, e4⟩ => ?_⟩
    subst e1; subst e3
    have := e4 xs q1
    rw [q2] at this
    cases this
    exact rd_pair e2 (.int _) q3
  · obtain ⟨xs, q1, q2⟩ := h2 hf
    exact ⟨xs, q1, q2⟩
theorem enu0_src {a : Addr} {s : Src} (h : LSrc g F α H s a) : RSrc g F α H (.enu 0 s) (Ite g.K a) := by
  intro F' α' δ π' σ H' le r
  obtain ⟨h1, h2⟩ := h.all F' α' δ π' σ H' le r
  refine ⟨fun i d hi hd => ?_, fun hf => ?_⟩
  · have hd' : (s.get π' i).map (fun d => D.tup [.int (0 + (i : Nat)), d]) = some d := hd
    rw [Option.map_eq_some_iff] at hd'
    obtain ⟨e, he, ed⟩ := hd'
    subst ed
    obtain ⟨xs, v, q1, q2, q3⟩ := h1 i e he
    refine ⟨⟨xs, v, q1, q2⟩, fun x H'' ⟨p, y, e1, e2, e3, e4⟩ => ?_⟩
    subst e1; subst e3
    have := e4 xs q1
    rw [q2] at this
    cases this
    rw [Int.zero_add]
    exact rd_pair e2 (.int _) q3
  · obtain ⟨xs, q1, q2⟩ := h2 hf
    exact ⟨xs, q1, Nat.le_of_eq q2⟩
end
def fEnu1 : List D → PH → Res Src
  | [d], π => opt (lsOf π d) fun _ => opt (srcOf π d) fun s => .ok (.enu 0 s) π
  | _, _ => .stuck
def fEnu2 : List D → PH → Res Src
  | [d, .int k], π => opt (lsOf π d) fun _ => opt (srcOf π d) fun s => when_ (okR k) (.ok (.enu k s) π)
  | _, _ => .stuck
def fZip : List D → PH → Res Src
  | [.tup ds, .tup es], π => .ok (.zip (.fix ds) (.fix es)) π
  | [d, e], π => opt (lsOf π d) fun _ => opt (lsOf π e) fun _ => opt (srcOf π d) fun s => opt (srcOf π e) fun t => .ok (.zip s t) π
  | _, _ => .stuck
section
variable {X : Cx} {g : G} {W : WX} {a b : Expr} {p pos tpos : Pos} {ms : M (List D)} {elts : List Expr} {kk : Nat}
theorem tf_enu1 (hK : g.K = X.K) (hg : Gl X "enumerate") (hm : X.mg "enumerate" = none) (ha : PA X [a] (TAs g W ms)) (hs : starEach [a] X.env = [(false, eval a X.env)] := by rfl) : PI X (.Tuple elts kk tpos) (.Call (.Name "enumerate" p) [a] [] pos) (TSrc g W (mSrcA fEnu1 ms)) := by
  refine ⟨fun pins s σ H R I ⟨F, α, δ, π, r, h⟩ => (pi_enum hg hm ha hs).run pins s σ H R I ⟨F, α, δ, π, r, (Post.bind (R := RA g F) h).imp fun v H1 ⟨α1, π1, d, le, r1, rd, h2⟩ => ?_⟩⟩
  unfold fEnu1 at h2
  split at h2
  · obtain ⟨ds, hds, h3⟩ := opt_ok h2
    obtain ⟨sr, hsr, h4⟩ := opt_ok h3
    obtain ⟨w, rfl, rw'⟩ := rds1 rd
    obtain ⟨a, xs, rfl, hq, L⟩ := lsrc_of r1.p rw' hds hsr
    exact ⟨a, xs, rfl, hK ▸ hq, hK ▸ ok_post r1 h4 (enu0_src L)⟩
  · exact h2.elim
theorem tf_enu2 (hK : g.K = X.K) (hg : Gl X "enumerate") (hm : X.mg "enumerate" = none) (ha : PA X [a, b] (TAs g W ms)) (hs : starEach [a, b] X.env = (false, eval a X.env) :: starEach [b] X.env := by rfl) (hpl : (backTo pos (starEach [b] X.env)).any (·.1) = false := by rfl) : PI X (.Tuple elts kk tpos) (.Call (.Name "enumerate" p) [a, b] [] pos) (TSrc g W (mSrcA fEnu2 ms)) := by
  refine ⟨fun pins s σ H R I ⟨F, α, δ, π, r, h⟩ => (pi_enuK hg hm ha hs hpl).run pins s σ H R I ⟨F, α, δ, π, r, (Post.bind (R := RA g F) h).imp fun v H1 ⟨α1, π1, d, le, r1, rd, h2⟩ => ?_⟩⟩
  unfold fEnu2 at h2
  split at h2
  · obtain ⟨ds, hds, h3⟩ := opt_ok h2
    obtain ⟨sr, hsr, h4⟩ := opt_ok h3
    obtain ⟨hk, h5⟩ := when_ok h4
    obtain ⟨w, w2, rfl, rw', ri⟩ := rds2 rd
    cases ri
    obtain ⟨a, xs, rfl, hq, L⟩ := lsrc_of r1.p rw' hds hsr
    exact ⟨a, _, xs, rfl, hk, hK ▸ hq, hK ▸ ok_post r1 h5 (enu_src L)⟩
  · exact h2.elim
end
end MI
namespace MI
open PySem L2 PyProof.Rows
section
variable {g : G} {F : Addr → Prop} {α : List Addr} {π : PH} {H : Hp}
theorem zipL_src {a b : Addr} {s t : Src} (h : LSrc g F α H s a) (h' : LSrc g F α H t b) : RSrc g F α H (.zip s t) (Itz g.K a b) := by
  intro F' α' δ π' σ H' le r
  obtain ⟨h1, h2⟩ := h.all F' α' δ π' σ H' le r
  obtain ⟨k1, k2⟩ := h'.all F' α' δ π' σ H' le r
  refine ⟨fun i d hi hd => ?_, fun hf => ?_⟩
  · have hd' : (match s.get π' i, t.get π' i with
      | some d, some e => some (D.tup [d, e])
      | _, _ => none) = some d := hd
    split at hd'
    · rename_i e1 e2 he1 he2
      cases hd'
      obtain ⟨xs, v, q1, q2, q3⟩ := h1 i _ he1
      obtain ⟨ys, w, p1, p2, p3⟩ := k1 i _ he2
      refine ⟨⟨xs, ys, v, w, q1, p1, q2, p2⟩, fun x H'' ⟨p, y1, y2, e1, e2, e3, e4, e5⟩ => ?_⟩
      subst e1; subst e3
      have := e4 xs q1
      rw [q2] at this
      cases this
      have := e5 ys p1
      rw [p2] at this
      cases this
      exact rd_pair e2 q3 p3
    · cases hd'
  · have hf' : (s.fin π' && t.fin π') = true := hf
    rw [Bool.and_eq_true] at hf'
    obtain ⟨xs, q1, q2⟩ := h2 hf'.1
    obtain ⟨ys, p1, p2⟩ := k2 hf'.2
    refine ⟨xs, ys, q1, p1, ?_⟩
    show xs.length ≤ min s.len t.len ∨ ys.length ≤ min s.len t.len
    omega
theorem zipT_src {a b : Addr} {ds es : List D} {vs ws : List V} (h : SqT g.K H a vs) (hs : RDs g α F H ds vs) (k : SqT g.K H b ws) (ks : RDs g α F H es ws) : RSrc g F α H (.zip (.fix ds) (.fix es)) (RZ.ItzT g.K a b) := by
  intro F' α' δ π' σ H' le r
  have h1 := le.tup _ _ h
  have k1 := le.tup _ _ k
  have h2 := hs.via le
  have k2 := ks.via le
  refine ⟨fun i d hi hd => ?_, fun hf => ?_⟩
  · have hd' : (match ds[i]?, es[i]? with
      | some d, some e => some (D.tup [d, e])
      | _, _ => none) = some d := hd
    split at hd'
    · rename_i e1 e2 he1 he2
      cases hd'
      obtain ⟨v, q2, q3⟩ := h2.get he1
      obtain ⟨w, p2, p3⟩ := k2.get he2
      refine ⟨⟨vs, ws, v, w, h1, k1, q2, p2⟩, fun x H'' ⟨p, y1, y2, e1, e2, e3, e4, e5⟩ => ?_⟩
      subst e1; subst e3
      have := e4 vs h1
      rw [q2] at this
      cases this
      have := e5 ws k1
      rw [p2] at this
      cases this
      exact rd_pair e2 q3 p3
    · cases hd'
  · refine ⟨vs, ws, h1, k1, ?_⟩
    show vs.length ≤ min ds.length es.length ∨ ws.length ≤ min ds.length es.length
    have := h2.length
    have := k2.length
    omega
end
section
variable {X : Cx} {g : G} {W : WX} {a b : Expr} {p pos tpos : Pos} {ms : M (List D)} {elts : List Expr} {kk : Nat}
theorem tf_zip (hK : g.K = X.K) (hg : Gl X "zip") (hm : X.mg "zip" = none) (ha : PA X [a, b] (TAs g W ms)) (hs : starEach [a, b] X.env = (false, eval a X.env) :: starEach [b] X.env := by rfl) (hpl : (backTo pos (starEach [b] X.env)).any (·.1) = false := by rfl) : PI X (.Tuple elts kk tpos) (.Call (.Name "zip" p) [a, b] [] pos) (TSrc g W (mSrcA fZip ms)) := by
  refine ⟨fun pins s σ H R I ⟨F, α, δ, π, r, h⟩ => (RZ.pi_zipA hg hm ha hs hpl).run pins s σ H R I ⟨F, α, δ, π, r, (Post.bind (R := RA g F) h).imp fun v H1 ⟨α1, π1, d, le, r1, rd, h2⟩ => ?_⟩⟩
  unfold fZip at h2
  split at h2
  · obtain ⟨w, w2, rfl, rw', ri⟩ := rds2 rd
    cases rw' with
    | tup q1 q2 => cases ri with
      | tup p1 p2 => exact ⟨_, _, _, _, rfl, .inr ⟨hK ▸ q1, hK ▸ p1, hK ▸ ok_post r1 h2 (zipT_src q1 q2 p1 p2)⟩⟩
  · obtain ⟨ds, hds, h3⟩ := opt_ok h2
    obtain ⟨es, hes, h4⟩ := opt_ok h3
    obtain ⟨s1, hs1, h5⟩ := opt_ok h4
    obtain ⟨s2, hs2, h6⟩ := opt_ok h5
    obtain ⟨w, w2, rfl, rw', ri⟩ := rds2 rd
    obtain ⟨a, xs, rfl, q1, L1⟩ := lsrc_of r1.p rw' hds hs1
    obtain ⟨b, ys, rfl, q2, L2⟩ := lsrc_of r1.p ri hes hs2
    exact ⟨a, b, xs, ys, rfl, .inl ⟨hK ▸ q1, hK ▸ q2, hK ▸ ok_post r1 h6 (zipL_src L1 L2)⟩⟩
  · exact h2.elim
end
end MI

set_option Elab.async false
set_option linter.all false
set_option maxRecDepth 100000
set_option maxHeartbeats 4000000
/-! == of scalars of any text; list.count, list.index; sorted texts; repr. -/
namespace MI
open PySem L2 PyProof.Rows

/-! ### == -/
def scalD : D → D → Option Bool
  | .str a, .str b => some (a == b)
  | .int a, .int b => some (a == b)
  | .bl a, .bl b => some (a == b)
  | .non, .non => some true
  | .non, .int _ => some false | .int _, .non => some false
  | .non, .bl _ => some false | .bl _, .non => some false
  | .non, .str _ => some false | .str _, .non => some false
  | .int _, .str _ => some false | .str _, .int _ => some false
  | .bl _, .str _ => some false | .str _, .bl _ => some false
  | _, _ => none
def fEqS (neg : Bool) : D → D → PH → Res D := fun d e π => match scalD d e with
  | some b => .ok (.bl (b != neg)) π
  | none => fEq neg d e π
section
variable {g : G} {F : Addr → Prop} {α : List Addr} {H : Hp}
theorem scalD_ok {d e : D} {v w : V} {b : Bool} (rd : RD g α F H d v) (re : RD g α F H e w) (h : scalD d e = some b) : scal v w = true ∧ decide (v = w) = b := by
  unfold scalD at h
  split at h <;> (try cases h) <;> (cases rd; cases re) <;> refine ⟨rfl, ?_⟩ <;> first | exact dec_str | exact dec_int | exact dec_bl | rfl | (simp)
theorem or_eqS {X : Cx} {k : Nat} (hr : Room k X.A) : OpR X (compareOp .Eq) (fun x y H Q => rEq x y H Q ∨ rEqD X.K x y H Q) := OpR.or op_eq (op_eqD hr.units)
theorem or_neS {X : Cx} {k : Nat} (hr : Room k X.A) : OpR X (compareOp .NotEq) (fun x y H Q => rNe x y H Q ∨ rNeD X.K x y H Q) := OpR.or op_ne (op_neD hr.units)
theorem om_eqS : OpM g (fun x y H Q => rEq x y H Q ∨ rEqD g.K x y H Q) (fEqS false) := by
  intro F W α δ π σ H Q d e v w r rd re h
  unfold fEqS at h
  split at h
  · rename_i b hb
    obtain ⟨h1, h2⟩ := scalD_ok rd re hb
    refine .inl ⟨h1, ?_⟩
    rw [h2]
    have h' := ok_post (v := V.bl (b != false)) r h (.bl _)
    simpa using h'
  · exact .inr (om_eq F W α δ π σ H Q d e v w r rd re h)
theorem om_neS : OpM g (fun x y H Q => rNe x y H Q ∨ rNeD g.K x y H Q) (fEqS true) := by
  intro F W α δ π σ H Q d e v w r rd re h
  unfold fEqS at h
  split at h
  · rename_i b hb
    obtain ⟨h1, h2⟩ := scalD_ok rd re hb
    refine .inl ⟨h1, ?_⟩
    rw [h2]
    have h' := ok_post (v := V.bl (b != true)) r h (.bl _)
    simpa using h'
  · exact .inr (om_ne F W α δ π σ H Q d e v w r rd re h)
end

/-! ### xs.count(y), xs.index(y) of flat items -/
def rCnt (K : PySem.W.Frag) : V → List V → Hp → VK → Prop := fun x xs H Q => ∃ (a : Addr) (ys : List V) (y : V), x = .ref a ∧ xs = [y] ∧ SqL K H a ys ∧ flatV y = true ∧ ys.all flatV = true ∧ Q (.int (ys.countP (fun z => eqV z y) : Nat)) H
theorem mt_cnt {X : Cx} : MtR X "list.count" (rCnt X.K) := by
  intro pins s σ H x xs v us Q I rx rxs h
  obtain ⟨a, ys, y, rfl, rfl, hs, fy, fys, q⟩ := h
  cases rx
  obtain ⟨u, rfl, ry⟩ := rxs.one
  obtain ⟨its, rv, ⟨⟨cls, dd, data, sl⟩, n, ho, hc, hdn, hd⟩, hlen⟩ := I.list hs
  simp only at hc hd
  subst hc hd
  have ec : ∀ {vs : List V} {us : List Value}, Vals vs us → vs.all flatV = true → us.countP (eqU y) = vs.countP fun z => eqV z y := by
    intro vs us r
    induction r with
    | nil => intro _; rfl
    | cons r t ih =>
      intro h
      rw [List.all_cons, Bool.and_eq_true] at h
      rw [List.countP_cons, List.countP_cons, ih h.2, eqU_of r h.1]
  refine call_meets PySem.F.slot_list_count ⟨_, ho, rfl⟩ PySem.F.entry_list_count (PySem.F.args_list_count_2 _ _)
    (SeqAt.list_countAt a its.toArray n dd sl u (eqU y)) ⟨ho, fun u' hu' => mem_eqAt ry fy rv fys u' (by simpa using hu'), ?_⟩
  refine ⟨.int (ys.countP (fun z => eqV z y) : Nat), H, I.tok _, ⟨s.toks, ?_⟩, q⟩
  show Value.int ((its.toArray.toList.countP (eqU y) : Nat) : Int) s.toks = _
  rw [← ec rv fys]
def fCnt : D → List D → PH → Res D := fun d ds π => match ds with
  | [e] => opt (lsOf π d) fun xs => when_ (flatD e && xs.all flatD) (.ok (.int (xs.countP (fun z => eqF z e) : Nat)) π)
  | _ => .stuck
/-- the first place -/
def idxF (e : D) : List D → Nat → Option Nat
  | [], _ => none
  | x :: r, i => if eqF x e = true then some i else idxF e r (i + 1)
def fIdx : D → List D → PH → Res D := fun d ds π => match ds with
  | [e] => opt (lsOf π d) fun xs => when_ (flatD e && xs.all flatD) (opt (idxF e xs 0) fun j => .ok (.int (j : Nat)) π)
  | _ => .stuck
section
variable {g : G} {F : Addr → Prop} {α : List Addr} {H : Hp}
theorem cnt_ok {e : D} {w : V} (re : RD g α F H e w) (h2 : flatD e = true) : ∀ {ds : List D} {vs : List V}, RDs g α F H ds vs → ds.all flatD = true → vs.countP (fun z => eqV z w) = ds.countP fun z => eqF z e
  | _, _, .nil, _ => rfl
  | _, _, .cons h hs, e1 => by
    rw [List.all_cons, Bool.and_eq_true] at e1
    rw [List.countP_cons, List.countP_cons, cnt_ok re h2 hs e1.2, eqF_ok h re e1.1 h2]
theorem mm_cnt : MtM' g (rCnt g.K) fCnt := by
  intro F W α δ π σ H Q d v ds vs r rd rds h
  unfold fCnt at h
  split at h
  · obtain ⟨w, rfl, rw'⟩ := rds1 rds
    obtain ⟨xs, hx, h2⟩ := opt_ok h
    obtain ⟨hf, h3⟩ := when_ok h2
    rw [Bool.and_eq_true] at hf
    obtain ⟨a, ws, rfl, h4, h5⟩ := lsOf_ok r.p rd hx
    refine ⟨a, ws, w, rfl, rfl, h4, flat_ok rw' hf.1, flats_ok h5 hf.2, ?_⟩
    rw [cnt_ok rw' hf.1 h5 hf.2]
    exact ok_post r h3 (.int _)
  · exact h.elim
theorem idx_ok {e : D} {w : V} (re : RD g α F H e w) (h2 : flatD e = true) : ∀ {ds : List D} {vs : List V} {i j : Nat}, RDs g α F H ds vs → ds.all flatD = true → idxF e ds i = some j → ∃ n z, j = i + n ∧ vs[n]? = some z ∧ eqV z w = true ∧ ∀ (m : Nat) z', m < n → vs[m]? = some z' → eqV z' w = false
  | _, _, i, j, .nil, _, h => by cases h
  | _, _, i, j, .cons (d := d) (v := v) r t, e1, h => by
    rw [List.all_cons, Bool.and_eq_true] at e1
    unfold idxF at h
    by_cases hb : eqF d e = true
    · rw [if_pos hb] at h
      cases h
      exact ⟨0, v, rfl, rfl, by rw [eqF_ok r re e1.1 h2]; exact hb, fun m _ hm => absurd hm (Nat.not_lt_zero _)⟩
    · rw [if_neg hb] at h
      obtain ⟨n, z, h3, h4, h5, h6⟩ := idx_ok re h2 t e1.2 h
      refine ⟨n + 1, z, by omega, h4, h5, fun m z' hm hz => ?_⟩
      cases m with
      | zero =>
        cases hz
        rw [eqF_ok r re e1.1 h2]
        exact Bool.eq_false_iff.mpr hb
      | succ m => exact h6 m z' (by omega) hz
theorem mm_idx : MtM' g (rIndex g.K) fIdx := by
  intro F W α δ π σ H Q d v ds vs r rd rds h
  unfold fIdx at h
  split at h
  · obtain ⟨w, rfl, rw'⟩ := rds1 rds
    obtain ⟨xs, hx, h2⟩ := opt_ok h
    obtain ⟨hf, h3⟩ := when_ok h2
    rw [Bool.and_eq_true] at hf
    obtain ⟨j, hj, h4⟩ := opt_ok h3
    obtain ⟨a, ws, rfl, h5, h6⟩ := lsOf_ok r.p rd hx
    obtain ⟨n, z, h7, h8, h9, h10⟩ := idx_ok rw' hf.1 h6 hf.2 hj
    have e : j = n := by omega
    subst e
    exact ⟨a, ws, w, j, z, rfl, rfl, h5, flat_ok rw' hf.1, flats_ok h6 hf.2, h8, h9, h10, ok_post r h4 (.int _)⟩
  · exact h.elim
end
end MI
namespace MI
open PySem L2 PyProof.Rows
/-! ### repr -/
def fRepr : Fun_ := fun ds π => match ds with
  | [d] => opt (pdH π d) fun p => when_ (p.showable && SeqAt.shaped p && decide (p.shown.length ≤ sizeLine)) (.ok (.str p.shown) π)
  | _ => .stuck
def rRepr (K : PySem.W.Frag) : List V → Hp → VK → Prop := fun xs H Q => ∃ x p, xs = [x] ∧ Dp K H x p ∧ p.showable = true ∧ SeqAt.shaped p = true ∧ p.shown.length ≤ sizeLine ∧ Q (.str p.shown) H
theorem call_reprD {X : Cx} {k : Nat} (hr : Room k X.A) (hg : X.A.guards = some []) : CallR X (.builtin "repr") (rRepr X.K) := by
  intro pins s σ H xs us Q I r h
  obtain ⟨x, p, rfl, hd, hs, hsh, hz, q⟩ := h
  obtain ⟨u, rfl, ru⟩ := r.one
  obtain ⟨as, rs⟩ := Dp.reads I p x u hd ru
  have hsh' : p.canLay0 = true ∧ p.depth ≤ 64 := by
    unfold SeqAt.shaped at hsh
    rw [Bool.and_eq_true] at hsh
    exact ⟨hsh.1, of_decide_eq_true hsh.2⟩
  have hun := hr.un
  have hnd : p.hasDict = true → sysModules ∉ as := fun z => by
    rw [PyData.hasDict_of_canLay p hsh'.1] at z; cases z
  have fin : ∀ h' u' tk, (∀ b o, s.heap.get? b = some o → h'.get? b = some o) → EP X pins σ Q (.str p.shown u') { s with heap := h', toks := tk } := fun h' u' tk kp => ⟨.str p.shown, H, I.kept (t' := tk) kp, ⟨u', rfl⟩, q⟩
  cases rs with
  | none => exact P.repr_of_none (fin s.heap _ _ fun _ _ e => e)
  | bool b => exact P.repr_of_bool (fin s.heap _ _ fun _ _ e => e)
  | int i t =>
    have hi : i.natAbs.log2 < 1920 := by simpa [PyData.showable] using hs
    exact P.repr_of_int hi (fin s.heap _ _ fun _ _ e => e)
  | str y t => exact P.repr_of_str (fin s.heap _ _ fun _ _ e => e) hz
  | list h1 h2 h3 h4 => exact repr_of_reads' (.list h1 h2 h3 h4) hs hnd hg (by have := hsh'.2; omega) (fun _ _ e => e) fin hz
  | tuple h1 h2 h3 h4 => exact repr_of_reads' (.tuple h1 h2 h3 h4) hs hnd hg (by have := hsh'.2; omega) (fun _ _ e => e) fin hz
  | dict h1 h2 h3 h4 h5 => exact repr_of_reads' (.dict h1 h2 h3 h4 h5) hs hnd hg (by have := hsh'.2; omega) (fun _ _ e => e) fin hz
theorem cm_repr {g : G} : ClM g (rRepr g.K) fRepr := by
  intro F W α δ π σ H Q ds vs r rd h
  unfold fRepr at h
  split at h
  · obtain ⟨v, rfl, rv⟩ := rds1 rd
    obtain ⟨p, hp, h2⟩ := opt_ok h
    obtain ⟨hc, h3⟩ := when_ok h2
    rw [Bool.and_eq_true, Bool.and_eq_true] at hc
    exact ⟨v, p, rfl, pdH_ok r.p rv hp, hc.1.1, hc.1.2, of_decide_eq_true hc.2, ok_post r h3 (.str _)⟩
  · exact h.elim
end MI
namespace MI
open PySem L2 PyProof.Rows
/-! ### sorted texts -/
def leT (a b : Str) : Bool := decide (a.cps.toList ≤ b.cps.toList)
def sortT (xs : List Str) : List Str := xs.mergeSort leT
theorem leT_trans (a b c : Str) (h : leT a b = true) (h2 : leT b c = true) : leT a c = true := by
  unfold leT at *
  simp only [decide_eq_true_eq] at *
  exact List.le_trans h h2
theorem leT_total (a b : Str) : (leT a b || leT b a) = true := by
  unfold leT
  simp only [Bool.or_eq_true, decide_eq_true_eq]
  exact List.le_total _ _
theorem leT_anti {a b : Str} (h : leT a b = true) (h2 : leT b a = true) : a = b := by
  unfold leT at *
  simp only [decide_eq_true_eq] at *
  have e := List.le_antisymm h h2
  obtain ⟨⟨x⟩⟩ := a
  obtain ⟨⟨y⟩⟩ := b
  have e' : x = y := e
  rw [e']
theorem rising_pw : ∀ (ys : List Str) (p : Str), risingS p ys = true → (p :: ys).Pairwise fun a b => leT a b = true
  | [], p, _ => by simp
  | x :: r, p, h => by
    have h' : (!PySem.Spec.ltCps x.cps.toList p.cps.toList && risingS x r) = true := h
    rw [Bool.and_eq_true] at h'
    have px : leT p x = true := by
      have := h'.1
      rw [PyProof.Rows.ltCps_eq] at this
      unfold leT
      simpa using this
    have ih := rising_pw r x h'.2
    refine List.pairwise_cons.mpr ⟨fun z hz => ?_, ih⟩
    rcases List.mem_cons.mp hz with e | hz
    · rw [e]; exact px
    · exact leT_trans _ _ _ px ((List.pairwise_cons.mp ih).1 z hz)
theorem sortT_of {xs ys : List Str} (p : ys.Perm xs) (s : sortedS ys = true) : ys = sortT xs := by
  have pw : ys.Pairwise fun a b => leT a b = true := by
    cases ys with
    | nil => exact .nil
    | cons x r => exact rising_pw r x s
  have pw2 : (sortT xs).Pairwise fun a b => leT a b = true := List.pairwise_mergeSort leT_trans leT_total xs
  exact List.Perm.eq_of_pairwise (fun a b _ _ h h2 => leT_anti h h2) pw pw2 (p.trans (List.mergeSort_perm xs leT).symm)
def fSortT (reg : Bool) : Fun_ := fun ds π => match ds with
  | [d] => opt (lsOf π d) fun xs => opt (strsOf xs) fun ss => when_ (decide (ss.length < 64)) (alloc reg ((sortT ss).map D.str) π)
  | _ => .stuck
theorem cm_sortT {g : G} (reg : Bool) : ClM g (rSortedS g.K) (fSortT reg) := by
  intro F W α δ π σ H Q ds vs r rd h
  unfold fSortT at h
  split at h
  · obtain ⟨v, rfl, rv⟩ := rds1 rd
    obtain ⟨xs, hx, h2⟩ := opt_ok h
    obtain ⟨ss, hs, h3⟩ := opt_ok h2
    obtain ⟨hl, h4⟩ := when_ok h3
    obtain ⟨a, ws, rfl, h5, h6⟩ := lsOf_ok r.p rv hx
    have e := strs_ok hs h6
    subst e
    refine ⟨a, ss, rfl, h5, of_decide_eq_true hl, fun ys p hp hsd hn => ?_⟩
    have ey := sortT_of hp hsd
    subst ey
    exact alloc_post r (strs_rd _) h4 p hn
  · exact h.elim
end MI

set_option Elab.async false
set_option linter.all false
set_option maxRecDepth 100000
set_option maxHeartbeats 4000000
/-! The head's facts: defs, classes, own errors with super().__init__(a, b), tables of code objects. -/
namespace MI
open PySem L2 PyProof.Rows

theorem band {a b : Bool} (h : (a && b) = true) : a = true ∧ b = true := Bool.and_eq_true_iff.mp h
/-- a class over ValueError as its object says -/
def clsVE (K : PySem.W.Frag) (C : Addr) : Bool := match K.lookup C with
  | some ⟨.type t, _, .cls cd, sl⟩ => decide (t = "type") && (match cd.mro, sl.toList with
    | .ref C' :: bm, [_, _, _, _, some (.builtin n), _] => decide (C' = C) && (decide (n = "ValueError.__new__") && (!cd.hasDel && (cd.hasDict && HandSPX.refsVE bm)))
    | _, _ => false)
  | _ => false
theorem clsVE_ok {K : PySem.W.Frag} {C : Addr} (h : clsVE K C = true) : ∃ nm q N bs bm sn sub ab col dd k0 k1 k2 k3 k5, K.lookup C = some (excClassObj nm q C N bs bm true sn sub ab col dd k0 k1 k2 k3 k5 "ValueError.__new__") ∧ HandSPX.refsVE bm = true := by
  unfold clsVE at h
  split at h
  · rename_i t dd cd sl ho
    obtain ⟨h1, h2⟩ := band h
    split at h2
    · rename_i C' bm k0 k1 k2 k3 n k5 hm hs
      obtain ⟨h3, h4⟩ := band h2
      obtain ⟨h5, h6⟩ := band h4
      obtain ⟨h7, h8⟩ := band h6
      obtain ⟨h9, h10⟩ := band h8
      have e1 : t = "type" := of_decide_eq_true h1
      have e2 : C' = C := of_decide_eq_true h3
      have e3 : n = "ValueError.__new__" := of_decide_eq_true h5
      subst e1; subst e2; subst e3
      obtain ⟨nm, bs, mro, ns, qn, hd, sn, sb, ab, col, del⟩ := cd
      dsimp only at hm h7 h9
      subst hm
      have e4 : del = false := by simpa using h7
      subst e4; subst h9
      have e5 : sl = #[k0, k1, k2, k3, some (.builtin "ValueError.__new__"), k5] := by
        obtain ⟨l⟩ := sl
        simp only at hs
        rw [hs]
      subst e5
      exact ⟨nm, qn, ns, bs, bm, sn, sb, ab, col, dd, k0, k1, k2, k3, k5, ho, h10⟩
    · cases h2
  · cases h
/-- the cell that the def at f closes over; its code object -/
def cellOfF (K : PySem.W.Frag) (f : Addr) : Addr := match K.lookup f with
  | some ⟨_, _, .func fd, _⟩ => (match fd.closure with
    | [(_, c)] => c
    | _ => 0)
  | _ => 0
def codeOfF (K : PySem.W.Frag) (f : Addr) : Addr := match K.lookup f with
  | some ⟨_, _, .func fd, _⟩ => (match fd.code with
    | .ref c => c
    | _ => 0)
  | _ => 0
/-- an __init__ that says super(): what is seen of it; what it must be -/
abbrev FnS : Type := Option (Str × Str × Arguments × FuncBody × Scope × Addr × List Str × Addr)
def fnS (K : PySem.W.Frag) (f : Addr) : FnS := match K.lookup f with
  | some ⟨_, _, .func fd, _⟩ => some (fd.name, fd.qualname, fd.params, fd.body, fd.scope, fd.globals, fd.closure.map (·.1), fd.builtins)
  | _ => none
structure SupD where
  cls : Str
  qual : Str
  params : Arguments
  body : List Stmt
  scope : Scope
  flds : List Str
def SupD.val (d : SupD) : FnS := some ("__init__", d.qual, d.params, .stmts d.body, d.scope, mainGlobals, ["__class__"], builtinsNs)
def fileB (K : PySem.W.Frag) (file : Str) (cda : Addr) : Bool := match K.lookup cda with
  | some ⟨_, _, .fields vs, _⟩ => (match (vs[2]? : Option Value) with
    | some (.str fl _) => file == fl
    | _ => false)
  | _ => false
def cellB (K : PySem.W.Frag) (C cc : Addr) : Bool := match K.lookup cc with
  | some ⟨_, _, .cell (some (.ref D)), _⟩ => decide (D = C)
  | _ => false
def fnB (K : PySem.W.Frag) (f : Addr) : Bool := match K.lookup f with
  | some ⟨_, _, .func fd, _⟩ => (match fd.defaults, fd.code, fd.closure with
    | .none, .ref _, [_] => true
    | _, _, _ => false)
  | _ => false
def supB (file : Str) (K : PySem.W.Frag) (d : SupD) : Bool :=
  let C := He.ga K d.cls
  let f := He.ma K C "__init__"
  [clsVE K C, decide (PySem.W.findIn K (.ref C) "__setattr__" = some (some (.builtin "object.__setattr__"))), decide (PySem.W.findIn K (.ref C) "__init__" = some (some (.ref f))), decide (PySem.W.typeIn K (.ref f) = some (.type "function")),
    fnB K f, PySem.W.codeIn K (.ref (codeOfF K f)) d.qual, fileB K file (codeOfF K f), cellB K C (cellOfF K f), decide (PySem.W.ks_superIn K C C "__init__" = some (some (.builtin "ValueError.__init__"))),
    decide (PySem.W.subIn K (.ref C) (.type "ValueError") = some true), decide (PySem.W.mroIn K C (.ref C) = some true), decide (PySem.W.nsIn K cStatics "thirdparty.any" = some none), d.flds.all fun x => decide (PySem.W.findIn K (.ref C) x = some none),
    PySem.W.keepIn K (.ref C), decide (PySem.W.subIn K (.ref C) (.type "BaseException") = some true), decide (PySem.W.typeIn K (.ref C) = some (.type "type"))].all id
theorem supB_ok {prog : Program} {K : PySem.W.Frag} {mg : Str → Option Value} {d : SupD} (h : supB prog.main.file K d = true) (e : fnS K (He.ma K (He.ga K d.cls) "__init__") = d.val) (hS : mg "super" = none) (ht : (prog.main.scope.names.lookup ("super" : Str)).isSome = false) :
    MIX.SupC prog K mg (He.ga K d.cls) (He.ma K (He.ga K d.cls) "__init__") (cellOfF K (He.ma K (He.ga K d.cls) "__init__")) (codeOfF K (He.ma K (He.ga K d.cls) "__init__")) d.qual d.params d.body d.scope ∧ (∀ x ∈ d.flds, PySem.W.findIn K (.ref (He.ga K d.cls)) x = some none) ∧
    PySem.W.keepIn K (.ref (He.ga K d.cls)) = true ∧ PySem.W.subIn K (.ref (He.ga K d.cls)) (.type "BaseException") = some true ∧ PySem.W.typeIn K (.ref (He.ga K d.cls)) = some (.type "type") := by
  unfold supB at h
  simp only [List.all_cons, List.all_nil, id, Bool.and_true, Bool.and_eq_true, decide_eq_true_eq] at h
  generalize hC : He.ga K d.cls = C at h e ⊢
  generalize hf : He.ma K C "__init__" = f at h e ⊢
  obtain ⟨h1, h2, h3, h4, h5, h6, h7, h8, h9, h10, h11, h12, h13, h14, h15, h16⟩ := h
  refine ⟨⟨clsVE_ok h1, h2, h3, h4, ?_, h6, ?_, ?_, h9, h10, h11, h12, hS, ht⟩, fun x hx => of_decide_eq_true (List.all_eq_true.mp h13 x hx), h14, h15, h16⟩
  · unfold fnS at e
    unfold fnB at h5
    unfold codeOfF cellOfF
    split at h5
    · rename_i oc od fd osl ho
      rw [ho] at e ⊢
      obtain ⟨n1, n2, n3, n4, n5, n6, n7, n8, n9, n10, n11, n12, n13, n14, n15⟩ := fd
      dsimp only at h5 e ⊢
      split at h5
      · rename_i c q
        simp only [SupD.val, Option.some.injEq, Prod.mk.injEq] at e
        obtain ⟨a1, a2, a3, a4, a5, a6, a7, a8⟩ := e
        subst a1 a2 a3 a4 a5 a6 a8
        obtain ⟨qn, qc⟩ := q
        have a9 : qn = ("__class__" : Str) := by simpa using a7
        subst a9
        exact ⟨oc, od, _, _, _, _, _, osl, rfl⟩
      · cases h5
    · cases h5
  · unfold fileB at h7
    split at h7
    · rename_i oc od vs osl ho
      split at h7
      · rename_i fl t hv
        exact ⟨oc, od, vs, osl, fl, t, ho, hv, h7⟩
      · cases h7
    · cases h7
  · unfold cellB at h8
    split at h8
    · rename_i oc od D' osl ho
      have e1 : D' = C := of_decide_eq_true h8
      subst e1
      exact ⟨oc, od, osl, ho⟩
    · cases h8
end MI
namespace MI
open PySem L2 PyProof.Rows
/-! ### the Hook -/
abbrev AlM : Type := Bool × List He.FnW × List FnS
/-- what the names reach in n steps, the interpreter's statics -/
def asM (g : Addr → Option Obj) (n : Nat) : List Addr := He.asD g n ++ [cStatics]
def obsK (file : Str) (fa : List He.Fa) (ex : List (PySem.W.Frag → Bool)) (fn : List He.DefD) (su : List SupD) (K : PySem.W.Frag) (tb : Bool) : AlM :=
  (((fa.all fun f => f.ok K) && (ex.all fun f => f K)) && ((fn.all fun d => d.ok K) && ((su.all fun d => supB file K d) && tb)), fn.map fun d => He.fnW K d.at_, su.map fun d => fnS K (He.ma K (He.ga K d.cls) "__init__"))
def obsM (file : Str) (n : Nat) (fa : List He.Fa) (ex : List (PySem.W.Frag → Bool)) (fn : List He.DefD) (su : List SupD) (tf : List He.Defn) (g : Addr → Option Obj) : AlM :=
  obsK file fa ex fn su (He.frT g (asM g n)) (He.tabsB g tf (He.frT g (asM g n)))
def valM (fn : List He.DefD) (su : List SupD) : AlM := (true, fn.map He.DefD.val, su.map SupD.val)
structure SaysM (file : Str) (fa : List He.Fa) (ex : List (PySem.W.Frag → Bool)) (fn : List He.DefD) (su : List SupD) (tf : List He.Defn) (h : Heap) (K : PySem.W.Frag) : Prop where
  eq : obsK file fa ex fn su K true = valM fn su
  hd : ∀ p ∈ tf, PySem.W.codeHdIn K (He.cT K p).1 (He.cT K p).2 = true
  out : ∀ p ∈ tf, K.lookup (He.cT K p).2 = none
  empty : ∀ p ∈ tf, h.get? (He.cT K p).2 = some { cls := .none, data := .fields #[] }
theorem saysM_of {file : Str} {n : Nat} {fa : List He.Fa} {ex : List (PySem.W.Frag → Bool)} {fn : List He.DefD} {su : List SupD} {tf : List He.Defn} {h : Heap} (e : obsM file n fa ex fn su tf h.get? = valM fn su) : SaysM file fa ex fn su tf h (He.frT h.get? (asM h.get? n)) := by
  unfold obsM at e
  have e1 : (((fa.all fun f => f.ok (He.frT h.get? (asM h.get? n))) && (ex.all fun f => f (He.frT h.get? (asM h.get? n)))) && ((fn.all fun d => d.ok (He.frT h.get? (asM h.get? n))) && ((su.all fun d => supB file (He.frT h.get? (asM h.get? n)) d) && He.tabsB h.get? tf (He.frT h.get? (asM h.get? n))))) = true := congrArg (fun z : AlM => z.1) e
  obtain ⟨h1, h2⟩ := band e1
  obtain ⟨h3, h4⟩ := band h2
  obtain ⟨h5, h6⟩ := band h4
  rw [h6] at e
  have key : ∀ p ∈ tf, PySem.W.codeHdIn (He.frT h.get? (asM h.get? n)) (He.cT (He.frT h.get? (asM h.get? n)) p).1 (He.cT (He.frT h.get? (asM h.get? n)) p).2 = true ∧ ∃ o, h.get? (He.cT (He.frT h.get? (asM h.get? n)) p).2 = some o ∧ He.emptyTab o = true := fun p hp => by
    obtain ⟨a, b⟩ := band (List.all_eq_true.mp h6 p hp)
    refine ⟨a, ?_⟩
    cases q : h.get? (He.cT (He.frT h.get? (asM h.get? n)) p).2 with
    | none => rw [q] at b; cases b
    | some o => rw [q] at b; exact ⟨o, rfl, b⟩
  refine ⟨e, fun p hp => (key p hp).1, fun p hp => ?_, fun p hp => ?_⟩
  · obtain ⟨_, o, q, z⟩ := key p hp
    exact He.frT_none q z
  · obtain ⟨_, o, q, z⟩ := key p hp
    rw [q, He.emptyTab_eq z]
def hookM (file : Str) (n : Nat) (fa : List He.Fa) (ex : List (PySem.W.Frag → Bool)) (fn : List He.DefD) (su : List SupD) (tf : List He.Defn) : PySem.W.Hook where
  α := AlM
  obs := fun s => obsM file n fa ex fn su tf s.heap.get?
  val := fun _ => valM fn su
  says := fun _ h => ∃ K : PySem.W.Frag, K.In h ∧ SaysM file fa ex fn su tf h K
  of := fun _ _ e => ⟨_, He.frT_in, saysM_of e⟩
  keeps := fun _ _ _ ⟨K, hK, c⟩ k => ⟨K, PySem.W.Frag.In.keeps hK k, ⟨c.eq, c.hd, c.out, fun p hp => k _ _ (c.empty p hp)⟩⟩
theorem obsM_eq {file : Str} {n : Nat} {fa : List He.Fa} {ex : List (PySem.W.Frag → Bool)} {fn : List He.DefD} {su : List SupD} {tf : List He.Defn} {g : Addr → Option Obj} {s : Shared} (h : ∀ a, g a = s.heap.get? a) : obsM file n fa ex fn su tf g = (hookM file n fa ex fn su tf).obs s := by
  have e : g = s.heap.get? := funext h
  rw [e] <;> rfl
section
variable {file : Str} {fa : List He.Fa} {ex : List (PySem.W.Frag → Bool)} {fn : List He.DefD} {su : List SupD} {tf : List He.Defn} {h : Heap} {K : PySem.W.Frag}
theorem SaysM.d (c : SaysM file fa ex fn su tf h K) : He.SaysD fa fn K := by
  have e1 : (((fa.all fun f => f.ok K) && (ex.all fun f => f K)) && ((fn.all fun d => d.ok K) && ((su.all fun d => supB file K d) && true))) = true := congrArg (fun z : AlM => z.1) c.eq
  have e2 : fn.map (fun d => He.fnW K d.at_) = fn.map He.DefD.val := congrArg (fun z : AlM => z.2.1) c.eq
  obtain ⟨h1, h2⟩ := band e1
  unfold He.SaysD He.obsD He.valD
  rw [e2, (band h1).1, (band h2).1]
  rfl
theorem SaysM.exq (c : SaysM file fa ex fn su tf h K) (i : Nat) {f : PySem.W.Frag → Bool} (hi : ex[i]? = some f) : f K = true := by
  have e1 : (((fa.all fun f => f.ok K) && (ex.all fun f => f K)) && ((fn.all fun d => d.ok K) && ((su.all fun d => supB file K d) && true))) = true := congrArg (fun z : AlM => z.1) c.eq
  exact List.all_eq_true.mp (band (band e1).1).2 f (List.mem_of_getElem? hi)
theorem SaysM.sup (c : SaysM file fa ex fn su tf h K) (i : Nat) {d : SupD} (hi : su[i]? = some d) : supB file K d = true ∧ fnS K (He.ma K (He.ga K d.cls) "__init__") = d.val := by
  have e1 : (((fa.all fun f => f.ok K) && (ex.all fun f => f K)) && ((fn.all fun d => d.ok K) && ((su.all fun d => supB file K d) && true))) = true := congrArg (fun z : AlM => z.1) c.eq
  have e2 : su.map (fun d => fnS K (He.ma K (He.ga K d.cls) "__init__")) = su.map SupD.val := congrArg (fun z : AlM => z.2.2) c.eq
  refine ⟨List.all_eq_true.mp (band (band (band e1).2).2).1 d (List.mem_of_getElem? hi), ?_⟩
  have e3 : (su.map fun d => fnS K (He.ma K (He.ga K d.cls) "__init__"))[i]? = (su.map SupD.val)[i]? := by rw [e2]
  rw [List.getElem?_map, List.getElem?_map, hi] at e3
  exact Option.some.inj e3
end
/-- an exception's class, of an exception that is held -/
def excvB (x : Str) (K : PySem.W.Frag) : Bool :=
  let C := He.ga K x
  [(PySem.W.clsIn K C).isSome, decide (PySem.W.findIn K (.ref C) "__getattribute__" = some (some (.builtin "BaseException.__getattribute__"))), decide (PySem.W.findIn K (.ref C) "__getattr__" = some none), decide (PySem.W.subIn K (.ref C) (.type "BaseException") = some true),
    decide (PySem.W.findIn K (.ref C) "__class__" = some (some (.builtin "object.__class__"))), decide (PySem.W.specialIn K (.builtin "object.__class__") "__get__" = some (some (.builtin "getset_descriptor.__get__"))), decide (PySem.W.takesIn K (.builtin "object.__class__") = some true),
    decide (PySem.W.mroIn K C (.type "object") = some true), PySem.W.hasDictIn K C].all id
theorem excvB_ok {x : Str} {K : PySem.W.Frag} (h : excvB x K = true) : ExcV K (He.ga K x) := by
  unfold excvB at h
  simp only [List.all_cons, List.all_nil, id, Bool.and_true, Bool.and_eq_true, decide_eq_true_eq] at h
  obtain ⟨h1, h2, h3, h4, h5, h6, h7, h8, h9⟩ := h
  exact ⟨h1, h2, h3, h4, h5, h6, h7, h8, h9⟩
/-- isinstance of an x, a class y; a built-in class y -/
def isOwnB (x y : Str) (b : Bool) (K : PySem.W.Frag) : Bool := decide (PySem.W.kitOne K (.ref (He.ga K x)) (.ref (He.ga K y)) = some b)
def isTyB (x : Str) (y : String) (b : Bool) (K : PySem.W.Frag) : Bool := decide (PySem.W.kitOne K (.ref (He.ga K x)) (.type y) = some b)
end MI

set_option Elab.async false
set_option linter.all false
set_option maxRecDepth 100000
set_option maxHeartbeats 4000000
/-! f(lambda: e), the lambda reading names of its maker; f calls it. -/
namespace MI
open PySem L2 PyProof.Rows LamX

section
variable {X : Cx} {pins : List (Addr × Obj)} {σ : L2.St} {H HZ : Hp} {s s1 : Shared}
/-- the def's context, entered from X at s -/
abbrev calCx (X : Cx) (Ng : List Str) (qg : Str) (sg : Scope) (gf : Addr) (cdg : Value) (s : Shared) (H : Hp) : Cx := cxOf C8.CX0 X.prog X.w X.K X.mg X.base Ng qg sg gf cdg X.A X.stack s H C8.E0
/-- the call of what was handed, where what is raised is wished for at the caller's slots -/
theorem pe_ask {Ng : List Str} {qg : Str} {sg : Scope} {gf fl cl : Addr} {cdg pm ctv : Value} {params : Arguments} {body : Expr} {scope : Scope} {k i : Nat} {a : Str} {pn : List (Addr × Obj)} {xe : Value → Shared → Prop} {W : WX} {tb : XK → TE} {p1 p2 : Pos}
    (I : Inv X pins σ H s) (L : LamS X.env.scope scope) (hlam : s.heap.get? fl = some (PySem.W.kla_obj "<lambda>" (X.env.qual ++ "<lambda>") params body scope (cloFrom X.env.cells scope.names []) pm cl ctv)) (hnH : H fl = none) (hnF : fl ∉ frs X.stack)
    (hbind : bindArgs (PySem.W.kla_fn "<lambda>" (X.env.qual ++ "<lambda>") params body scope (cloFrom X.env.cells scope.names []) pm (.ref cl) ctv) ⟨[], []⟩ = pure [])
    (tk : Takes ((calCx X Ng qg sg gf cdg s H).tr pn xe) W) (hroom : Room (k + 1) (X.A.deeper (envOfC qg sg s.heap.objs.size gf cdg)))
    (hbody : ∀ (A : Around) (outer : List PySem.Env) (s : Shared) (H : Hp) (E : XK), Room k (A.deeper (lamEnv X scope s.heap.objs.size fl cl)) → PE (lamCx X A outer s H E scope fl cl) body (tb E))
    (hN : Ng[i]? = some a) (hv : Vis sg a) (hd : (a == ("__debug__" : Str)) = false) (hcd : (a == ("__classdict__" : Str)) = false) :
    PE ((calCx X Ng qg sg gf cdg s H).tr pn xe) (.Call (.Name a p1) [] [] p2) (fun σZ HZ Q => σZ[i]? = some (some (.ref fl)) ∧ HZ cl = some (CodeO cl (X.env.qual ++ "<lambda>")) ∧ tb (WE W σZ) σ HZ Q) := by
  refine ⟨fun pinsZ sZ σZ HZ Q IZ ⟨hsl, hco, ht⟩ => ?_⟩
  refine wpAny_Call_Name_kw (thn ((pe_var (pos := p1) (i := i) hN hv hd hcd).run pinsZ sZ σZ HZ (fun v H1 => v = .ref fl ∧ H1 = HZ) IZ ⟨.ref fl, hsl, rfl, rfl⟩) fun u s1 ⟨v, H1, I1, r1, ev, eH⟩ => ?_)
  subst ev
  rw [eH] at I1
  obtain rfl : u = Value.ref fl := r1
  have at1 : s1.heap.get? fl = some (PySem.W.kla_obj "<lambda>" (X.env.qual ++ "<lambda>") params body scope (cloFrom X.env.cells scope.names []) pm cl ctv) := I1.base.keep fl _ hlam hnH hnF (fun z => nomatch (show fl ∈ ([] : List Addr) from z))
  refine PySem.W.callWith_F0 ⟨_, _, _, _, at1⟩ ?_
  have unb : Un (frs X.stack) [] H HZ s.heap s1.heap := I1.base
  obtain ⟨⟨oc, vs, t, e1, e2, e3⟩, _, _⟩ := I1.hok cl _ hco
  have code : codeAny (model X.prog X.w) (X.A.deeper (envOfC qg sg s.heap.objs.size gf cdg)) (.call (.ref fl) ⟨[], []⟩) (CR (L2.CX X.prog X.w) (envOfC qg sg s.heap.objs.size gf cdg :: X.stack) X.prog X.w HZ s1 Q (WE W σZ)) s1 := by
    refine PySem.W.kla_callFunE hroom.depth at1 rfl L.co L.gen rfl ⟨cl, oc, vs, t, rfl, e1, e2, e3⟩ ?_
    rw [hbind]
    refine wpAny_pure (wpAny_newFunctionEnv (fun y hy => (L.own y hy).2) (fun y hy => absurd hy (by simp)) (fun h1 hns hsb => ⟨I1.nolimit.fresh _ hsb, ?_⟩) L.kind)
    show codeAny _ _ (.expr body (lamEnv X scope s1.heap.objs.size fl cl)) _ _
    have kept : ∀ b o, s1.heap.get? b = some o → h1.get? b = some o := fun b o e => hsb.extBut b o (Nat.ne_of_lt (Heap.lt_size e)) (Heap.get?_push_of_some _ e)
    have J := lam_start2 (E := WE W σZ) (f := fl) (c' := cl) (tk := s1.toks + ([] : List (Str × Value)).length) I L I1.env0 hroom.hd unb hns kept
    refine PySem.W.kla_codeExpr (wpAny_mono ((hbody _ _ s1 HZ (WE W σZ) (hroom.deeper _)).run [] _ _ HZ Q J ht) (fun v s' ⟨w', H', J', rv, q⟩ => ?_) fun e s' z => z)
    exact ⟨w', H', J'.os, J'.bare, J'.base, J'.hok, rv, q⟩
  refine wpAny_call (codeAny_mono code fun r s' hq => ?_)
  cases r with
  | error e => exact passAt tk σZ pinsZ HZ s1 e s' I1 hq
  | ok fl =>
    cases fl with
    | ret u => exact I1.after hq
    | next => exact False.elim hq
    | brk => exact False.elim hq
    | cont => exact False.elim hq
end
/-- the captured slots alone -/
def onlyE : List Nat → List D → Env → Option Env
  | [], [], δ => some δ
  | i :: is, d :: ds, δ => onlyE is ds (δ.set i (some d))
  | _, _, _ => none
def capt (δ : Env) : List Nat → Option (List D)
  | [] => some []
  | i :: is => match δ[i]?, capt δ is with
    | some (some d), some ds => some (d :: ds)
    | _, _ => none
/-- what the lambda does: its captured names alone, at the places is of n -/
def askE (n : Nat) (is : List Nat) (ml : M D) (ds : List D) : PH → Res D := fun π => match onlyE is ds (List.replicate n none) with
  | some δ => ml δ π
  | none => .stuck
open Classical in
noncomputable def mAsk (i : Nat) (f c : Addr) (q : Str) (ds : List D) (vs : List V) (ask : PH → Res D) : M D := fun δ π => if δ[i]? = some (some (.clo f c q ds vs)) then ask π else .stuck
theorem mAsk_of {i : Nat} {f c : Addr} {q : Str} {ds : List D} {vs : List V} {ask : PH → Res D} {δ : Env} {π : PH} (h : δ[i]? = some (some (.clo f c q ds vs))) : mAsk i f c q ds vs ask δ π = ask π := if_pos h
section
variable {g : G} {F : Addr → Prop} {α : List Addr} {H : Hp}
theorem capt_len : ∀ {is : List Nat} {ds : List D} {δ : Env}, capt δ is = some ds → ds.length = is.length
  | [], _, _, h => by cases h; rfl
  | i :: is, ds, δ, h => by
    unfold capt at h
    split at h
    · rename_i d ds' h1 h2
      cases h
      simp [capt_len h2]
    · cases h
/-- the captured slots' values -/
theorem capt_rd {δ : Env} {π : PH} {σ : L2.St} (r : Rel g F α δ π σ H) : ∀ {is : List Nat} {ds : List D}, capt δ is = some ds → ∃ vs, RDs g α F H ds vs ∧ ∀ (n : Nat) i v, is[n]? = some i → vs[n]? = some v → σ[i]? = some (some v)
  | [], _, h => by cases h; exact ⟨[], .nil, fun n i v h => by simp at h⟩
  | i :: is, ds, h => by
    unfold capt at h
    split at h
    · rename_i d ds' h1 h2
      cases h
      obtain ⟨v, hv, rv⟩ := r.slot i d h1
      obtain ⟨vs, h3, h4⟩ := capt_rd r h2
      refine ⟨v :: vs, .cons rv h3, fun n j w e1 e2 => ?_⟩
      cases n with
      | zero =>
        simp at e1 e2
        subst e1; subst e2
        exact hv
      | succ n => exact h4 n j w (by simpa using e1) (by simpa using e2)
    · cases h
theorem only_rel {σ : L2.St} {π : PH} : ∀ {is : List Nat} {ds : List D} {vs : List V} {δ δ' : Env}, Rel g F α δ π σ H → RDs g α F H ds vs → (∀ (n : Nat) i v, is[n]? = some i → vs[n]? = some v → σ[i]? = some (some v)) → onlyE is ds δ = some δ' → Rel g F α δ' π σ H
  | [], [], _, δ, δ', r, _, _, h => by cases h; exact r
  | [], _ :: _, _, _, _, _, _, _, h => by cases h
  | _ :: _, [], _, _, _, _, _, _, h => by cases h
  | i :: is, d :: ds, _, δ, δ', r, .cons (v := v) rd rs, hσ, h => by
    have hi := hσ 0 i v rfl rfl
    have r2 : Rel g F α (δ.set i (some d)) π σ H := by
      have q := r.set (i := i) rd
      have e : σ.set i (some v) = σ := by
        apply List.ext_getElem?
        intro j
        rw [List.getElem?_set]
        by_cases hij : i = j
        · subst hij
          have hl := (List.getElem?_eq_some_iff.mp hi).1
          rw [if_pos rfl, if_pos hl, hi]
        · rw [if_neg hij]
      rw [e] at q
      exact q
    exact only_rel r2 rs (fun n j w e1 e2 => hσ (n + 1) j w (by simpa using e1) (by simpa using e2)) h
theorem rel_none {σ : L2.St} {π : PH} (r : RelP g F α π H) : Rel g F α (List.replicate σ.length none) π σ H := ⟨r, by simp, fun i d h => by
  rw [List.getElem?_replicate] at h
  split at h <;> cases h⟩
end
end MI
namespace MI
open PySem L2 PyProof.Rows LamX
section
variable {X : Cx} {pins : List (Addr × Obj)} {σ : L2.St} {H : Hp} {s : Shared}
/-- a lambda that captures is made: it is not tracked -/
theorem lam_newC {c P : Addr} {ps : Array Value} {params : Arguments} {body : Expr} {scope : Scope} {pos : Pos} {E : Value → Shared → Prop} {Q : Value → Shared → Prop} (I : Inv X pins σ H s) (TB : TabB X.base X.mg c P) (hcode : X.env.code = .ref c)
    (hP : H P = some (.tbl ps)) (ht : TriplesOk ps.toList) (ha : ∀ (pos : Pos) (cv : Value), codeAmong pos ps.toList = some cv → ∃ c, cv = .ref c ∧ H c = some (CodeO c (X.env.qual ++ "<lambda>")))
    (hdef : defaultsOf params X.env = ([], [])) (hfree : ∀ y ∈ scope.names, y.2 = .free → ∃ c, X.env.cells.lookup y.1 = some c)
    (h : ∀ (f c' : Addr) (pm ctv : Value) (s' : Shared) (H1 : Hp), Inv X pins σ H1 s' → s'.heap.get? f = some (PySem.W.kla_obj "<lambda>" (X.env.qual ++ "<lambda>") params body scope (cloFrom X.env.cells scope.names []) pm c' ctv) → H1 f = none → f ∉ frs X.stack → H1 c' = some (CodeO c' (X.env.qual ++ "<lambda>")) →
      ((H1 = H ∧ codeAmong pos ps.toList = some (.ref c')) ∨ (H c' = none ∧ H1 = upd (upd H P (.tbl (ps ++ #[rawInt pos.line, rawInt pos.col, .ref c']))) c' (CodeO c' (X.env.qual ++ "<lambda>")))) → Q (.ref f) s') :
    wpAny (model X.prog X.w) X.A (eval (.Lambda params body scope pos) X.env) Q E s := by
  refine PySem.W.kla_eval hdef ?_
  have bltP : s.heap.BuiltinsAt X.mg P := TB.bm.keeps I.bk
  have objP : s.heap.get? P = some { cls := .none, data := .fields ps } := I.hok P _ hP
  have nofr : ∀ f, s.heap.objs.size ≤ f → f ∉ frs X.stack := fun f hf z => by
    rcases List.mem_cons.mp (I.stkSub _ z) with e | e
    · have l1 := I.lt
      rw [← e] at l1
      exact Nat.lt_irrefl _ (Nat.lt_of_lt_of_le l1 hf)
    · exact I.nofs hf e
  cases hcm : codeAmong pos ps.toList with
  | none =>
    refine PySem.W.kla_makeFunction (mg := X.mg) (c := c) (P := P) (ps := ps) (closure_ok hfree) I.ok.glob (I.mod.glob.keeps I.bk) hcode (TB.code.keeps I.bk) objP ht hcm TB.gP bltP fun c' ctv h' tk hx hge hlt hrec htb => ?_
    obtain ⟨c2, oc, vs, t, e2, hoc, hd, hv⟩ := hrec
    cases e2
    have hsz : s.heap.objs.size ≤ h'.objs.size := Nat.le_trans hge (Nat.le_of_lt hlt)
    have I1 := inv_table (t' := tk) (more := #[rawInt pos.line, rawInt pos.col, .ref c']) (h' := h') I hP (fun b o hb e => hx b o hb e) htb hge ⟨oc, vs, t, hoc, hd, hv⟩
    have hfr := I1.hok.fresh (a := h'.objs.size) (Nat.le_refl _)
    have I2 := I1.kept (t' := tk) (h' := h'.push (PySem.W.kla_obj "<lambda>" (X.env.qual ++ "<lambda>") params body scope (cloFrom X.env.cells scope.names []) ((X.mg "__name__").getD .none) c' ctv)) (fun b o e => Heap.get?_push_of_some _ e)
    exact h h'.objs.size c' _ ctv _ _ I2 (Heap.get?_push_size _ rfl) hfr (nofr _ hsz) upd_same (.inr ⟨I.hok.fresh hge, rfl⟩)
  | some cv =>
    obtain ⟨c', e, hco⟩ := ha pos cv hcm
    subst e
    refine PySem.W.kla_makeFunctionHit (mg := X.mg) (c := c) (P := P) (ps := ps) (closure_ok hfree) I.ok.glob (I.mod.glob.keeps I.bk) hcode (TB.code.keeps I.bk) objP ht hcm bltP fun ctv h' tk hx hsz => ?_
    have I1 : Inv X pins σ H { s with heap := h', toks := tk } := I.kept fun b o e => hx b o e
    have I2 := I1.kept (t' := tk) (h' := h'.push (PySem.W.kla_obj "<lambda>" (X.env.qual ++ "<lambda>") params body scope (cloFrom X.env.cells scope.names []) ((X.mg "__name__").getD .none) c' ctv)) (fun b o e => Heap.get?_push_of_some _ e)
    exact h h'.objs.size c' _ ctv _ _ I2 (Heap.get?_push_size _ rfl) (I.hok.fresh hsz) (nofr _ hsz) hco (.inl ⟨rfl, hcm⟩)
end
def noX : Res D → Res D
  | .exc _ _ => .stuck
  | r => r
/-- f(lambda: ..): R, what f makes of what was handed to it -/
def mSaid (t : Nat) (q : Str) (is : List Nat) (n : Nat) (ml : M D) (R : (PH → Res D) → PH → Res D) : M D := fun δ π => match π[t]? with
  | some (.tbl q') => when_ (decide (q' = q)) (opt (capt δ is) fun ds => noX (R (askE n is ml ds) π))
  | _ => .stuck
theorem Post.frame {g : G} {F : Addr → Prop} {W : WX} {α : List Addr} {δ δ' : Env} {π0 : PH} {σ σ' : L2.St} {H : Hp} {Q : VK} {r : Res D} (rl : Rel g F α δ π0 σ H) (h : Post g F (RV g F) W α δ σ H Q r) : Post g F (RV g F) (fun c d _ H' => W c d σ H') α δ' σ' H Q r := by
  cases r with
  | ok b π => exact fun α' H' v le r' x => h α' H' v le (rl.with le r'.p) x
  | exc x π => exact fun α' H' c d le r' y => h α' H' c d le (rl.with le r'.p) y
  | stuck => exact h
theorem te_said {X : Cx} {g : G} {W : WX} {x a q : Str} {gf : Addr} {fd : FuncData} {k : Nat} {pg : Arguments} {bg : List Stmt} {sg : Scope} {Ng : List Str} {params : Arguments} {body : Expr} {scope : Scope} {p lpos pos : Pos} {ml : M D} {ms : Addr → Addr → List D → List V → (PH → Res D) → MS} {R : (PH → Res D) → PH → Res D} (t : Nat) (is : List Nat) (n : Nat)
    (hK : g.K = X.K) (hg : Gl X x) (hm : X.mg x = some (.ref gf)) (Fu : FunD g.K x x pg bg sg [] [] gf fd) (hb : Binds g.K fd [a] []) (Sg : FnScope Ng [a] sg) (hT : TabAt X g t) (L : LamS X.env.scope scope) (hr : Room (k + 2) X.A) (hn : X.N.length = n)
    (hbody : ∀ (A : Around) (outer : List PySem.Env) (s : Shared) (H : Hp) (E : XK) (f c' : Addr), Room k (A.deeper (lamEnv X scope s.heap.objs.size f c')) → Takes (lamCx X A outer s H E scope f c') (fun cls d _ H' => E cls d H') → PE (lamCx X A outer s H E scope f c') body (T g (fun cls d _ H' => E cls d H') ml))
    (hcal : ∀ (cdg : Value) (s : Shared) (H : Hp) (f c : Addr) (ds : List D) (vs : List V) (ask : PH → Res D), Room (k + 1) (X.A.deeper (envOfC x sg s.heap.objs.size gf cdg)) →
      (∀ (W : WX) (pn : List (Addr × Obj)) (xe : Value → Shared → Prop) (p1 p2 : Pos), Takes ((calCx X Ng x sg gf cdg s H).tr pn xe) W → PE ((calCx X Ng x sg gf cdg s H).tr pn xe) (.Call (.Name a p1) [] [] p2) (T g W (mAsk 0 f c q ds vs ask))) →
      PSs (calCx X Ng x sg gf cdg s H).nox bg (TM g (fun _ _ _ _ => False) (ms f c ds vs ask)))
    (hR : ∀ (f c : Addr) (ds : List D) (vs : List V) (ask : PH → Res D) (π : PH), runB Ng.length (ms f c ds vs ask) [.clo f c q ds vs] π = R ask π)
    (hq : q = X.env.qual ++ "<lambda>" := by rfl) (hdef : defaultsOf params X.env = ([], []) := by rfl) (hbind : ∀ (q : Str) (cl : List (Str × Addr)) (pm cv ctv : Value), bindArgs (PySem.W.kla_fn "<lambda>" q params body scope cl pm cv ctv) ⟨[], []⟩ = pure [] := by intros; rfl)
    (hNg : Ng[0]? = some a := by rfl) (hva : Vis sg a := by exact Or.inl rfl) (hdb : (x == ("__debug__" : Str)) = false := by decide) (hd : (a == ("__debug__" : Str)) = false := by decide) (hcd : (a == ("__classdict__" : Str)) = false := by decide)
    (hfr : ∀ (A : Around) (outer : List PySem.Env) (s : Shared) (H : Hp) (E : XK) (f c' : Addr), Takes (lamCx X A outer s H E scope f c') (fun cls d _ H' => E cls d H') := by exact fun _ _ _ _ _ _ _ => takes_of rfl rfl rfl rfl) :
    PE X (.Call (.Name x p) [.Lambda params body scope lpos] [] pos) (T g W (mSaid t q is n ml R)) := by
  refine ⟨fun pins s σ H Q I ⟨F, α, δ, π, r, h⟩ => ?_⟩
  unfold mSaid at h
  split at h
  · rename_i q' hπ
    obtain ⟨h1, h2⟩ := when_ok h
    have e1 : q' = q := of_decide_eq_true h1
    subst e1
    obtain ⟨ds, hds, h3⟩ := opt_ok h2
    obtain ⟨c, hcode, TB⟩ := hT.all
    have hα := r.p.tabs t _ hπ
    obtain ⟨ho, hP, ro⟩ := r.p.obj t _ _ hα hπ
    obtain ⟨vs, rvs, hσ⟩ := capt_rd r hds
    cases ro with
    | tbl hTr hC =>
      rename_i ps
      refine wpAny_Call_Name_kw (ld_glob I hg hm ?_ hdb)
      refine PySem.W.callWith_K (h₀ := X.base) I.ok.mod.kin (hK ▸ Fu.kp) ?_ (by rfl) (by rfl)
      show wpAny _ _ (spliced ((false, eval (.Lambda params body scope lpos) X.env) :: backTo pos (starEach [] X.env))) _ _ s
      refine Calls.spliced_cons (lam_newC I TB hcode hP hTr (fun pos cv e => by
        obtain ⟨c0, a1, a2, _⟩ := hC pos cv e
        exact ⟨c0, a1, hq ▸ a2⟩) hdef (L.has I.ok) fun f c' pm ctv s' H1 I1 hlam nf hff hc' e => ?_)
      refine Calls.spliced_nil ⟨I1.kIn, ?_⟩
      obtain ⟨le, rp, nc⟩ : Le α H α H1 ∧ RelP g F α π H1 ∧ c' ∉ α ∧ ¬ F c' := by
        rcases e with ⟨e, hcm⟩ | ⟨nC, e⟩
        · subst e
          obtain ⟨c0, a1, _, a3, a4⟩ := hC lpos _ hcm
          cases a1
          exact ⟨.refl, r.p, a3, a4⟩
        · subst e
          obtain ⟨rp, le, n1, n2⟩ := r.p.table (pos := lpos) hα hπ hP nC (.tbl hTr hC)
          rw [hq] at rp le
          exact ⟨le, rp, n1, n2⟩
      have rl1 := r.with le rp
      have rdC : RD g α F H1 (.clo f c' q' ds vs) (.ref f) := .clo (by rw [hq]; exact hc') nc.1 nc.2 (rvs.mono le)
      obtain ⟨oc, od, dV, kV, doc, pm2, an, cdv, ct, osl, rfl, lk, hcdv, _, _⟩ := Fu.ex
      rw [hK] at lk hcdv hb
      have run : codeAny (model X.prog X.w) X.A (.call (.ref gf) ⟨[.ref f], []⟩) (CR C8.CX0 X.stack X.prog X.w H1 s' Q C8.E0) s' := by
        refine run_ofS (N := Ng) (ps := [a]) (us := [.ref f]) (vs := [.ref f]) lk hcdv Sg hr I1.env0 (hb s' [.ref f] I1.kIn rfl) (.cons rfl .nil) rfl fun hr' => ?_
        refine ⟨_, PSs.nox (hcal cdv s' H1 f c' ds vs (askE n is ml ds) hr' fun W' pn xe p1 p2 tk' => ?_), ?_⟩
        · refine wkE (pe_ask (tb := fun E => T g (fun cls d _ H' => E cls d H') ml) I1 L hlam nf hff (hbind _ _ _ _ _) tk' hr' (fun A outer s H E hr2 => hbody A outer s H E f c' hr2 (hfr _ _ _ _ _ _ _)) hNg hva hd hcd) fun σZ HZ QZ ⟨F2, α2, δ2, π2, r2, hz⟩ => ?_
          unfold mAsk at hz
          split at hz
          · rename_i hδ
            obtain ⟨v, hv, rv⟩ := r2.slot 0 _ hδ
            cases rv with
            | clo k1 k2 k3 k4 =>
              refine ⟨hv, by rw [← hq]; exact k1, ?_⟩
              unfold askE at hz
              split at hz
              · rename_i δ3 h3'
                have lσ : σ.length = n := by rw [I1.len, hn]
                rw [← lσ] at h3'
                exact ⟨F2, α2, δ3, π2, only_rel (rel_none r2.p) k4 hσ h3', Post.frame r2 hz⟩
              · exact hz.elim
          · exact hz.elim
        · have h4 : Post g F (RV g F) W α δ σ H Q (noX (R (askE n is ml ds) π)) := h3
          refine ⟨F, α, _, π, rel_start rp (.cons rdC .nil), ?_⟩
          rw [← hR f c' ds vs] at h4
          unfold runB at h4
          revert h4
          cases ms f c' ds vs (askE n is ml ds) ([D.clo f c' q' ds vs].map some ++ List.replicate (Ng.length - [D.clo f c' q' ds vs].length) none) π with
          | nx δ' π' => exact fun h α' σ' H' le' r' => h α' H' .non (le.trans le') (r.with (le.trans le') r'.p) .non
          | ret d π' => exact fun h α' H' v le' rp' rd' => h α' H' v (le.trans le') (r.with (le.trans le') rp') rd'
          | exc y δ' π' => exact fun h => h.elim
          | brk δ' π' => exact fun h => h.elim
          | ct δ' π' => exact fun h => h.elim
          | stuck => exact fun h => h.elim
      refine wpAny_call (codeAny_mono run fun r s2 hq => ?_)
      cases r with
      | error e => exact (show False from hq).elim
      | ok fl =>
        cases fl with
        | ret u => exact I1.after hq
        | next => exact False.elim hq
        | brk => exact False.elim hq
        | cont => exact False.elim hq
  · exact h.elim
end MI

set_option Elab.async false
set_option linter.all false
set_option maxRecDepth 100000
set_option maxHeartbeats 4000000
/-! Defs that make lambdas: their code objects; own errors' classes from the head's facts. -/
namespace MI
open PySem L2 PyProof.Rows LamX

theorem fn_ofS {P : Program} {w : World} {mg : Str → Option Value} {base : Heap} {g : G} {x qual : Str} {params : Arguments} {body : List Stmt} {scope : Scope} {at_ : Str × Option Str} {fd : FuncData} {N ps : List Str} {k : Nat} {ms : MS} (Fu : FunD g.K x qual params body scope [] [] (He.fAd g.K at_) fd) (S : FnScope N ps scope)
    (hb : ∀ (cdv : Value) (A : Around) (outer : List PySem.Env) (s : Shared) (H : Hp) (E : XK), Room k (A.deeper (envOfC qual scope s.heap.objs.size (He.fAd g.K at_) cdv)) → Takes (cxOf (L2.CX P w) P w g.K mg base N qual scope (He.fAd g.K at_) cdv A outer s H E) (fun cls d _ H' => E cls d H') → cdv = .ref (He.codeOf g.K at_) →
      PSs (cxOf (L2.CX P w) P w g.K mg base N qual scope (He.fAd g.K at_) cdv A outer s H E) body (TM g (fun cls d _ H' => E cls d H') ms)) :
    FnOk P w g.K mg base (L2.CX P w) (k + 1) (He.fAd g.K at_) fd ps (spM g ps.length (runB N.length ms)) := by
  obtain ⟨oc, od, dV, kV, doc, pm, an, cdv, ct, osl, rfl, lk, hcd, hD, hK⟩ := Fu.ex
  obtain ⟨c, rfl⟩ := He.codeIn_ref hcd
  have ec := He.codeOf_eq (p := at_) lk rfl
  refine fn_of lk hcd S (fun vs H Q E h => h.1) fun A outer s H vs Q E hr h => ⟨_, hb _ A outer s H E hr (takes_of rfl rfl rfl rfl) (by rw [ec]), runB_sp h⟩
/-- as fn_mk, the code object told -/
theorem fn_mkT {P : Program} {w : World} {mg : Str → Option Value} {base : Heap} {g : G} {x qual : Str} {params : Arguments} {body : List Stmt} {scope : Scope} {at_ : Str × Option Str} {fd : FuncData} {N ps : List Str} {k : Nat} {ms : MS} (Fu : FunD g.K x qual params body scope [] [] (He.fAd g.K at_) fd) (S : FnScope N ps scope)
    (hb : ∀ (cdv : Value) (A : Around) (outer : List PySem.Env) (s : Shared) (H : Hp) (E : XK), Room k (A.deeper (envOfC qual scope s.heap.objs.size (He.fAd g.K at_) cdv)) → Takes (cxOf (L2.CX P w) P w g.K mg base N qual scope (He.fAd g.K at_) cdv A outer s H E) (fun cls d _ H' => E cls d H') → cdv = .ref (He.codeOf g.K at_) →
      PSs (cxOf (L2.CX P w) P w g.K mg base N qual scope (He.fAd g.K at_) cdv A outer s H E) body (TM g (fun cls d _ H' => E cls d H') ms))
    (hbind : ∀ (kV doc pm : Value) (an : Option Addr) (cdv ct : Value) (us : List Value), us.length = ps.length → bindArgs (PySem.W.fnOf x qual params body scope .none kV doc pm an cdv ct) ⟨us, []⟩ = pure (ps.zip us)) : Fn P w mg base g (k + 1) (He.fAd g.K at_) ps.length [] (runB N.length ms) :=
  ⟨⟨fd, ps, [], [], fn_ofS Fu S hb, Fu.bindsN hbind, .nil, fun _ _ _ => .nil, rfl⟩, Fu.kp⟩
/-- an own error's class of two fields -/
theorem sup2_mk {prog : Program} {K : PySem.W.Frag} {mg : Str → Option Value} {C fI cc cda : Addr} {qual : Str} {scope : Scope} {a b : Str} {p0 p1 p2 p3 p4 p5 p6 q1 q2 q3 q4 q5 q6 q7 q8 r1 r2 r3 : Pos}
    (T : MIX.SupC prog K mg C fI cc cda qual (MIX.iP2 a b r1 r2 r3) (MIX.sup2 a b p0 p1 p2 p3 p4 p5 p6 q1 q2 q3 q4 q5 q6 q7 q8) scope) (S : MIX.SupSc scope ["self", a, b]) (hab : a ≠ b) (has : (a == ("self" : Str)) = false) (hbs : (b == ("self" : Str)) = false) (had : (a == ("__debug__" : Str)) = false) (hbd : (b == ("__debug__" : Str)) = false)
    (na : PySem.W.findIn K (.ref C) a = some none) (nb : PySem.W.findIn K (.ref C) b = some none) (kC : PySem.W.keepIn K (.ref C) = true) (exC : PySem.W.subIn K (.ref C) (.type "BaseException") = some true) (tyC : PySem.W.typeIn K (.ref C) = some (.type "type"))
    (hbind : ∀ (kV doc pm cdv ct : Value) (an : Option Addr) (u v w : Value), bindArgs (PySem.W.ksFn "__init__" qual (MIX.iP2 a b r1 r2 r3) (MIX.sup2 a b p0 p1 p2 p3 p4 p5 p6 q1 q2 q3 q4 q5 q6 q7 q8) scope .none kV doc pm an cdv ct cc) ⟨[u, v, w], []⟩ = pure [(("self" : Str), u), (a, v), (b, w)])
    {pl : PySem.Env → Sem Bool} (hm : ∀ env : PySem.Env, eval (.Call (.Attribute (.Call (.Name "super" p0) [] [] p1) "__init__" p2) [.Name a p3, .Name b p4] [] p5) env = (do
      let ov ← attributeBase (.Call (.Name "super" p0) [] [] p1) "__init__" env (eval (.Call (.Name "super" p0) [] [] p1) env)
      standAt p2.atName
      let (f, first) ← holding [ov] (getMethod ov "__init__" (pl env))
      callWith p5 f first (backTo p5 (starEach [.Name a p3, .Name b p4] env)) [])) : Sup2 prog K mg C a b :=
  ⟨⟨fI, cc, cda, qual, _, _, scope, T, fun w mb v1 v2 s' x t0 A R hB X G B hlim hx hnx hG hBn hroom hq => MIX.init2 T S hab has hbs had hbd na nb X G B hB hlim hx hnx hG hBn hroom hbind hm hq⟩, kC, exC, tyC, hab⟩
end MI

set_option Elab.async false
set_option linter.all false
set_option maxRecDepth 100000
set_option maxHeartbeats 4000000
/-! A comprehension that an exception may leave: the way out of its block. -/
namespace MIX
open PySem PySem.Spec PyProof.Rows L2

section
variable {M : Model} {A : Around} {E : Value → Shared → Prop} {s : Shared} {env : Env}

/-- what is wished at the block's end; fr: the frame that it runs in -/
def outP (M : Model) (A : Around) (E : Value → Shared → Prop) (Q : Value → Shared → Prop) (acc : Value) (C : Addr) (fr : Option Addr) (r : Result) (z : Shared) : Prop :=
  match r with
  | .ok _ => ∃ m, z.heap.Ns C m ∧ ∀ k, Heap.SameBut C z.heap k → Q acc { z with heap := k }
  | .error x => ∃ m, z.heap.Ns C m ∧ ∀ k m', k.Ns C m' → Heap.SameBut C z.heap k → ∀ ec : Env, ec.locals = C → ec.frame = fr → wpAny M A (passOn "comprehension.variables-let-go" x ec : Sem Value) (fun _ _ => False) E { z with heap := k }

theorem comp_out {e : Expr} {scope : Scope} {pos : Pos} {newAcc first : Sem Value} {g : Comprehension} {gs : List Comprehension} {cl : List (Str × Addr)} {Q : Value → Shared → Prop}
    (hcl : clausesOf e = g :: gs) (hs : ∀ x, foldedSetIterable g.iter env x = pure x) (hclos : closureFor scope env = pure cl)
    (hkind : scope.kind = .function) (hnames : ∀ x ∈ scope.names, x.2 = .local → scope.names.lookup x.1 = some .local)
    (h : wpAny M A first (fun x z1 => wpAny M A (pyIter x) (fun it z2 => wpAny M A newAcc (fun acc z3 =>
      wpAny M A (newFunctionEnv scope env.globals cl [] env.qual none .none (some env)) (fun ec z4 =>
        codeAny M A (.compStart e 0 it acc { ec with scope := relabel scope env }) (outP M A E Q acc ec.locals ec.frame) z4) E z3) E z2) E z1) E s) :
    wpAny M A (comprehension e scope env pos newAcc false first none) Q E s := by
  unfold comprehension
  rw [hclos, hcl]
  have nx : ∀ {α : Type} {t : Sem α} {P P' : α → Shared → Prop} {z : Shared}, wpAny M A t P E z → (∀ a y, P a y → P' a y) → wpAny M A t P' E z := fun hz hP => wpAny_mono hz hP fun _ _ y => y
  refine wpAny_bind (nx h fun x z1 w1 => wpAny_bind (wpAny_standAt (wpAny_bind (wpAny_of_eq (hs x) (wpAny_bind (wpAny_holding (nx w1 fun it z2 w2 =>
    wpAny_standIf (wpAny_bind (nx w2 fun acc z3 w3 => wpAny_bind (wpAny_pure (wpAny_bind (nx w3 fun ec z4 w4 => ?_))))))))))))
  dsimp only
  have hv : ∀ x ∈ (scope.names.filter fun x => (x.2 == .local || x.2 == .cell) && x.1 != (".0" : Str)).reverse, x.2 = .local →
      Env.kindOf { ec with scope := relabel scope env } x.1 = some .local := fun x hx hl => lookup_relabel_local (hnames x (List.mem_filter.mp (List.mem_reverse.mp hx)).1 hl)
  refine wpAny_holding (wpAny_bind (wpAny_attempt (wpAny_holding (wpAny_run (codeAny_mono w4 fun r y hr => ?_)))))
  cases r with
  | ok f =>
    obtain ⟨m, hn, hr⟩ := hr
    exact wpAny_bind (wpAny_holding (wpAny_comp_letGo (cenv := { ec with scope := relabel scope env }) hkind _ y m hv hn fun k m' _ hk => wpAny_pure (hr k hk)))
  | error x =>
    obtain ⟨m, hn, hr⟩ := hr
    exact wpAny_bind (wpAny_holding (wpAny_comp_letGo (cenv := { ec with scope := relabel scope env }) hkind _ y m hv hn fun k m' hn' hk => wpAny_mono (hr k m' hn' hk { ec with scope := relabel scope env } rfl rfl) (fun _ _ f => f.elim) fun _ _ q => q))
end

section
variable {M : Model} {A : Around} {base : Heap} {env : Env} {outer : List Env} {a L : Addr} {Z : Obj → Prop} {s : Shared} {E : Value → Shared → Prop}
/-- noted by the frame L, whatever was noted before -/
theorem look_any {C : Addr} {Q : Unit → Shared → Prop} (hZ : HandSPX.Steady Z) (hfr : A.frames = some (env :: outer)) (hf : env.frame = some L) (x : Sky base (env :: outer) a Z C s.heap)
    (hQ : ∀ k, HandSPX.HeldZ base (env :: outer) a Z L k → s.heap.UpToSlots k → Q () { s with heap := k }) : wpAny M A (noteFrame (.ref a) env) Q E s := by
  rcases x with ⟨hB, hn, hl, oe, vs, he, hz, hd, h1⟩ | fl | hh
  · exact HandSPX.look_newZ hZ hfr hl hf he hB hn hd h1 hz hQ
  · exact HandSPX.looks_onZ hZ hfr hf fl hQ
  · by_cases hc : C = L
    · subst hc
      exact HandSPX.againZ hf hh.2.2.2 (hQ s.heap hh (Heap.UpToSlots.refl _))
    · obtain ⟨hkb, hen, hl, oe, vs, T, oT, ts, he, hz, hd, h1, hnT, hTe, hT, hdT, h3⟩ := hh
      unfold noteFrame
      simp only [hf]
      refine wpAny_bind (wpAny_field he hd h1 ?_)
      rw [if_pos (show (Value.ref T != Value.none) = true from by simp)]
      refine wpAny_bind (wpAny_field hT hdT h3 ?_)
      rw [if_neg (show ¬ ((rawInt C == rawInt L) = true) from by simp [rawInt]; exact fun q => hc (Int.ofNat.inj q))]
      refine wpAny_bind (wpAny_setField hT hdT (Array.getElem?_eq_some_iff.mp h3).1 ?_)
      have off : ∀ b, b ≠ T → (s.heap.update T (Obj.mapFields (·.setIfInBounds 3 Value.none))).get? b = s.heap.get? b := fun b hb => Heap.get?_update_other _ _ (Ne.symm hb)
      have nf : ∀ b o, s.heap.get? b = some o → (∀ vs, o.data ≠ .fields vs) → b ≠ T := fun b o hb hnf q => by
        rw [q, hT] at hb; injection hb with hb; subst hb; exact hnf ts hdT
      refine HandSPX.wpAny_entryZ hZ hfr (hl.of_keeps fun b o hb hnf => ⟨o, (off b (nf b o hb hnf)).trans hb, rfl⟩) hf ((off a (Ne.symm hTe)).trans he)
        (fun b o hbo => (off b fun q => by rw [q, hnT] at hbo; cases hbo).trans (hkb b o hbo)) hen hd (Array.getElem?_eq_some_iff.mp h1).1 hz fun k hN => ?_
      obtain ⟨x1, x2, x3, x4⟩ := hN
      exact hQ k ⟨x1, hen, x2, x3⟩ fun b o hb hnf => x4 b o ((off b (nf b o hb hnf)).trans hb) hnf
theorem note_env {e : Value} {env env' : Env} (h : env'.frame = env.frame) : noteFrame e env' = noteFrame e env := by
  unfold noteFrame PySem.frameOf
  rw [h]
end
end MIX

set_option Elab.async false
set_option linter.all false
set_option maxRecDepth 100000
set_option maxHeartbeats 4000000
/-! A list comprehension whose element may raise. -/
namespace MIX
open PySem PySem.Spec PyProof.Rows L2

theorem frames_moved {h h' base base' : Heap} (k : ∀ b, base.get? b = none → base'.get? b = none) (k2 : ∀ b o, base.get? b = none → h.get? b = some o → (∀ vs, o.data ≠ .fields vs) → h'.get? b = some o) : ∀ {l : List PySem.Env}, h.FunFrames base l → h'.FunFrames base' l
  | [], _ => trivial
  | e :: l, ⟨a, ⟨L, o, b1, b2, b3, b4⟩, r⟩ => ⟨a, ⟨L, o, b1, k L b2, k2 L o b2 b3 b4, b4⟩, frames_moved k k2 r⟩

section
variable {X : Cx}
theorem lcx_core {pins : List (Addr × Obj)} {s : Shared} {σ : L2.St} {H : Hp} {Q : VK} {elt tg iter : Expr} {ifs : List Expr} {scope : Scope} {own : List (Str × Nat)} {pos pos' : Pos} {wi : TI} {g : TG} {tt : TT} {te : WX → TE} {W : WX}
    (hs0 : X.stack = X.env :: X.outer) (hf0 : X.env.frame = some X.env.locals) (tk : Takes X W)
    (hc : X.calm = true) (hN : X.N.Nodup) (I : Inv X pins σ H s) (hi : PI X tg iter wi) (ok : BlkOk X.N X.env.scope scope own)
    (hg : ∀ (s : Shared) (H : Hp) (C : Addr) (cl : List (Str × Addr)) (fp : List Addr), PG (X.blk s H scope (compEnvC scope cl C X.env) fp) tg g) (ht : ∀ (s : Shared) (H : Hp) (C : Addr) (cl : List (Str × Addr)) (fp : List Addr), PTs (X.blk s H scope (compEnvC scope cl C X.env) fp) ifs tt)
    (he : ∀ (s : Shared) (H : Hp) (C : Addr) (cl : List (Str × Addr)) (fp : List Addr) (W2 : WX) (pn : List (Addr × Obj)) (xe : Value → Shared → Prop), Takes ((X.blk s H scope (compEnvC scope cl C X.env) fp).tr pn xe) W2 → PE ((X.blk s H scope (compEnvC scope cl C X.env) fp).tr pn xe) elt (te W2))
    (hs : ∀ x, foldedSetIterable iter X.env x = pure x)
    (h : tLc wi g tt (te fun cls d _ Hx => W cls d σ Hx) (own.map (·.2)) σ H Q) :
    wpAny (model X.prog X.w) X.A (comprehension (.ListComp elt [⟨tg, iter, ifs, 0⟩] scope pos) scope X.env pos' (newList []) false (eval iter X.env) none) (EP X pins σ Q) X.xe s := by
  have hfree : ∀ y ∈ scope.names, y.2 = .free → ∃ c, X.env.cells.lookup y.1 = some c := fun y hy e => by
    rcases ok.free y hy e with k | k
    · exact I.ok.has _ (.inl k)
    · exact I.ok.has _ (.inr k)
  have hfr : X.A.frames = some (X.env :: X.outer) := by rw [I.ok.frames, hs0]
  refine comp_out rfl hs (closure_ok hfree) ok.kind (fun y hy e => by rw [ok.uniq y hy, e])
    (thn (hi.run pins s σ H _ I h) fun xv s1 hx => thn hx fun itv s2 h2 => ?_)
  obtain ⟨it, fp, tn, J, H2, e, I2, TT, st2, f2, q⟩ := h2
  subst e
  refine wpAny_newObj_type (newEnv_comp ?_) (by show 0 ≤ sizeLine; decide)
  generalize hD : s2.heap.objs.size = D
  have hDn : H2 D = none := I2.hok.fresh (Nat.le_of_eq hD)
  obtain ⟨Wn, ⟨m0, w0⟩, turn⟩ := q D hDn
  generalize hs3 : ({ s2 with heap := s2.heap.push { cls := .type "list", data := .seq ([] : List Value).toArray } } : Shared) = s3
  have I3 : Inv X pins σ (upd H2 D (.lst [])) s3 := by
    rw [← hs3]
    refine I2.laid (t' := s2.toks) (fun b o e => Heap.get?_push_of_some _ e) (Nat.le_of_eq hD) ⟨Nat.zero_le _, [], 0, .nil, ?_⟩
    rw [← hD]
    exact Heap.get?_push_size _ rfl
  have h3 : s3.heap = s2.heap.push { cls := .type "list", data := .seq ([] : List Value).toArray } := by rw [← hs3]
  have sz : ∀ b ∈ fp, b < s2.heap.objs.size := fun b hb => by
    obtain ⟨o, e, _⟩ := TT.obj _ _ st2 b hb
    exact Heap.lt_size e
  have f3 : ∀ b ∈ fp, FpOk X pins (upd H2 D (.lst [])) b ∧ b < s3.heap.objs.size := fun b hb => by
    have hlt := sz b hb
    refine ⟨⟨?_, (f2 b hb).2⟩, by rw [h3, Heap.size_push]; exact Nat.lt_succ_of_lt hlt⟩
    rw [upd_ne (by rw [← hD]; exact Nat.ne_of_lt hlt)]
    exact (f2 b hb).1
  have st3 : tn 0 s3.heap := TT.keep _ _ _ st2 fun b _ o e => by rw [h3]; exact Heap.get?_push_of_some _ e
  have I4 := block_start I3 ok hN f3
  have pg := hg s3 (upd H2 D (.lst [])) s3.heap.objs.size (cellsFrom (s3.heap.objs.size + 1) scope.names (cloFrom X.env.cells scope.names [])) fp
  have pt := ht s3 (upd H2 D (.lst [])) s3.heap.objs.size (cellsFrom (s3.heap.objs.size + 1) scope.names (cloFrom X.env.cells scope.names [])) fp
  have pe := he s3 (upd H2 D (.lst [])) s3.heap.objs.size (cellsFrom (s3.heap.objs.size + 1) scope.names (cloFrom X.env.cells scope.names [])) fp
  show codeAny _ _ (.compStart (.ListComp elt [⟨tg, iter, ifs, 0⟩] scope pos) 0 (.ref it) (.ref D) (compEnvC scope (cellsFrom (s3.heap.objs.size + 1) scope.names (cloFrom X.env.cells scope.names [])) s3.heap.objs.size X.env)) (outP (model X.prog X.w) X.A X.xe (EP X pins σ Q) (.ref D) s3.heap.objs.size X.env.frame) { s3 with heap := pushCells (s3.heap.push { cls := .type "dict", data := .dict #[] }) scope.names }
  have nfp : ∀ b ∈ fp, (upd H2 D (.lst [])) b = none := fun b hb => (f3 b hb).1.1
  generalize hce : compEnvC scope (cellsFrom (s3.heap.objs.size + 1) scope.names (cloFrom X.env.cells scope.names [])) s3.heap.objs.size X.env = ce at I4 pg pt pe ⊢
  have cL : ce.locals = s3.heap.objs.size := by subst hce; rfl
  have cF : ce.frame = X.env.frame := by subst hce; rfl
  generalize hH3 : upd H2 D (.lst []) = H3 at I3 I4 pg pt pe w0 nfp f3
  generalize hs4 : ({ s3 with heap := pushCells (s3.heap.push { cls := .type "dict", data := .dict #[] }) scope.names } : Shared) = s4 at I4 ⊢
  have st4 : tn 0 s4.heap := TT.keep _ _ _ st3 fun b _ o e => by rw [← hs4]; exact pushCells_keeps _ _ _ _ (Heap.get?_push_of_some _ e)
  have stat : ∀ {σ' : L2.St} {H' : Hp} {s' : Shared}, Inv (X.blk s3 H3 scope ce fp) [] σ' H' s' → (∀ b ∈ fp, H' b = none) → ∀ b ∈ fp, FpOk (X.blk s3 H3 scope ce fp) [] H' b := fun {σ' H' s'} I' hn b hb =>
    ⟨hn b hb, (I'.ok.exf b hb).1, I'.ok.exfs b hb, .inl hb, fun x c e => (I'.ok.exf b hb).2 x c e, fun p hp => absurd (show p ∈ ([] : List (Addr × Obj)) ++ [] from hp) (by simp)⟩
  -- the block is left by an exception
  have away : ∀ (pn : List (Addr × Obj)) (xe : Value → Shared → Prop) (u : Value) (y : Shared), XE ((X.blk s3 H3 scope ce fp).tr pn xe) (fun cls d _ Hx => W cls d σ Hx) u y →
      notedBy (model X.prog X.w) X.A ce (fun e z => outP (model X.prog X.w) X.A X.xe (EP X pins σ Q) (.ref D) s3.heap.objs.size X.env.frame (.error e) z) u y := fun pn xe u y xx => by
    obtain ⟨a, B, sI, pins', σ', H', cls, d, rfl, J', nb, up, sky, na, os, ag, w⟩ := xx
    have sky' : Sky B (X.env :: X.outer) a (Zc cls d) ce.locals y.heap := by rw [← hs0]; exact sky
    show wpAny _ X.A (noteFrame (.ref a) ce) _ _ y
    rw [note_env cF]
    refine look_any Zc.steady hfr hf0 sky' fun k1 hk up1 => ?_
    obtain ⟨m, hm, _⟩ := J'.loc
    have hm : sI.heap.Ns s3.heap.objs.size m := cL ▸ hm
    refine ⟨m, (up.trans up1).ns hm, fun k2 m2 hn2 sb ec e1 e2 => ?_⟩
    obtain ⟨oI, esI, epI, hoI, hdI, _⟩ := hm
    obtain ⟨o2, es2, ep2, ho2, hd2, _⟩ := hn2
    have nC : H' s3.heap.objs.size = none := by
      have z : H' ce.locals = none := J'.free
      rw [cL] at z
      exact z
    have cS : s3.heap.objs.size ∉ frs X.stack := fun hb => by
      obtain ⟨_, o', e', _⟩ := I3.stack.mem hb
      exact absurd (Heap.lt_size e') (Nat.lt_irrefl _)
    have hBC : B.get? s3.heap.objs.size = some oI := nb _ _ hoI cS
    obtain ⟨kb, ken, kl, oe, vs, T, oT, ts, he1, hz, hd, h1, hnT, hTe, hT, hdT, h3t⟩ := hk
    have aC : a ≠ s3.heap.objs.size := fun z => by rw [z, hBC] at ken; cases ken
    have tC : T ≠ s3.heap.objs.size := fun z => by rw [z, hBC] at hnT; cases hnT
    generalize hCC : s3.heap.objs.size = C at *
    have frd : o2.isFreed = false := Obj.isFreed_of_dict hd2
    have bC : (B.update C fun _ => o2).get? C = some o2 := Heap.get?_update_self (fun _ => o2) hBC frd
    have bO : ∀ b, b ≠ C → (B.update C fun _ => o2).get? b = B.get? b := fun b hb => Heap.get?_update_other _ _ (Ne.symm hb)
    have iC : (sI.heap.update C fun _ => o2).get? C = some o2 := Heap.get?_update_self (fun _ => o2) hoI frd
    have iO : ∀ b, b ≠ C → (sI.heap.update C fun _ => o2).get? b = sI.heap.get? b := fun b hb => Heap.get?_update_other _ _ (Ne.symm hb)
    have hkb2 : (B.update C fun _ => o2).StaysIn k2 := fun b o e => by
      by_cases hb : b = C
      · subst hb; rw [bC] at e; cases e; exact ho2
      · rw [bO b hb] at e
        rw [sb.2 b hb]
        exact kb b o e
    have noneB : ∀ b, B.get? b = none → (B.update C fun _ => o2).get? b = none := fun b e => by
      have hb : b ≠ C := fun z => by rw [z, hBC] at e; cases e
      rw [bO b hb]; exact e
    have hl2 : k2.FunFrames (B.update C fun _ => o2) (X.env :: X.outer) := frames_moved noneB (fun b o e eo _ => by
      have hb : b ≠ C := fun z => by rw [z, hBC] at e; cases e
      show k2.get? b = some o
      rw [sb.2 b hb]; exact eo) kl
    have he2 : k2.get? a = some oe := by rw [sb.2 a aC]; exact he1
    have hT2 : k2.get? T = some oT := by rw [sb.2 T tC]; exact hT
    have ht2 : HandSPX.TracedZ k2 (B.update C fun _ => o2) a (Zc cls d) (rawInt X.env.locals) := ⟨oe, vs, T, oT, ts, he2, hz, hd, h1, noneB T hnT, hTe, hT2, hdT, h3t⟩
    unfold PySem.passOn
    refine wpAny_bind (wpAny_field he2 hd h1 ?_)
    rw [if_neg (show ¬ ((Value.ref T == Value.none) = true) from by simp)]
    have fin : wpAny (model X.prog X.w) X.A (setFlight (.ref a) ec.frame) (fun _ z => wpAny (model X.prog X.w) X.A (throw (.ref a) : Sem Value) (fun _ _ => False) X.xe z) X.xe { y with heap := k2 } := by
      rw [e2, hf0]
      refine HandSPX.setFlight_anyZ (fr := some X.env.locals) hkb2 hl2 ht2 fun k5 x1 x2 x3 up5 => wpAny_throw (tk _ _ ?_)
      have I7 : Inv X pins σ H' sI := I3.call' (ch := fp) J'.os J'.base J'.hok J'.bare fun b hb => ⟨(f3 b hb).1.2.2.2.1, (f3 b hb).1.2.1, (f3 b hb).1.2.2.2.2.1, (f3 b hb).1.2.2.2.2.2⟩
      obtain ⟨f0, g1, g2, g3, g4, g5⟩ := I3.fpOk (Nat.le_of_eq hCC) nC
      have I8 : Inv X pins σ H' { sI with heap := sI.heap.update C fun _ => o2 } := I7.turned (t' := sI.toks) (fun b o hb e => (iO b hb).trans e) f0 g1 g3 g4 g5
      refine ⟨a, B.update C fun _ => o2, { sI with heap := sI.heap.update C fun _ => o2 }, pins, σ, H', cls, d, rfl, I8, fun b o e hb => ?_, fun b o e hn => ?_, .inr (.inr ?_), na, os, ag, w⟩
      · by_cases z : b = C
        · subst z
          have e : (sI.heap.update b fun _ => o2).get? b = some o := e
          rw [iC] at e; cases e; exact bC
        · have e : (sI.heap.update C fun _ => o2).get? b = some o := e
          rw [iO b z] at e
          rw [bO b z]
          exact nb b o e hb
      · have e : (sI.heap.update C fun _ => o2).get? b = some o := e
        by_cases z : b = C
        · subst z
          rw [iC] at e; cases e
          exact up5 b o2 ho2 hn
        · rw [iO b z] at e
          obtain ⟨sl, q1⟩ := (up.trans up1) b o e hn
          exact up5.trans (Heap.UpToSlots.refl _) |> fun u => by
            obtain ⟨sl2, q2⟩ := u b { o with slots := sl } (by rw [sb.2 b z]; exact q1) hn
            exact ⟨sl2, q2⟩
      · rw [hs0]
        exact ⟨x1, noneB a ken, x2, x3⟩
    first
      | exact wpAny_bind (wpAny_pure (wpAny_bind fin))
      | exact wpAny_bind fin
  have loop : codeAny (model X.prog X.w) X.A (.compLoop (.ListComp elt [⟨tg, iter, ifs, 0⟩] scope pos) 0 (.ref it) (.ref D) ce) (outP (model X.prog X.w) X.A X.xe (EP X pins σ Q) (.ref D) s3.heap.objs.size X.env.frame) s4 := by
    refine compLoop_any (fun n s' => ∃ i H', Inv (X.blk s3 H3 scope ce fp) [] (wipe σ (own.map (·.2))) H' s' ∧ tn i s'.heap ∧ (∀ b ∈ fp, H' b = none) ∧ Wn i n H') ?_ m0 ⟨0, H3, I4, st4, nfp, w0⟩
    rintro n s5 ⟨i, H5, I5, st5, n5, w5⟩
    rcases turn i n H5 w5 with ⟨stop, qq⟩ | ⟨go, Nx, hNx, step⟩
    · have td := TT.done (X.blk s3 H3 scope ce fp) rfl rfl rfl hc i [] s5 _ H5 (fun _ _ => False) I5 (stat I5 n5) st5 stop
      refine thnF td fun r s6 ⟨hr, I6⟩ => ?_
      subst hr
      have I7 : Inv X pins σ H5 s6 := I3.call' (ch := fp) I6.os I6.base I6.hok I6.bare fun b hb => ⟨(f3 b hb).1.2.2.2.1, (f3 b hb).1.2.1, (f3 b hb).1.2.2.2.2.1, (f3 b hb).1.2.2.2.2.2⟩
      have nC : H5 s3.heap.objs.size = none := by
        have z : H5 ce.locals = none := I6.free
        rw [cL] at z
        exact z
      obtain ⟨m, hn, _⟩ := I6.loc
      have hn : s6.heap.Ns ce.locals m := hn
      rw [cL] at hn
      refine ⟨m, hn, fun k sb => ?_⟩
      obtain ⟨f0, f1, _, g3, g4, g5⟩ := I3.fpOk (Nat.le_refl _) nC
      exact ⟨.ref D, H5, I7.turned (t' := s6.toks) (fun b o hb e => (sb.2 b hb).trans e) f0 f1 g3 g4 g5, rfl, qq⟩
    · have ti := TT.item (X.blk s3 H3 scope ce fp) rfl rfl rfl hc i [] s5 _ H5 (fun _ _ => False) I5 (stat I5 n5) st5 go
      refine thnF ti fun r s6 ⟨u, hr, h6⟩ => ?_
      subst hr
      refine thnF h6 fun _ s7 ⟨x, H7, I7, r7, y7, st7, n7⟩ => ?_
      have I7' := I7.pinned (stat I7 n7) (TT.obj _ _ st7)
      refine thnF (pg.run _ s7 _ H7 x u _ I7' r7 (step x H7 y7)) fun _ s8 ⟨σ8, H8, I8, hw8, q8⟩ => ?_
      refine thnF (pt.run _ s8 σ8 H8 _ I8 q8) fun b s9 ⟨H9, I9, q9⟩ => ?_
      have fin : ∀ {s' : Shared} {H' : Hp}, Inv (X.blk s3 H3 scope ce fp) ([] ++ pinsAt fp s7.heap) σ8 H' s' → Nx H' → ∃ m, m < n ∧ ∃ i H', Inv (X.blk s3 H3 scope ce fp) [] (wipe σ (own.map (·.2))) H' s' ∧ tn i s'.heap ∧ (∀ b ∈ fp, H' b = none) ∧ Wn i m H' := fun {s' H'} I' nx => by
        obtain ⟨m', hm, w'⟩ := hNx H' nx
        have pin' : ∀ b ∈ fp, ∀ o, s7.heap.get? b = some o → s'.heap.get? b = some o ∧ H' b = none := fun b hb o e =>
          let z := I'.pin (b, o) (List.mem_append_right _ (List.mem_append_right _ (mem_pinsAt hb e)))
          ⟨z.1, z.2.1⟩
        have hl : (wipe σ (own.map (·.2))).length = σ8.length := by rw [← hw8, wipe_length]
        refine ⟨m', hm, i + 1, H', (I'.unpinned (pins := [])).weak hl (fun j v e => ?_), TT.keep _ _ _ st7 fun b hb o e => (pin' b hb o e).1, fun b hb => ?_, w'⟩
        · rw [← hw8] at e
          exact (wipe_some e).1
        · obtain ⟨o, e, _⟩ := TT.obj _ _ st7 b hb
          exact (pin' b hb o e).2
      cases b with
      | false =>
        simp only [Bool.false_eq_true, if_false] at q9 ⊢
        exact fin I9 q9
      | true =>
        simp only [if_true] at q9 ⊢
        have okb := I9.ok
        refine wpAny_mono ((pe _ ((X.blk s3 H3 scope ce fp).pn ++ ([] ++ pinsAt fp s7.heap)) (notedBy (model X.prog X.w) X.A ce fun e z => outP (model X.prog X.w) X.A X.xe (EP X pins σ Q) (.ref D) s3.heap.objs.size X.env.frame (.error e) z)
          (fun u y xx => away _ _ u y xx)).run [] s9 σ8 H9 _ (I9.toTry _) q9) (fun z s10 hz => ?_) (fun _ _ z => z)
        obtain ⟨yv, H10, I10', r10, acc, hD10, hz10, nx⟩ := hz
        have I10 : Inv (X.blk s3 H3 scope ce fp) ([] ++ pinsAt fp s7.heap) σ8 H10 s10 := I10'.ofTry okb
        exact app_ok (X := X.blk s3 H3 scope ce fp) I10 hD10 hz10 r10 fun s11 I11 => fin I11 nx
  exact codeAny_compStart_list loop (TT.self X.A 0 _ _ _ st4 loop)
end
end MIX

set_option Elab.async false
set_option linter.all false
set_option maxRecDepth 100000
set_option maxHeartbeats 4000000
/-! A list comprehension whose element may raise: its mirror. -/
namespace MI
open PySem L2
/-- items so far: acc -/
def lcLoopX (s : Src) (set : SetD) (tt : M Bool) (te : M D) (δ : Env) : Nat → Nat → List D → PH → Res (List D)
  | 0, _, acc, π => if s.fin π = true then .ok acc π else .stuck
  | k + 1, i, acc, π => match s.get π i with
    | none => .stuck
    | some d => match set d δ with
      | none => .stuck
      | some δ1 => match tt δ1 π with
        | .ok b π2 => if b = true then (match te δ1 π2 with
          | .ok e π3 => if acc.length < sizeLine then lcLoopX s set tt te δ k (i + 1) (acc ++ [e]) π3 else .stuck
          | .exc x π3 => .exc x π3
          | .stuck => .stuck) else lcLoopX s set tt te δ k (i + 1) acc π2
        | _ => .stuck
def mLcX (reg : Bool) (is : List Nat) (src : M Src) (set : SetD) (tt : M Bool) (te : M D) : M D := fun δ π => (src δ π).bind fun s π1 => (lcLoopX s set tt te (wipeE δ is) s.len 0 [] π1).bind fun ds π2 => alloc reg ds π2
section
variable {X : Cx} {g : G} {W : WX} {tg iter elt : Expr} {ifs : List Expr} {src : M Src} {set : SetD} {mt : M Bool} {me : M D} {t : TG} {is : List Nat} {reg : Bool}
theorem lcRX {σ : L2.St} {H : Hp} {Q : VK} (hdo : ∀ (F : Addr → Prop) (α : List Addr) (δ δ' : Env) (π : PH) (σ : L2.St) (H : Hp) (d : D) (v : V) (Q : L2.St → Hp → Prop), Rel g F α δ π σ H → RD g α F H d v → set d δ = some δ' → (∀ σ', Rel g F α δ' π σ' H → (∀ j, j ∉ is → σ'[j]? = σ[j]?) → σ'.length = σ.length → Q σ' H) → t v σ H Q)
    (h : T g W (mLcX reg is src set mt me) σ H Q) : tLc (TSrc g W src) t (TB g W0 mt) (T g (fun cls dd _ Hx => W cls dd σ Hx) me) is σ H Q := by
  obtain ⟨F, α, δ, π, r, h⟩ := h
  refine ⟨F, α, δ, π, r, (Post.bind (R := RSrc g F) h).imp fun J H1 ⟨α1, π1, s, le, r1, rs, h2⟩ => ?_⟩
  intro p hp
  obtain ⟨rp, _, np, nF⟩ := r1.p.fresh (o := .lst []) hp
  -- the list is hidden while it is made
  have r1w := rel_wipe r1 is
  have r2 : Rel g (hide F p) α1 (wipeE δ is) π1 (wipe σ is) (upd H1 p (.lst [])) := r1w.via (via_hide hp) (fun a ha o ho => by rw [upd_ne (ne_of_none ho hp)]; exact ho)
    (fun a ha => by
      rcases ha with ha | ha
      · exact rp.dom a ha
      · subst ha; rw [upd_same]; simp) (fun a ha z => z.elim (rp.sep a ha) fun e => np (e ▸ ha))
  refine ⟨fun i m H' => ∃ α' π' ds acc, i + m = s.len ∧ Le α1 H1 α' H' ∧ Rel g (hide F p) α' (wipeE δ is) π' (wipe σ is) H' ∧ H' p = some (.lst acc) ∧ RDs g α' (hide F p) H' ds acc ∧
    Post g F (RV g F) W α1 δ σ H1 Q ((lcLoopX s set mt me (wipeE δ is) m i ds π').bind fun ds π2 => alloc reg ds π2), ⟨s.len, α1, π1, [], [], by simp, Le.updNew .refl hp, r2, upd_same, .nil, h2⟩, ?_⟩
  rintro i m H' ⟨α', π', ds, acc, hm, le', r', hacc, racc, h3⟩
  obtain ⟨hgo, hstop⟩ := rs (hide F p) α' (wipeE δ is) π' (wipe σ is) H' (Le.viaH le' hp) r'
  cases m with
  | zero =>
    have h3' : Post g F (RV g F) W α1 δ σ H1 Q ((if s.fin π' = true then Res.ok ds π' else .stuck).bind fun ds π2 => alloc reg ds π2) := h3
    by_cases hf : s.fin π' = true
    · rw [if_pos hf] at h3'
      have e : i = s.len := by omega
      have np' : p ∉ α' := fun hm => (r'.p.sep p hm) (.inr rfl)
      refine .inl ⟨e ▸ hstop hf, ?_⟩
      have h4 : Post g F (RV g F) W α1 δ σ H1 Q (alloc reg ds π') := h3'
      unfold alloc at h4
      cases reg with
      | false =>
        simp only [Bool.false_eq_true, if_false] at h4
        exact h4 α' H' (.ref p) le' (r1.with le' (relP_show r'.p)) (.lst hacc np' nF (racc.via via_show))
      | true =>
        simp only [if_true] at h4
        have vi : Via g α' (hide F p) H' (α' ++ [p]) F H' := ⟨fun i a h => by rw [List.getElem?_append_left (List.getElem?_eq_some_iff.mp h).1]; exact h,
          fun a o h h1 h2 => ⟨h, fun z => (List.mem_append.mp z).elim h1 fun z => h2 (.inr (by simpa using z)), fun z => h2 (.inl z)⟩, fun a vs h => h, fun a o u h => h⟩
        have le5 : Le α1 H1 (α' ++ [p]) H' := by
          obtain ⟨e, he, hn⟩ := le'.ext
          refine ⟨⟨e ++ [p], by rw [he, List.append_assoc], fun a ha => (List.mem_append.mp ha).elim (hn a) fun z => by simp at z; subst z; exact hp⟩, le'.keep, le'.tup, le'.frz, le'.dom⟩
        refine h4 (α' ++ [p]) H' (.ref p) le5 (r1.with le5 ⟨?_, by simp [r'.p.len], fun i a o ha ho => ?_, fun a h => r'.p.dom a (.inl h), fun a ha z => ?_, fun t q h => ?_⟩) (.ref (by rw [← r'.p.len]; simp))
        · rw [List.nodup_append]
          exact ⟨r'.p.nd, by simp, fun a ha b hb => by simp at hb; rintro rfl; subst hb; exact np' ha⟩
        · by_cases hi : i < α'.length
          · rw [List.getElem?_append_left hi] at ha
            rw [List.getElem?_append_left (by rw [← r'.p.len]; exact hi)] at ho
            obtain ⟨u, h1, h2⟩ := r'.p.obj i a o ha ho
            exact ⟨u, h1, h2.via vi⟩
          · rw [List.getElem?_append_right (by omega)] at ha
            rw [List.getElem?_append_right (by rw [← r'.p.len]; omega), ← r'.p.len] at ho
            have e0 : i - α'.length = 0 := by
              have := (List.getElem?_eq_some_iff.mp ha).1
              simp at this; omega
            rw [e0] at ha ho
            simp at ha ho
            subst ha; subst ho
            exact ⟨_, hacc, .lst (racc.via vi)⟩
        · rcases List.mem_append.mp ha with h | h
          · exact r'.p.sep a h (.inl z)
          · simp at h; subst h; exact nF z
        · by_cases hi : t < π'.length
          · rw [List.getElem?_append_left hi] at h
            rw [List.getElem?_append_left (by rw [r'.p.len]; exact hi)]
            exact r'.p.tabs t q h
          · rw [List.getElem?_append_right (by omega)] at h
            have e0 : t - π'.length = 0 := by
              have := (List.getElem?_eq_some_iff.mp h).1
              simp at this; omega
            rw [e0] at h
            simp at h
    · rw [if_neg hf] at h3'
      exact h3'.elim
  | succ m =>
    have h3' : Post g F (RV g F) W α1 δ σ H1 Q ((match s.get π' i with
      | none => Res.stuck
      | some d => match set d (wipeE δ is) with
        | none => .stuck
        | some δ1 => match mt δ1 π' with
          | .ok b π2 => if b = true then (match me δ1 π2 with
            | .ok e π3 => if ds.length < sizeLine then lcLoopX s set mt me (wipeE δ is) m (i + 1) (ds ++ [e]) π3 else .stuck
            | .exc x π3 => .exc x π3
            | .stuck => .stuck) else lcLoopX s set mt me (wipeE δ is) m (i + 1) ds π2
          | _ => .stuck).bind fun ds π2 => alloc reg ds π2) := h3
    cases hd : s.get π' i with
    | none => rw [hd] at h3'; exact h3'.elim
    | some d =>
      rw [hd] at h3'
      dsimp only at h3'
      obtain ⟨go, yl⟩ := hgo i d (by omega) hd
      cases hδ : set d (wipeE δ is) with
      | none => rw [hδ] at h3'; exact h3'.elim
      | some δ1 =>
        rw [hδ] at h3'
        dsimp only at h3'
        refine .inr ⟨go, fun H2 => ∃ α' π' ds acc, i + 1 + m = s.len ∧ Le α1 H1 α' H2 ∧ Rel g (hide F p) α' (wipeE δ is) π' (wipe σ is) H2 ∧ H2 p = some (.lst acc) ∧ RDs g α' (hide F p) H2 ds acc ∧
          Post g F (RV g F) W α1 δ σ H1 Q ((lcLoopX s set mt me (wipeE δ is) m (i + 1) ds π').bind fun ds π2 => alloc reg ds π2), fun H2 q => ⟨m, by omega, q⟩, fun x H'' y => ?_⟩
        obtain ⟨ex2, rd⟩ := yl x H'' y
        have r'' := r'.ex ex2
        have le2 : Le α' H' α' H'' := ex2.le
        refine hdo (hide F p) α' (wipeE δ is) δ1 π' (wipe σ is) H'' d x _ r'' rd hδ fun σ2 r4 hout hl => ⟨wipe_wipe hl hout, ?_⟩
        have hp2 : H'' p = some (.lst acc) := ex2 _ _ hacc
        -- the test
        refine ⟨hide F p, α', δ1, π', r4, ?_⟩
        cases ht : mt δ1 π' with
        | ok b π2 =>
          rw [ht] at h3'
          dsimp only at h3'
          intro α3 H3 b' le3 r5 eb
          have eb' : b = b' := eb
          subst eb'
          have back : ∀ {α3 : List Addr} {π3 : PH} {σ3 : L2.St} {H3 : Hp}, Rel g (hide F p) α3 δ1 π3 σ3 H3 → Le α' H'' α3 H3 → Rel g (hide F p) α3 (wipeE δ is) π3 (wipe σ is) H3 := fun r le => ⟨r.p, r''.len, fun i d h => by
            obtain ⟨v, h1, h2⟩ := r''.slot i d h
            exact ⟨v, h1, h2.mono le⟩⟩
          have np3 : p ∉ α' := fun z => r''.p.sep p z (.inr rfl)
          have hp3 : H3 p = some (.lst acc) := le3.keep _ _ hp2 np3
          cases b with
          | false =>
            simp only [Bool.false_eq_true, if_false] at h3' ⊢
            exact ⟨α3, π2, ds, acc, by omega, (le'.trans le2).trans le3, back r5 le3, hp3, (racc.mono le2).mono le3, h3'⟩
          | true =>
            simp only [if_true] at h3' ⊢
            refine ⟨hide F p, α3, δ1, π2, r5, ?_⟩
            cases hm' : me δ1 π2 with
            | ok e π3 =>
              rw [hm'] at h3'
              dsimp only at h3'
              intro α4 H4 v le4 r6 rv
              have np4 : p ∉ α3 := fun z => r5.p.sep p z (.inr rfl)
              have hp4 : H4 p = some (.lst acc) := le4.keep _ _ hp3 np4
              have racc4 := ((racc.mono le2).mono le3).mono le4
              by_cases hz : ds.length < sizeLine
              · rw [if_pos hz] at h3'
                refine ⟨acc, hp4, by rw [← racc.length]; exact hz, α4, π3, ds ++ [e], acc ++ [v], by omega, ?_, ?_, upd_same, ?_, h3'⟩
                · exact Le.updNew (((le'.trans le2).trans le3).trans le4) hp
                · have np5 : p ∉ α4 := fun z => r6.p.sep p z (.inr rfl)
                  refine (back r6 (le3.trans le4)).via (via_more hp4) (fun a ha o ho => by rw [upd_ne (fun z => np5 (by rw [← z]; exact ha))]; exact ho) (fun a ha => ?_) r6.p.sep
                  by_cases z : a = p
                  · subst z; rw [upd_same]; simp
                  · rw [upd_ne z]; exact r6.p.dom a ha
                · exact (racc4.append (.cons rv .nil)).via (via_more hp4)
              · rw [if_neg hz] at h3'
                exact h3'.elim
            | exc x π3 =>
              rw [hm'] at h3'
              intro α4 H4 cls dd le4 r6 rx
              have h4 : Post g F (RV g F) W α1 δ σ H1 Q (Res.exc x π3) := h3'
              have le5 := ((le'.trans le2).trans le3).trans le4
              obtain ⟨k1, a, vs, k2, k3, k4, k5, k6⟩ := rx
              exact h4 α4 H4 cls dd le5 (r1.with le5 (relP_show r6.p)) ⟨k1, a, vs, k2, k3, k4, fun z => k5 (.inl z), k6.via via_show⟩
            | stuck => rw [hm'] at h3'; exact h3'.elim
        | exc x π2 => rw [ht] at h3'; exact h3'.elim
        | stuck => rw [ht] at h3'; exact h3'.elim
theorem te_lcX {scope : Scope} {own : List (Str × Nat)} {pos : Pos} (reg : Bool) (hs0 : X.stack = X.env :: X.outer) (hf0 : X.env.frame = some X.env.locals) (tk : Takes X W) (hc : X.calm = true) (hN : X.N.Nodup) (hi : PI X tg iter (TSrc g W src)) (ok : BlkOk X.N X.env.scope scope own) (ho : own.map (·.2) = is)
    (hg : ∀ (s : Shared) (H : Hp) (C : Addr) (cl : List (Str × Addr)) (fp : List Addr), PGC (X.blk s H scope (compEnvC scope cl C X.env) fp) g tg set is t)
    (ht : ∀ (s : Shared) (H : Hp) (C : Addr) (cl : List (Str × Addr)) (fp : List Addr), PTs (X.blk s H scope (compEnvC scope cl C X.env) fp) ifs (TB g W0 mt))
    (he : ∀ (s : Shared) (H : Hp) (C : Addr) (cl : List (Str × Addr)) (fp : List Addr) (W2 : WX) (pn : List (Addr × Obj)) (xe : Value → Shared → Prop), Takes ((X.blk s H scope (compEnvC scope cl C X.env) fp).tr pn xe) W2 → PE ((X.blk s H scope (compEnvC scope cl C X.env) fp).tr pn xe) elt (T g W2 me)) (hs : ∀ x, foldedSetIterable iter X.env x = pure x := by intro _; rfl) :
    PE X (.ListComp elt [⟨tg, iter, ifs, 0⟩] scope pos) (T g W (mLcX reg is src set mt me)) := by
  have hdo := (hg ⟨{}, #[], {}, 0, {}⟩ (fun _ => none) 0 [] []).do_
  refine ⟨fun pins s σ H Q I h => ?_⟩
  rw [eval_ListComp]
  refine MIX.lcx_core (te := fun W2 => T g W2 me) hs0 hf0 tk hc hN I hi ok (fun s H C cl fp => (hg s H C cl fp).pg) ht he hs ?_
  rw [ho]
  exact lcRX hdo h
end
end MI

set_option Elab.async false
set_option linter.all false
set_option maxRecDepth 100000
set_option maxHeartbeats 4000000
/-! The end of a law row whose def is walked for the first caller alone (LamX.law_callTs asks a promise for every caller; statement and proof follow it). -/
namespace MI
open PySem PySem.Spec PyProof.Rows L2 LamX
theorem law_at {P : Program} {w : World} {K : PySem.W.Frag} {mg mb : Str → Option Value} {fa a : Addr} {cs : List (Addr × Addr)} {z0 : Shared} {vs : List Value} {ns : List Int}
    (KX : K.In z0.heap) (hN : z0.heap.Ns mainGlobals mg) (hb : z0.heap.Ns builtinsNs mb) (hBB : ∀ x : Str, x ≠ "__name__" → mb x = bootBuiltins x) (hLm : z0.heap.NoLimit) (hg : z0.gens = #[])
    (eT : ∀ p ∈ cs, z0.heap.get? p.2 = some { cls := .none, data := .fields #[] }) (uT : ∀ p ∈ cs, K.lookup p.2 = none) (C : ∀ p ∈ cs, PySem.W.CodeHd z0.heap p.1 p.2)
    (hBm : ∃ (m9 : Addr) (o9 : Obj), mg "__builtins__" = some (.ref m9) ∧ m9 ≠ builtinsNs ∧ z0.heap.get? m9 = some o9 ∧ o9.cls = .type "module" ∧ o9.dict = some builtinsNs ∧ o9.data = .plain)
    (ha : z0.heap.get? a = some { cls := .type "list", data := .seq vs.toArray }) (hI : IntsAre vs ns) (hL : ns.length ≤ sizeLine) (nl : K.lookup a = none)
    (go : ∀ (base : Heap) (H : Hp), K.In base → base.Ns mainGlobals mg → (∀ p ∈ cs, TabB base mg p.1 p.2) → Env0 P w K mg base callerA [] z0 H → (∀ p ∈ cs, H p.2 = some (.tbl #[])) → H a = some (.frz { cls := .type "list", data := .seq vs.toArray } (.lst (ns.map V.int))) →
      codeAny (model P w) callerA (.call (.ref fa) ⟨[.ref a], []⟩) (CR (L2.CX P w) [] P w H z0 (fun v _ => v = .bl true) (fun _ _ _ => False)) z0) :
    codeAny (model P w) callerA (.call (.ref fa) ⟨[.ref a], []⟩) (fun r z1 => r = .ok (.ret (.bool true)) ∧ OldK z0.heap z1.heap ∧ z1.os = z0.os ∧ AllBare z1.gens) z0 := by
  have rvs := vals_ints hI
  have lV := hI.length
  have iT : ∀ b : Addr, b ∈ cs.map (·.2) → z0.heap.get? b = some { cls := .none, data := .fields #[] } := fun b hb => by
    obtain ⟨p, hp, e⟩ := List.mem_map.mp hb
    rw [← e]
    exact eT p hp
  have anT : a ∉ cs.map (·.2) := fun z => by
    have q := iT a z
    rw [ha] at q
    have z' : Data.seq vs.toArray _ = Data.fields #[] := congrArg Obj.data (Option.some.inj q)
    cases z'
  have mT : ∀ p ∈ cs, p.2 ∈ cs.map (·.2) := fun p hp => List.mem_map.mpr ⟨p, hp, rfl⟩
  -- from an abstract heap in which nothing but the script and the tables may be tracked
  have main1 : ∀ H : Hp, (∀ p ∈ cs, H p.2 = some (.tbl #[])) → (∀ b, H b = none ∨ b ∈ cs.map (·.2) ∨ ∃ o xs, H b = some (.frz o (.lst xs))) → H a = some (.frz { cls := .type "list", data := .seq vs.toArray } (.lst (ns.map V.int))) → HOk P w H z0.heap → (∀ b, H b ≠ none → b = a ∨ b ∈ cs.map (·.2)) → (H a ≠ none → K.lookup a = none) →
      codeAny (model P w) callerA (.call (.ref fa) ⟨[.ref a], []⟩) (fun r z1 => r = .ok (.ret (.bool true)) ∧ OldK z0.heap z1.heap ∧ z1.os = z0.os ∧ AllBare z1.gens) z0 := by
    intro H tH oH fH okH aH kH
    have bk : ∀ {b : Addr} {o : Obj}, z0.heap.get? b = some o → H b = none → (hidT z0.heap H).get? b = some o := fun e n => hidT_get e n
    have nd1 : ∀ {b : Addr} {o : Obj}, z0.heap.get? b = some o → (∀ vs n, o.data ≠ .seq vs n) → o.data ≠ .fields #[] → H b = none := fun {b o} e h1 h2 => by
      cases q : H b with
      | none => rfl
      | some u =>
        rcases aH b (by rw [q]; simp) with e' | e'
        · rw [e', ha] at e
          cases e
          exact (h1 _ _ rfl).elim
        · rw [iT b e'] at e
          cases e
          exact (h2 rfl).elim
    have nd2 : ∀ {b : Addr} {o : Obj} {en : Array DictEntry} {eq : Nat}, z0.heap.get? b = some o → o.data = .dict en eq → H b = none := fun {b o en eq} e d => by
      refine nd1 e (fun vs n z => ?_) fun z => ?_
      · rw [d] at z
        cases z
      · rw [d] at z
        cases z
    have ns1 : ∀ {b : Addr} {m : Str → Option Value}, z0.heap.Ns b m → (hidT z0.heap H).Ns b m := fun {b m} ⟨o, en, eq, e, d, r⟩ => ⟨o, en, eq, bk e (nd2 e d), d, r⟩
    have kB : K.In (hidT z0.heap H) := fun b o e => bk (KX b o e) (by
      cases q : H b with
      | none => rfl
      | some u =>
        rcases aH b (by rw [q]; simp) with e' | e'
        · rw [e'] at e q
          rw [kH (by rw [q]; simp)] at e
          cases e
        · obtain ⟨p, hp, eq⟩ := List.mem_map.mp e'
          rw [← eq, uT p hp] at e
          cases e)
    have mB : L2.Mod K mg (hidT z0.heap H) := ⟨kB, ns1 hN, ⟨mb, ns1 hb, hBB⟩, let ⟨mc, h1, h2⟩ := hLm; ⟨mc, ns1 h1, h2⟩⟩
    have tB : ∀ p ∈ cs, TabB (hidT z0.heap H) mg p.1 p.2 := fun p hp => by
      have eTp := eT p hp
      refine ⟨?_, ?_, fun z => ?_⟩
      · obtain ⟨o, us, file, tf, flags, tg, inF, text, tt, e1, r1, r2, r3, r4, r5, r6, r7, r8, hne⟩ := C p hp
        refine ⟨o, us, file, tf, flags, tg, inF, text, tt, bk e1 (nd1 e1 (fun vs n z => ?_) fun z => ?_), r1, r2, r3, r4, r5, r6, r7, r8, hne⟩
        · rw [r2] at z
          cases z
        · rw [r2] at z
          cases z
          simp at r3
      · obtain ⟨m9, o9, b1, b2, b3, b4, b5, b6⟩ := hBm
        have nG : m9 ≠ mainGlobals := fun q => by
          obtain ⟨o, en, eq, e, hd, _⟩ := hN
          rw [q, e] at b3
          cases b3
          rw [hd] at b6
          cases b6
        have nP : m9 ≠ p.2 := fun q => by
          rw [q, eTp] at b3
          cases b3
          cases b6
        refine ⟨m9, o9, b1, b2, nG, nP, bk b3 (nd1 b3 (fun vs n z => ?_) fun z => ?_), b4, b5, b6⟩
        · rw [b6] at z
          cases z
        · rw [b6] at z
          cases z
      · obtain ⟨o, en, eq, e, hd, _⟩ := hN
        rw [z, eTp] at e
        cases e
        cases hd
    have e0 : Env0 P w K mg (hidT z0.heap H) callerA [] z0 H := ⟨rfl, mB, fun b o e => of_hidT e, Nat.le_of_eq (hidT_size _ _), trivial, fun b hb => absurd (show b ∈ ([] : List Addr) from hb) (by simp), okH, .of_eq hg⟩
    refine codeAny_mono (go _ H kB (ns1 hN) tB e0 tH fH) fun r z1 h => ?_
    cases r with
    | error e => obtain ⟨_, _, _, _, _, _, _, _, _, _, _, _, hE⟩ := h; exact hE.elim
    | ok fl =>
      cases fl with
      | next => exact False.elim h
      | brk => exact False.elim h
      | cont => exact False.elim h
      | ret u =>
        obtain ⟨v, H', os, bare, uu, hok', r', q⟩ := h
        have q' : v = .bl true := q
        subst q'
        obtain rfl : u = Value.bool true := r'
        have ky : ∀ b o, b ∉ cs.map (·.2) → z0.heap.get? b = some o → z1.heap.get? b = some o := fun b o nb e => by
          cases q : H b with
          | none => exact uu.keep b o e q (by intro z; exact absurd (show b ∈ ([] : List Addr) from z) (by simp)) (by simp)
          | some u =>
            rcases oH b with z | z | ⟨o9, xs, z⟩
            · rw [q] at z; cases z
            · exact absurd z nb
            · have z2 := uu.frzs b o9 _ z
              obtain ⟨e1, _⟩ := okH b _ z
              obtain ⟨e2, _⟩ := hok' b _ z2
              rw [e] at e1; cases e1
              exact e2
        have gr : ∀ p ∈ cs, ∃ mr : Array Value, z1.heap.get? p.2 = some { cls := .none, data := .fields mr } := fun p hp => by
          obtain ⟨mr, z⟩ := uu.tbls p.2 #[] (tH p hp)
          exact ⟨_, hok' p.2 _ z⟩
        refine ⟨rfl, ⟨fun b o e => ?_, fun b o e => ?_⟩, os, bare⟩
        · by_cases hb : b ∈ cs.map (·.2)
          · obtain ⟨p, hp, eq⟩ := List.mem_map.mp hb
            obtain ⟨mr, hm⟩ := gr p hp
            rw [← eq] at e ⊢
            rw [eT p hp] at e
            cases e
            exact .inr (.inl ⟨((C p hp).tab (eT p hp)).isCodeTable, rfl, #[], mr, rfl, by rw [Array.empty_append]; exact hm⟩)
          · exact .inl (ky b o hb e)
        · by_cases hb : b ∈ cs.map (·.2)
          · obtain ⟨p, hp, eq⟩ := List.mem_map.mp hb
            obtain ⟨mr, hm⟩ := gr p hp
            rw [← eq]
            exact ⟨_, hm⟩
          · exact ⟨o, ky b o hb e⟩
  have hk : K.lookup a = none := nl
  refine main1 (fun b => if b = a then some (.frz { cls := .type "list", data := .seq vs.toArray } (.lst (ns.map V.int))) else if b ∈ cs.map (·.2) then some (.tbl #[]) else none) (fun p hp => (if_neg (show ¬ p.2 = a from fun z => anT (by rw [← z]; exact mT p hp))).trans (if_pos (mT p hp))) (fun b => ?_)
    (if_pos rfl) (fun b u z => ?_) (fun b z => ?_) fun _ => hk
  · by_cases hb : b = a
    · exact .inr (.inr ⟨_, _, if_pos hb⟩)
    · by_cases hb2 : b ∈ cs.map (·.2)
      · exact .inr (.inl hb2)
      · exact .inl ((if_neg hb).trans (if_neg hb2))
  · by_cases hb : b = a
    · have z' := (if_pos hb).symm.trans z
      cases z'
      rw [hb]
      exact ⟨ha, by rw [List.length_map]; exact hL, vs, _, rvs, ha⟩
    · have z1 := (if_neg hb).symm.trans z
      by_cases hb2 : b ∈ cs.map (·.2)
      · have z' := (if_pos hb2).symm.trans z1
        cases z'
        exact iT b hb2
      · have z' := (if_neg hb2).symm.trans z1
        cases z'
  · by_cases hb : b = a
    · exact .inl hb
    · by_cases hb2 : b ∈ cs.map (·.2)
      · exact .inr hb2
      · exact absurd ((if_neg hb).trans (if_neg hb2)) z
end MI

set_option Elab.async false
set_option linter.all false
set_option maxRecDepth 100000
set_option maxHeartbeats 4000000
/-! From the mirror of a law to its row. -/
namespace MI
open PySem PySem.Spec PyProof.Rows L2 LamX

/-- the head keeps no list among its facts -/
def noSeqB (K : PySem.W.Frag) : Bool := K.all fun p => match p.2.cls with
  | .type t => !(decide (t = "list"))
  | _ => true
theorem noSeq_ok {K : PySem.W.Frag} (h : noSeqB K = true) {a : Addr} {o : Obj} (e : K.lookup a = some o) (d : o.cls = .type "list") : False := by
  have hm := PySem.W.mem_of_lookupK e
  have z := List.all_eq_true.mp h _ hm
  simp only [d] at z
  revert z
  decide
/-- the tables of code objects are different objects -/
def nodupB (tf : List He.Defn) (K : PySem.W.Frag) : Bool := decide ((tf.map fun p => (He.cT K p).2).Nodup)
/-- they stand ahead of all -/
theorem relP_start {g : G} {H : Hp} {tf : List He.Defn} {qs : List Str} {tt : He.Defn → Addr} (hl : qs.length = tf.length) (nd : (tf.map tt).Nodup) (hT : ∀ p ∈ tf, H (tt p) = some (.tbl #[])) (hg : ∀ t p, tf[t]? = some p → g.tab t = tt p) :
    RelP g (fun _ => False) (tf.map tt) (qs.map O.tbl) H := by
  refine ⟨nd, by simp [hl], fun i a o h1 h2 => ?_, fun a z => z.elim, fun _ _ z => z, fun t q h => ?_⟩
  · rw [List.getElem?_map] at h1 h2
    cases e : tf[i]? with
    | none => rw [e] at h1; cases h1
    | some p =>
      cases e2 : qs[i]? with
      | none => rw [e2] at h2; cases h2
      | some q =>
        rw [e] at h1; rw [e2] at h2
        cases h1; cases h2
        exact ⟨_, hT p (List.mem_of_getElem? e), .tbl trivial fun _ _ z => by cases z⟩
  · rw [List.getElem?_map] at h ⊢
    cases e2 : qs[t]? with
    | none => rw [e2] at h; cases h
    | some q' =>
      have ht : t < tf.length := by rw [← hl]; exact (List.getElem?_eq_some_iff.mp e2).1
      rw [List.getElem?_eq_getElem ht]
      exact congrArg some (hg t _ (List.getElem?_eq_getElem ht)).symm
theorem rds_ints {g : G} {α : List Addr} {F : Addr → Prop} {H : Hp} : ∀ ns : List Int, RDs g α F H (ns.map D.int) (ns.map V.int)
  | [] => .nil
  | i :: ns => .cons (.int i) (rds_ints ns)
section
variable {P : Program} {w : World} {mg : Str → Option Value} {base : Heap} {g : G} {x qual : Str} {params : Arguments} {body : List Stmt} {scope : Scope} {f a : Addr} {fd : FuncData} {N ps : List Str} {k : Nat} {ms : MS} {s : Shared} {H : Hp}
/-- the law's def, called with the script at a -/
theorem law_fin {at_ : Str × Option Str} (Fu : FunD g.K x qual params body scope [] [] (He.fAd g.K at_) fd) (S : FnScope N ps scope) (hps : ps.length = 1) (hr : Room (k + 1) callerA) (e0 : Env0 P w g.K mg base callerA [] s H)
    (hb : ∀ (cdv : Value) (E : XK), Room k (callerA.deeper (PyProof.Rows.envOfC qual scope s.heap.objs.size (He.fAd g.K at_) cdv)) → Takes (cxOf (L2.CX P w) P w g.K mg base N qual scope (He.fAd g.K at_) cdv callerA [] s H E) (fun cls d _ H' => E cls d H') → cdv = .ref (He.codeOf g.K at_) →
      PSs (cxOf (L2.CX P w) P w g.K mg base N qual scope (He.fAd g.K at_) cdv callerA [] s H E) body (TM g (fun cls d _ H' => E cls d H') ms))
    (hbind : ∀ (kV doc pm : Value) (an : Option Addr) (cdv ct : Value) (us : List Value), us.length = ps.length → bindArgs (PySem.W.fnOf x qual params body scope .none kV doc pm an cdv ct) ⟨us, []⟩ = pure (ps.zip us))
    {α : List Addr} {π : PH} {ds : List D} (r : RelP g (fun _ => False) α π H) (rd : RDs g α (fun _ => False) H ds [.ref a]) (hm : ∃ π', runB N.length ms ds π = .ok (.bl true) π') :
    codeAny (model P w) callerA (.call (.ref (He.fAd g.K at_)) ⟨[.ref a], []⟩) (CR (L2.CX P w) [] P w H s (fun v _ => v = .bl true) (fun _ _ _ => False)) s := by
  obtain ⟨oc, od, dV, kV, doc, pm, an, cdv, ct, osl, rfl, lk, hcd, hD, hK⟩ := Fu.ex
  rcases hD with ⟨_, rfl⟩ | ⟨e, _⟩
  · obtain ⟨c, rfl⟩ := He.codeIn_ref hcd
    have ec := He.codeOf_eq (p := at_) lk rfl
    refine run_ofS (vs := [V.ref a]) (us := [Value.ref a]) lk hcd S hr e0 (.of_eq (hbind kV doc pm an _ ct [.ref a] (by rw [hps]; rfl))) (.cons rfl .nil) (by rw [hps]; rfl) fun hr2 => ⟨_, hb _ _ hr2 (takes_of rfl rfl rfl rfl) (by rw [ec]), ?_⟩
    obtain ⟨π', e⟩ := hm
    refine runB_sp (n := ps.length) (N := N) (ms := ms) (E := fun _ _ _ => False) (Q := fun v _ => v = V.bl true) ⟨by rw [hps]; rfl, fun _ => False, α, π, ds, r, rd, ?_⟩
    rw [e]
    intro α' H' v _ _ hv
    cases hv
    rfl
  · exact absurd rfl e
end
/-- the row's walk -/
theorem walk_at {l : PySem.W.OpenLaw} {n : Nat} {q : Program} {loose : List Str} {XP : (Str → Option Value) → Heap → Prop} {YP : World → Heap → Prop} {d : DefRec}
    (hn : l.most = some n) (hn2 : n ≤ sizeLine) (hdf : d.params.defaults = [])
    (F : ∀ (w : World) (mg : Str → Option Value) (fa : Addr) (h : Heap), YP w h → h.Ns mainGlobals mg → mg d.name = some (.ref fa) → ∃ (K : PySem.W.Frag) (cs : List (Addr × Addr)), K.In h ∧ noSeqB K = true ∧
      (∀ p ∈ cs, h.get? p.2 = some { cls := .none, data := .fields #[] }) ∧ (∀ p ∈ cs, K.lookup p.2 = none) ∧ (∀ p ∈ cs, PySem.W.CodeHd h p.1 p.2) ∧
      ∀ (s : Shared) (base : Heap) (H : Hp) (a : Addr) (o : Obj) (ns : List Int), s.heap = h → ns.length ≤ n → (∀ z ∈ ns, Builtin.Int.intBits z ≤ 1048576) → K.In base → base.Ns mainGlobals mg → (∀ p ∈ cs, TabB base mg p.1 p.2) → Env0 l.prog w K mg base callerA [] s H →
        (∀ p ∈ cs, H p.2 = some (.tbl #[])) → H a = some (.frz o (.lst (ns.map V.int))) →
        codeAny (model l.prog w) callerA (.call (.ref fa) ⟨[.ref a], []⟩) (CR (L2.CX l.prog w) [] l.prog w H s (fun v _ => v = .bl true) (fun _ _ _ => False)) s) :
    PySem.W.WalkO q loose XP YP l.row.toRowW d [] (fun f vs => PySem.call f vs) := by
  refine Att.attach_callB hn hdf fun w s₀ s₁ mg mb fa o pm cd doc a vs ns G Y ho hd hcd hmg hobj hints hlen hbits hg => ?_
  obtain ⟨K, cs, KX, nq, hT, nT, C, go⟩ := F w mg fa _ Y G.T.g hmg
  refine law_at KX G.T.g G.T.b G.T.builtins G.T.nolimit hg hT nT C G.T.bmain hobj hints (Nat.le_trans hlen hn2) ?_ fun base H h1 h2 h3 h4 h5 h6 => go s₁ base H a _ ns rfl hlen hbits h1 h2 h3 h4 h5 h6
  cases e : K.lookup a with
  | none => rfl
  | some o' =>
    have z := KX a o' e
    rw [hobj] at z
    cases z
    exact (noSeq_ok nq e rfl).elim
end MI

set_option Elab.async false
set_option linter.all false
set_option maxRecDepth 100000
set_option maxHeartbeats 2000000
namespace LW
open PySem PySem.Spec PyProof.Rows L2 MI
abbrev PR : Program := PySem.Challenge.pw_centbook_k74_rows_and_errors
abbrev R : PySem.W.OpenRow := PySem.W.OpenLaw.row PySem.Challenge.rw_centbook_k74_rows_and_errors
def top (i : Nat) : Stmt := PR.main.body.getD i (.Pass ⟨0, 0, 0, 0⟩)
def mtop (i j : Nat) : Stmt := match top i with
  | .ClassDef _ _ _ body _ _ _ _ _ _ _ => body.getD j (.Pass ⟨0, 0, 0, 0⟩)
  | _ => .Pass ⟨0, 0, 0, 0⟩
instance : Inhabited Expr := ⟨.Constant .none 0 ⟨0, 0, 0, 0⟩⟩
instance : Inhabited Stmt := ⟨.Pass ⟨0, 0, 0, 0⟩⟩
def pRet : Stmt → Expr
  | .Return (some e) _ => e
  | _ => default
def pExp : Stmt → Expr
  | .Expr e _ => e
  | _ => default
def pAsg : Stmt → Expr
  | .Assign _ e _ => e
  | _ => default
def pIfA : Stmt → List Stmt
  | .If _ b _ _ => b
  | _ => []
def pIfB : Stmt → List Stmt
  | .If _ _ b _ => b
  | _ => []
def pIfT : Stmt → Expr
  | .If t _ _ _ => t
  | _ => default
def pCase (i : Nat) : Stmt → List Stmt
  | .Match _ cs _ => (cs.map (·.body)).getD i []
  | _ => []
def pTup : Expr → List Expr
  | .Tuple es _ _ => es
  | _ => []
def pArg : Expr → List Expr
  | .Call _ es _ _ => es
  | _ => []
def pFun : Expr → Expr
  | .Call f _ _ _ => f
  | _ => default
def pUn : Expr → Expr
  | .UnaryOp _ e _ => e
  | _ => default
def pCmpL : Expr → Expr
  | .Compare e _ _ _ => e
  | _ => default
def pCmpR : Expr → List Expr
  | .Compare _ _ es _ => es
  | _ => []
def pBool : Expr → List Expr
  | .BoolOp _ es _ => es
  | _ => []
def lamOf (q : Str) : Expr → LamD
  | .Lambda params body scope _ => ⟨q, params, body, scope⟩
  | _ => default

def nm0 : List Str := ["CentError", "PaperError", "BookError", "TextError", "InvalidPaper", "UnknownLine", "InvalidStep", "NothingToUndo", "InvalidText", "InvalidCommand", "LETTERS", "LONGEST_NAME", "is_integer", "is_name", "common_divisor", "is_row", "is_fraction", "DIGITS", "MOST_DIGITS", "number_or_none"]
def nm1 : List Str := ["integer_or_none", "fraction_or_none", "charge_or_none", "PIECE_DIGITS", "integer_text", "fraction_text", "NOTHING", "words_of_step", "step_row", "log_rows", "change_or_none", "pair_or_none", "group_or_none", "cents_or_none", "StepReader", "read_step", "read_log", "_law_source", "_law_draw", "_law_frac"]
def nm2 : List Str := ["_law_is_name", "_law_error", "_law_said", "_law_pool", "_law_charge", "_law_frac_word", "_law_row", "_law_number_in", "_law_whole_in", "_law_frac_in", "_law_pair_in", "_law_list_in", "_law_one_in", "_law_row_due", "_law_log_due", "_law_by_hand", "_law_bent_row", "_law_steps"]
def loose : List Str := nm0 ++ nm1 ++ nm2
def fnm0 : List Str := ["is_integer", "is_name", "common_divisor", "is_row", "is_fraction", "number_or_none", "integer_or_none", "fraction_or_none", "charge_or_none", "integer_text", "fraction_text", "words_of_step", "step_row", "log_rows", "change_or_none", "pair_or_none", "group_or_none", "cents_or_none", "read_step", "read_log"]
def fnm1 : List Str := ["_law_source", "_law_draw", "_law_frac", "_law_is_name", "_law_error", "_law_said", "_law_pool", "_law_charge", "_law_frac_word", "_law_row", "_law_number_in", "_law_whole_in", "_law_frac_in", "_law_pair_in", "_law_list_in", "_law_one_in", "_law_row_due", "_law_log_due", "_law_by_hand", "_law_bent_row"]
def fnm2 : List Str := ["_law_steps", "law"]
def fnm (k : Nat) : Str := (fnm0 ++ fnm1 ++ fnm2).getD k ""
def cnm0 : List Str := ["CentError", "PaperError", "BookError", "TextError", "InvalidPaper", "UnknownLine", "InvalidStep", "NothingToUndo", "InvalidText", "InvalidCommand", "StepReader"]
def cnm (k : Nat) : Str := (cnm0).getD k ""
def lamTab : Nat → LamD
  | 0 => lamOf "StepReader.step_written.<locals>.<lambda>" (pArg (pTup (pRet (pCase 1 (defBody (mtop 40 5))[1]!)[0]!))[1]!)[0]!
  | 1 => lamOf "StepReader.step_written.<locals>.<lambda>" (pArg (pTup (pRet (pCase 4 (defBody (mtop 40 5))[1]!)[0]!))[1]!)[0]!
  | 2 => lamOf "StepReader.step_written.<locals>.<lambda>" (pArg (pTup (pRet (pCase 5 (defBody (mtop 40 5))[1]!)[0]!))[1]!)[0]!
  | _ => default
def tf : List He.Defn := [("StepReader", some "step_written"), ("law", none)]
theorem tf_mem0 : tf.getD 0 ("", none) ∈ tf := by unfold tf; simp
theorem tf_mem1 : tf.getD 1 ("", none) ∈ tf := by unfold tf; simp
def gOf (K : PySem.W.Frag) : G := ⟨K, fun k => He.ga K (fnm k), fun k => He.ga K (cnm k), lamTab, fun t => (He.cT K (tf.getD t ("", none))).2⟩
abbrev TB (K : PySem.W.Frag) (mg : Str → Option Value) (base : Heap) : Prop := ∀ p ∈ tf, LamX.TabB base mg (He.cT K p).1 (He.cT K p).2
def fn0 : List He.DefD := [⟨("is_integer", none), "is_integer", "is_integer", defArgs (top 14), defBody (top 14), defScope (top 14), [], []⟩,
  ⟨("is_name", none), "is_name", "is_name", defArgs (top 15), defBody (top 15), defScope (top 15), [], []⟩,
  ⟨("common_divisor", none), "common_divisor", "common_divisor", defArgs (top 16), defBody (top 16), defScope (top 16), [], []⟩,
  ⟨("is_row", none), "is_row", "is_row", defArgs (top 17), defBody (top 17), defScope (top 17), [], []⟩,
  ⟨("is_fraction", none), "is_fraction", "is_fraction", defArgs (top 18), defBody (top 18), defScope (top 18), [], []⟩,
  ⟨("number_or_none", none), "number_or_none", "number_or_none", defArgs (top 22), defBody (top 22), defScope (top 22), [], []⟩,
  ⟨("integer_or_none", none), "integer_or_none", "integer_or_none", defArgs (top 23), defBody (top 23), defScope (top 23), [], []⟩,
  ⟨("fraction_or_none", none), "fraction_or_none", "fraction_or_none", defArgs (top 24), defBody (top 24), defScope (top 24), [], []⟩,
  ⟨("charge_or_none", none), "charge_or_none", "charge_or_none", defArgs (top 25), defBody (top 25), defScope (top 25), [], []⟩,
  ⟨("integer_text", none), "integer_text", "integer_text", defArgs (top 28), defBody (top 28), defScope (top 28), [], []⟩,
  ⟨("fraction_text", none), "fraction_text", "fraction_text", defArgs (top 29), defBody (top 29), defScope (top 29), [], []⟩,
  ⟨("words_of_step", none), "words_of_step", "words_of_step", defArgs (top 32), defBody (top 32), defScope (top 32), [], []⟩]
def fn1 : List He.DefD := [⟨("step_row", none), "step_row", "step_row", defArgs (top 33), defBody (top 33), defScope (top 33), [], []⟩,
  ⟨("log_rows", none), "log_rows", "log_rows", defArgs (top 34), defBody (top 34), defScope (top 34), [], []⟩,
  ⟨("change_or_none", none), "change_or_none", "change_or_none", defArgs (top 36), defBody (top 36), defScope (top 36), [], []⟩,
  ⟨("pair_or_none", none), "pair_or_none", "pair_or_none", defArgs (top 37), defBody (top 37), defScope (top 37), [], []⟩,
  ⟨("group_or_none", none), "group_or_none", "group_or_none", defArgs (top 38), defBody (top 38), defScope (top 38), [], []⟩,
  ⟨("cents_or_none", none), "cents_or_none", "cents_or_none", defArgs (top 39), defBody (top 39), defScope (top 39), [], []⟩,
  ⟨("StepReader", some "__init__"), "__init__", "StepReader.__init__", defArgs (mtop 40 0), defBody (mtop 40 0), defScope (mtop 40 0), [], []⟩,
  ⟨("StepReader", some "require"), "require", "StepReader.require", defArgs (mtop 40 1), defBody (mtop 40 1), defScope (mtop 40 1), [], []⟩,
  ⟨("StepReader", some "only"), "only", "StepReader.only", defArgs (mtop 40 2), defBody (mtop 40 2), defScope (mtop 40 2), [], []⟩,
  ⟨("StepReader", some "several"), "several", "StepReader.several", defArgs (mtop 40 3), defBody (mtop 40 3), defScope (mtop 40 3), [], []⟩,
  ⟨("StepReader", some "none_or_several"), "none_or_several", "StepReader.none_or_several", defArgs (mtop 40 4), defBody (mtop 40 4), defScope (mtop 40 4), [], []⟩,
  ⟨("StepReader", some "step_written"), "step_written", "StepReader.step_written", defArgs (mtop 40 5), defBody (mtop 40 5), defScope (mtop 40 5), [], []⟩]
def fn2 : List He.DefD := [⟨("read_step", none), "read_step", "read_step", defArgs (top 41), defBody (top 41), defScope (top 41), [], []⟩,
  ⟨("read_log", none), "read_log", "read_log", defArgs (top 42), defBody (top 42), defScope (top 42), [], []⟩,
  ⟨("_law_source", none), "_law_source", "_law_source", defArgs (top 44), defBody (top 44), defScope (top 44), [], []⟩,
  ⟨("_law_draw", none), "_law_draw", "_law_draw", defArgs (top 45), defBody (top 45), defScope (top 45), [], []⟩,
  ⟨("_law_frac", none), "_law_frac", "_law_frac", defArgs (top 46), defBody (top 46), defScope (top 46), [], []⟩,
  ⟨("_law_is_name", none), "_law_is_name", "_law_is_name", defArgs (top 47), defBody (top 47), defScope (top 47), [], []⟩,
  ⟨("_law_error", none), "_law_error", "_law_error", defArgs (top 48), defBody (top 48), defScope (top 48), [], []⟩,
  ⟨("_law_pool", none), "_law_pool", "_law_pool", defArgs (top 50), defBody (top 50), defScope (top 50), [], []⟩,
  ⟨("_law_charge", none), "_law_charge", "_law_charge", defArgs (top 51), defBody (top 51), defScope (top 51), [], []⟩,
  ⟨("_law_frac_word", none), "_law_frac_word", "_law_frac_word", defArgs (top 52), defBody (top 52), defScope (top 52), [], []⟩,
  ⟨("_law_row", none), "_law_row", "_law_row", defArgs (top 53), defBody (top 53), defScope (top 53), [], []⟩,
  ⟨("_law_number_in", none), "_law_number_in", "_law_number_in", defArgs (top 54), defBody (top 54), defScope (top 54), [], []⟩]
def fn3 : List He.DefD := [⟨("_law_whole_in", none), "_law_whole_in", "_law_whole_in", defArgs (top 55), defBody (top 55), defScope (top 55), [], []⟩,
  ⟨("_law_frac_in", none), "_law_frac_in", "_law_frac_in", defArgs (top 56), defBody (top 56), defScope (top 56), [], []⟩,
  ⟨("_law_pair_in", none), "_law_pair_in", "_law_pair_in", defArgs (top 57), defBody (top 57), defScope (top 57), [], []⟩,
  ⟨("_law_list_in", none), "_law_list_in", "_law_list_in", defArgs (top 58), defBody (top 58), defScope (top 58), [], []⟩,
  ⟨("_law_one_in", none), "_law_one_in", "_law_one_in", defArgs (top 59), defBody (top 59), defScope (top 59), [], []⟩,
  ⟨("_law_row_due", none), "_law_row_due", "_law_row_due", defArgs (top 60), defBody (top 60), defScope (top 60), [], []⟩,
  ⟨("_law_log_due", none), "_law_log_due", "_law_log_due", defArgs (top 61), defBody (top 61), defScope (top 61), [], []⟩,
  ⟨("_law_by_hand", none), "_law_by_hand", "_law_by_hand", defArgs (top 62), defBody (top 62), defScope (top 62), [], []⟩,
  ⟨("_law_bent_row", none), "_law_bent_row", "_law_bent_row", defArgs (top 63), defBody (top 63), defScope (top 63), [], []⟩,
  ⟨("_law_steps", none), "_law_steps", "_law_steps", defArgs (top 64), defBody (top 64), defScope (top 64), [], []⟩,
  ⟨("law", none), "law", "law", defArgs (top 65), defBody (top 65), defScope (top 65), [], []⟩,
  ⟨("_law_said", none), "_law_said", "_law_said", defArgs (top 49), defBody (top 49), defScope (top 49), [], []⟩]
def fn : List He.DefD := fn0 ++ fn1 ++ fn2 ++ fn3
def su : List SupD := [⟨"InvalidText", "InvalidText.__init__", defArgs (mtop 9 0), defBody (mtop 9 0), defScope (mtop 9 0), ["row", "field"]⟩]
def suT : Nat → Nat → Option Bool
  | 8, 4 => some false
  | 8, 5 => some false
  | 8, 6 => some false
  | 8, 7 => some false
  | 8, 8 => some true
  | 8, 9 => some false
  | 8, 1 => some false
  | 8, 2 => some false
  | 8, 3 => some true
  | _, _ => none
def stT : Nat → String → Option Bool
  | 8, "ValueError" => some true
  | _, _ => none
def cau_CentError : Nat → Option Bool
  | 8 => some true
  | _ => none
def fa0 : List He.Fa := [.glo "BookError", .glo "CentError", .glo "InvalidCommand", .glo "InvalidPaper", .glo "InvalidStep", .glo "InvalidText", .glo "NothingToUndo", .glo "PaperError", .glo "StepReader", .glo "TextError", .glo "UnknownLine", .glo "_law_bent_row", .glo "_law_by_hand", .glo "_law_charge", .glo "_law_draw", .glo "_law_error", .glo "_law_frac", .glo "_law_frac_in", .glo "_law_frac_word", .glo "_law_is_name"]
def fa1 : List He.Fa := [.glo "_law_list_in", .glo "_law_log_due", .glo "_law_number_in", .glo "_law_one_in", .glo "_law_pair_in", .glo "_law_pool", .glo "_law_row", .glo "_law_row_due", .glo "_law_said", .glo "_law_source", .glo "_law_steps", .glo "_law_whole_in", .glo "cents_or_none", .glo "change_or_none", .glo "charge_or_none", .glo "common_divisor", .glo "fraction_or_none", .glo "fraction_text", .glo "group_or_none", .glo "integer_or_none"]
def fa2 : List He.Fa := [.glo "integer_text", .glo "is_fraction", .glo "is_integer", .glo "is_name", .glo "is_row", .glo "law", .glo "log_rows", .glo "number_or_none", .glo "pair_or_none", .glo "read_log", .glo "read_step", .glo "step_row", .glo "words_of_step", .free "ValueError", .free "abs", .free "all", .free "bool", .free "enumerate", .free "int", .free "isinstance"]
def fa3 : List He.Fa := [.free "len", .free "list", .free "range", .free "repr", .free "sorted", .free "str", .free "super", .free "tuple", .free "zip", .str "DIGITS" "0123456789", .str "LETTERS" "abcdefghijklmnopqrstuvwxyz", .int "LONGEST_NAME" 8, .int "MOST_DIGITS" 60, .str "NOTHING" "-", .cls "StepReader", .noat "InvalidText" "field", .noat "InvalidText" "row", .noat "StepReader" "row_held", .noat "StepReader" "words", .meth "StepReader" "none_or_several"]
def fa4 : List He.Fa := [.meth "StepReader" "only", .meth "StepReader" "require", .meth "StepReader" "several", .meth "StepReader" "step_written", .mkr "StepReader", .exm "InvalidText" "CentError" true]
def fa : List He.Fa := fa0 ++ fa1 ++ fa2 ++ fa3 ++ fa4
def ex0 : List (PySem.W.Frag → Bool) := [excvB "InvalidText", isOwnB "InvalidText" "InvalidPaper" false, isOwnB "InvalidText" "UnknownLine" false, isOwnB "InvalidText" "InvalidStep" false, isOwnB "InvalidText" "NothingToUndo" false, isOwnB "InvalidText" "InvalidText" true, isOwnB "InvalidText" "InvalidCommand" false, isOwnB "InvalidText" "PaperError" false, isOwnB "InvalidText" "BookError" false, isOwnB "InvalidText" "TextError" true, isTyB "InvalidText" "ValueError" true, noSeqB, nodupB tf]
def ex : List (PySem.W.Frag → Bool) := ex0
structure Ct (K : PySem.W.Frag) (mg : Str → Option Value) : Prop where
  ex : ∃ h : Heap, K.In h ∧ h.Ns mainGlobals mg ∧ SaysM PR.main.file fa ex fn su tf h K
section
variable {K : PySem.W.Frag} {mg : Str → Option Value}
theorem Ct.d (c : Ct K mg) : He.SaysD fa fn K := let ⟨_, _, _, S⟩ := c.ex; S.d
theorem Ct.exq (c : Ct K mg) (i : Nat) {f : PySem.W.Frag → Bool} (h : LW.ex[i]? = some f) : f K = true := let ⟨_, _, _, S⟩ := c.ex; S.exq i h
theorem Ct.fact (c : Ct K mg) (i : Nat) {f : He.Fa} (h : fa[i]? = some f) : f.ok K = true := c.d.fact i h
theorem Ct.glo (c : Ct K mg) (i : Nat) {x : Str} (h : fa[i]? = some (.glo x)) : mg x = some (.ref (He.ga K x)) := let ⟨_, a, b, _⟩ := c.ex; He.glo_ok a b (c.d.fact i h)
theorem Ct.free (c : Ct K mg) (i : Nat) {x : Str} (h : fa[i]? = some (.free x)) : mg x = none := let ⟨_, a, b, _⟩ := c.ex; He.free_ok a b (c.d.fact i h)
theorem Ct.str (c : Ct K mg) (i : Nat) {x z : Str} (h : fa[i]? = some (.str x z)) : ∃ t, mg x = some (.str z t) := let ⟨_, a, b, _⟩ := c.ex; He.str_ok a b (c.d.fact i h)
theorem Ct.int (c : Ct K mg) (i : Nat) {x : Str} {z : Int} (h : fa[i]? = some (.int x z)) : ∃ t, mg x = some (.int z t) := let ⟨_, a, b, _⟩ := c.ex; He.int_ok a b (c.d.fact i h)
theorem Ct.def_ (c : Ct K mg) (i : Nat) {d : He.DefD} (h : fn[i]? = some d) : ∃ fd, FunD K d.name d.qual d.params d.body d.scope (d.dvs K) (d.kws K) (He.fAd K d.at_) fd := c.d.def_ i h
theorem Ct.g_BookError (c : Ct K mg) : mg "BookError" = some (.ref (He.ga K "BookError")) := c.glo 0 rfl
theorem Ct.g_CentError (c : Ct K mg) : mg "CentError" = some (.ref (He.ga K "CentError")) := c.glo 1 rfl
theorem Ct.g_InvalidCommand (c : Ct K mg) : mg "InvalidCommand" = some (.ref (He.ga K "InvalidCommand")) := c.glo 2 rfl
theorem Ct.g_InvalidPaper (c : Ct K mg) : mg "InvalidPaper" = some (.ref (He.ga K "InvalidPaper")) := c.glo 3 rfl
theorem Ct.g_InvalidStep (c : Ct K mg) : mg "InvalidStep" = some (.ref (He.ga K "InvalidStep")) := c.glo 4 rfl
theorem Ct.g_InvalidText (c : Ct K mg) : mg "InvalidText" = some (.ref (He.ga K "InvalidText")) := c.glo 5 rfl
theorem Ct.g_NothingToUndo (c : Ct K mg) : mg "NothingToUndo" = some (.ref (He.ga K "NothingToUndo")) := c.glo 6 rfl
theorem Ct.g_PaperError (c : Ct K mg) : mg "PaperError" = some (.ref (He.ga K "PaperError")) := c.glo 7 rfl
theorem Ct.g_StepReader (c : Ct K mg) : mg "StepReader" = some (.ref (He.ga K "StepReader")) := c.glo 8 rfl
theorem Ct.g_TextError (c : Ct K mg) : mg "TextError" = some (.ref (He.ga K "TextError")) := c.glo 9 rfl
theorem Ct.g_UnknownLine (c : Ct K mg) : mg "UnknownLine" = some (.ref (He.ga K "UnknownLine")) := c.glo 10 rfl
theorem Ct.g__law_bent_row (c : Ct K mg) : mg "_law_bent_row" = some (.ref (He.ga K "_law_bent_row")) := c.glo 11 rfl
theorem Ct.g__law_by_hand (c : Ct K mg) : mg "_law_by_hand" = some (.ref (He.ga K "_law_by_hand")) := c.glo 12 rfl
theorem Ct.g__law_charge (c : Ct K mg) : mg "_law_charge" = some (.ref (He.ga K "_law_charge")) := c.glo 13 rfl
theorem Ct.g__law_draw (c : Ct K mg) : mg "_law_draw" = some (.ref (He.ga K "_law_draw")) := c.glo 14 rfl
theorem Ct.g__law_error (c : Ct K mg) : mg "_law_error" = some (.ref (He.ga K "_law_error")) := c.glo 15 rfl
theorem Ct.g__law_frac (c : Ct K mg) : mg "_law_frac" = some (.ref (He.ga K "_law_frac")) := c.glo 16 rfl
theorem Ct.g__law_frac_in (c : Ct K mg) : mg "_law_frac_in" = some (.ref (He.ga K "_law_frac_in")) := c.glo 17 rfl
theorem Ct.g__law_frac_word (c : Ct K mg) : mg "_law_frac_word" = some (.ref (He.ga K "_law_frac_word")) := c.glo 18 rfl
theorem Ct.g__law_is_name (c : Ct K mg) : mg "_law_is_name" = some (.ref (He.ga K "_law_is_name")) := c.glo 19 rfl
theorem Ct.g__law_list_in (c : Ct K mg) : mg "_law_list_in" = some (.ref (He.ga K "_law_list_in")) := c.glo 20 rfl
theorem Ct.g__law_log_due (c : Ct K mg) : mg "_law_log_due" = some (.ref (He.ga K "_law_log_due")) := c.glo 21 rfl
theorem Ct.g__law_number_in (c : Ct K mg) : mg "_law_number_in" = some (.ref (He.ga K "_law_number_in")) := c.glo 22 rfl
theorem Ct.g__law_one_in (c : Ct K mg) : mg "_law_one_in" = some (.ref (He.ga K "_law_one_in")) := c.glo 23 rfl
theorem Ct.g__law_pair_in (c : Ct K mg) : mg "_law_pair_in" = some (.ref (He.ga K "_law_pair_in")) := c.glo 24 rfl
theorem Ct.g__law_pool (c : Ct K mg) : mg "_law_pool" = some (.ref (He.ga K "_law_pool")) := c.glo 25 rfl
theorem Ct.g__law_row (c : Ct K mg) : mg "_law_row" = some (.ref (He.ga K "_law_row")) := c.glo 26 rfl
theorem Ct.g__law_row_due (c : Ct K mg) : mg "_law_row_due" = some (.ref (He.ga K "_law_row_due")) := c.glo 27 rfl
theorem Ct.g__law_said (c : Ct K mg) : mg "_law_said" = some (.ref (He.ga K "_law_said")) := c.glo 28 rfl
theorem Ct.g__law_source (c : Ct K mg) : mg "_law_source" = some (.ref (He.ga K "_law_source")) := c.glo 29 rfl
theorem Ct.g__law_steps (c : Ct K mg) : mg "_law_steps" = some (.ref (He.ga K "_law_steps")) := c.glo 30 rfl
theorem Ct.g__law_whole_in (c : Ct K mg) : mg "_law_whole_in" = some (.ref (He.ga K "_law_whole_in")) := c.glo 31 rfl
theorem Ct.g_cents_or_none (c : Ct K mg) : mg "cents_or_none" = some (.ref (He.ga K "cents_or_none")) := c.glo 32 rfl
theorem Ct.g_change_or_none (c : Ct K mg) : mg "change_or_none" = some (.ref (He.ga K "change_or_none")) := c.glo 33 rfl
theorem Ct.g_charge_or_none (c : Ct K mg) : mg "charge_or_none" = some (.ref (He.ga K "charge_or_none")) := c.glo 34 rfl
theorem Ct.g_common_divisor (c : Ct K mg) : mg "common_divisor" = some (.ref (He.ga K "common_divisor")) := c.glo 35 rfl
theorem Ct.g_fraction_or_none (c : Ct K mg) : mg "fraction_or_none" = some (.ref (He.ga K "fraction_or_none")) := c.glo 36 rfl
theorem Ct.g_fraction_text (c : Ct K mg) : mg "fraction_text" = some (.ref (He.ga K "fraction_text")) := c.glo 37 rfl
theorem Ct.g_group_or_none (c : Ct K mg) : mg "group_or_none" = some (.ref (He.ga K "group_or_none")) := c.glo 38 rfl
theorem Ct.g_integer_or_none (c : Ct K mg) : mg "integer_or_none" = some (.ref (He.ga K "integer_or_none")) := c.glo 39 rfl
theorem Ct.g_integer_text (c : Ct K mg) : mg "integer_text" = some (.ref (He.ga K "integer_text")) := c.glo 40 rfl
theorem Ct.g_is_fraction (c : Ct K mg) : mg "is_fraction" = some (.ref (He.ga K "is_fraction")) := c.glo 41 rfl
theorem Ct.g_is_integer (c : Ct K mg) : mg "is_integer" = some (.ref (He.ga K "is_integer")) := c.glo 42 rfl
theorem Ct.g_is_name (c : Ct K mg) : mg "is_name" = some (.ref (He.ga K "is_name")) := c.glo 43 rfl
theorem Ct.g_is_row (c : Ct K mg) : mg "is_row" = some (.ref (He.ga K "is_row")) := c.glo 44 rfl
theorem Ct.g_law (c : Ct K mg) : mg "law" = some (.ref (He.ga K "law")) := c.glo 45 rfl
theorem Ct.g_log_rows (c : Ct K mg) : mg "log_rows" = some (.ref (He.ga K "log_rows")) := c.glo 46 rfl
theorem Ct.g_number_or_none (c : Ct K mg) : mg "number_or_none" = some (.ref (He.ga K "number_or_none")) := c.glo 47 rfl
theorem Ct.g_pair_or_none (c : Ct K mg) : mg "pair_or_none" = some (.ref (He.ga K "pair_or_none")) := c.glo 48 rfl
theorem Ct.g_read_log (c : Ct K mg) : mg "read_log" = some (.ref (He.ga K "read_log")) := c.glo 49 rfl
theorem Ct.g_read_step (c : Ct K mg) : mg "read_step" = some (.ref (He.ga K "read_step")) := c.glo 50 rfl
theorem Ct.g_step_row (c : Ct K mg) : mg "step_row" = some (.ref (He.ga K "step_row")) := c.glo 51 rfl
theorem Ct.g_words_of_step (c : Ct K mg) : mg "words_of_step" = some (.ref (He.ga K "words_of_step")) := c.glo 52 rfl
theorem Ct.f_ValueError (c : Ct K mg) : mg "ValueError" = none := c.free 53 rfl
theorem Ct.f_abs (c : Ct K mg) : mg "abs" = none := c.free 54 rfl
theorem Ct.f_all (c : Ct K mg) : mg "all" = none := c.free 55 rfl
theorem Ct.f_bool (c : Ct K mg) : mg "bool" = none := c.free 56 rfl
theorem Ct.f_enumerate (c : Ct K mg) : mg "enumerate" = none := c.free 57 rfl
theorem Ct.f_int (c : Ct K mg) : mg "int" = none := c.free 58 rfl
theorem Ct.f_isinstance (c : Ct K mg) : mg "isinstance" = none := c.free 59 rfl
theorem Ct.f_len (c : Ct K mg) : mg "len" = none := c.free 60 rfl
theorem Ct.f_list (c : Ct K mg) : mg "list" = none := c.free 61 rfl
theorem Ct.f_range (c : Ct K mg) : mg "range" = none := c.free 62 rfl
theorem Ct.f_repr (c : Ct K mg) : mg "repr" = none := c.free 63 rfl
theorem Ct.f_sorted (c : Ct K mg) : mg "sorted" = none := c.free 64 rfl
theorem Ct.f_str (c : Ct K mg) : mg "str" = none := c.free 65 rfl
theorem Ct.f_super (c : Ct K mg) : mg "super" = none := c.free 66 rfl
theorem Ct.f_tuple (c : Ct K mg) : mg "tuple" = none := c.free 67 rfl
theorem Ct.f_zip (c : Ct K mg) : mg "zip" = none := c.free 68 rfl
theorem Ct.k_DIGITS (c : Ct K mg) : ∃ t, mg "DIGITS" = some (.str "0123456789" t) := c.str 69 rfl
theorem Ct.k_LETTERS (c : Ct K mg) : ∃ t, mg "LETTERS" = some (.str "abcdefghijklmnopqrstuvwxyz" t) := c.str 70 rfl
theorem Ct.k_LONGEST_NAME (c : Ct K mg) : ∃ t, mg "LONGEST_NAME" = some (.int 8 t) := c.int 71 rfl
theorem Ct.k_MOST_DIGITS (c : Ct K mg) : ∃ t, mg "MOST_DIGITS" = some (.int 60 t) := c.int 72 rfl
theorem Ct.k_NOTHING (c : Ct K mg) : ∃ t, mg "NOTHING" = some (.str "-" t) := c.str 73 rfl
theorem Ct.c_StepReader (c : Ct K mg) : Cls K (He.ga K "StepReader") := He.cls_ok (c.fact 74 rfl)
theorem Ct.n_InvalidText_field (c : Ct K mg) : NoAttr K (He.ga K "InvalidText") "field" := He.noat_ok (c.fact 75 rfl)
theorem Ct.n_InvalidText_row (c : Ct K mg) : NoAttr K (He.ga K "InvalidText") "row" := He.noat_ok (c.fact 76 rfl)
theorem Ct.n_StepReader_row_held (c : Ct K mg) : NoAttr K (He.ga K "StepReader") "row_held" := He.noat_ok (c.fact 77 rfl)
theorem Ct.n_StepReader_words (c : Ct K mg) : NoAttr K (He.ga K "StepReader") "words" := He.noat_ok (c.fact 78 rfl)
theorem Ct.m_StepReader_none_or_several (c : Ct K mg) : Meth K (He.ga K "StepReader") "none_or_several" (He.ma K (He.ga K "StepReader") "none_or_several") := He.meth_ok (c.fact 79 rfl)
theorem Ct.m_StepReader_only (c : Ct K mg) : Meth K (He.ga K "StepReader") "only" (He.ma K (He.ga K "StepReader") "only") := He.meth_ok (c.fact 80 rfl)
theorem Ct.m_StepReader_require (c : Ct K mg) : Meth K (He.ga K "StepReader") "require" (He.ma K (He.ga K "StepReader") "require") := He.meth_ok (c.fact 81 rfl)
theorem Ct.m_StepReader_several (c : Ct K mg) : Meth K (He.ga K "StepReader") "several" (He.ma K (He.ga K "StepReader") "several") := He.meth_ok (c.fact 82 rfl)
theorem Ct.m_StepReader_step_written (c : Ct K mg) : Meth K (He.ga K "StepReader") "step_written" (He.ma K (He.ga K "StepReader") "step_written") := He.meth_ok (c.fact 83 rfl)
theorem Ct.mk_StepReader (c : Ct K mg) : Mk K (He.ga K "StepReader") (He.ma K (He.ga K "StepReader") "__init__") := He.mkr_ok (c.fact 84 rfl)
theorem Ct.v_InvalidText (c : Ct K mg) : ExcV K (He.ga K "InvalidText") := excvB_ok (c.exq 0 rfl)
theorem Ct.subT (c : Ct K mg) : SubT (gOf K) suT stT := by
  refine ⟨fun a k b h => ?_, fun a t b h => ?_⟩
  · unfold suT at h
    split at h
    · cases h; exact ⟨of_decide_eq_true (c.exq 1 rfl), c.v_InvalidText⟩
    · cases h; exact ⟨of_decide_eq_true (c.exq 2 rfl), c.v_InvalidText⟩
    · cases h; exact ⟨of_decide_eq_true (c.exq 3 rfl), c.v_InvalidText⟩
    · cases h; exact ⟨of_decide_eq_true (c.exq 4 rfl), c.v_InvalidText⟩
    · cases h; exact ⟨of_decide_eq_true (c.exq 5 rfl), c.v_InvalidText⟩
    · cases h; exact ⟨of_decide_eq_true (c.exq 6 rfl), c.v_InvalidText⟩
    · cases h; exact ⟨of_decide_eq_true (c.exq 7 rfl), c.v_InvalidText⟩
    · cases h; exact ⟨of_decide_eq_true (c.exq 8 rfl), c.v_InvalidText⟩
    · cases h; exact ⟨of_decide_eq_true (c.exq 9 rfl), c.v_InvalidText⟩
    · cases h
  · unfold stT at h
    split at h
    · cases h; exact ⟨of_decide_eq_true (c.exq 10 rfl), c.v_InvalidText⟩
    · cases h
theorem Ct.cau_CentError (c : Ct K mg) : ∀ k b, LW.cau_CentError k = some b → PySem.W.exmOne (gOf K).K (.ref ((gOf K).cadr k)) (.ref (He.ga K "CentError")) = some b := by
  intro k b h
  unfold LW.cau_CentError at h
  split at h
  · cases h; exact He.exm_ok (c.fact 85 rfl)
  · cases h
theorem Ct.s_InvalidText (c : Ct K mg) : Sup2 PR K mg (He.ga K "InvalidText") "row" "field" := by
  obtain ⟨h, _, _, S⟩ := c.ex
  obtain ⟨h1, h2⟩ := S.sup 0 (d := su.getD 0 ⟨"", "", defArgs (top 0), [], defScope (top 0), []⟩) rfl
  obtain ⟨T, nf, k1, k2, k3⟩ := supB_ok (prog := PR) h1 h2 c.f_super rfl
  exact sup2_mk (a := "row") (b := "field") T ⟨rfl, rfl, rfl, by decide +kernel, rfl, rfl, by decide +kernel⟩ (by decide) rfl rfl rfl rfl (nf _ (by decide +kernel)) (nf _ (by decide +kernel)) k1 k2 k3 (fun _ _ _ _ _ _ _ _ _ => rfl) (pl := fun env => L2.plainOf (.Call (.Name "super" _) [] [] _) env) (fun env => rfl)
end
end LW

set_option Elab.async false
set_option linter.all false
set_option maxRecDepth 100000
set_option maxHeartbeats 2000000
namespace LW
open PySem PySem.Spec PyProof.Rows L2 MI

def fuel_common_divisor_1 : MI.Env → PH → Nat := fun δ _ => match δ[1]? with | some (some (D.int i)) => i.natAbs + 1 | _ => 0
def fuel_integer_text_1 : MI.Env → PH → Nat := fun δ _ => match δ[0]? with | some (some (D.int i)) => i.natAbs + 1 | _ => 0
def fuel__law_frac_1 : MI.Env → PH → Nat := fun δ _ => match δ[3]? with | some (some (D.int i)) => i.natAbs + 1 | _ => 0
def m_is_integer : MS := sRet (mAndV (mArgs fIsi (mCons (mVar 0) (mCons (mC (.ty "int")) (mNil)))) (mNotV (mArgs fIsi (mCons (mVar 0) (mCons (mC (.ty "bool")) (mNil))))))
def F_is_integer : Fun_ := runB 1 m_is_integer
def m_is_name : MS := sThen (sIf (mOr (mNot (mTru (mArgs fIsi (mCons (mVar 0) (mCons (mC (.ty "str")) (mNil)))))) (mNot (mB (mChain (fLe) (fLe) (mC (.int 1)) (mArgs fLen (mCons (mVar 0) (mNil))) (mC (.int 8)))))) (sRet (mC (.bl false))) (sNx)) (sRet (mArgs fAll (mCons (mLc false [1] (mUn fSrc (mVar 0)) (setN 1) (mYes) (mOp (fIn false) (mVar 1) (mC (.str "abcdefghijklmnopqrstuvwxyz")))) (mNil))))
def F_is_name : Fun_ := runB 2 m_is_name
def m_common_divisor : MS := sThen (sWh fuel_common_divisor_1 (mB (mOp (fEqS true) (mVar 1) (mC (.int 0)))) (sPar 0 1 (mCons (mVar 1) (mCons (mOp (fMod) (mVar 0) (mVar 1)) (mNil))))) (sRet (mArgs fAbs (mCons (mVar 0) (mNil))))
def F_common_divisor : Fun_ := runB 2 m_common_divisor
def m_number_or_none : MS := sThen (sIf (mOr (mNot (mB (mChain (fLe) (fLe) (mC (.int 1)) (mArgs fLen (mCons (mVar 0) (mNil))) (mC (.int 60))))) (mNot (mTru (mArgs fAll (mCons (mLc false [1] (mUn fSrc (mVar 0)) (setN 1) (mYes) (mOp (fIn false) (mVar 1) (mC (.str "0123456789")))) (mNil)))))) (sRet (mC .non)) (sNx)) (sRet (mIf (mOr (mB (mOp (fEqS false) (mVar 0) (mC (.str "0")))) (mB (mOp (fEqS true) (mOp fIx (mVar 0) (mC (.int 0))) (mC (.str "0"))))) (mArgs fIntS (mCons (mVar 0) (mNil))) (mC .non)))
def F_number_or_none : Fun_ := runB 2 m_number_or_none
def m_integer_text (self : Fun_) : MS := sThen (sIf (mB (mOp (fLt) (mVar 0) (mC (.int 0)))) (sRet (mJs [mC (.str "-"), mUn fFmt (mArgs (fCall 1 [] self) (mCons (mOp (fSub) (mC (.int 0)) (mVar 0)) (mNil)))] Str.empty)) (sNx)) (sThen (sSet 1 (mOp (fPow) (mC (.int 10)) (mC (.int 60)))) (sThen (sSet 2 (mC (.str ""))) (sThen (sWh fuel_integer_text_1 (mB (mOp (fGe) (mVar 0) (mVar 1))) (sThen (sSet 2 ((fun _ _ => .stuck))) (sSet 0 (mOp (fDiv) (mVar 0) (mVar 1))))) (sRet (mJs [mUn fFmt (mVar 0), mUn fFmt (mVar 2)] Str.empty)))))
def F_integer_text : Nat → Fun_
  | 0 => fun _ _ => .stuck
  | n + 1 => runB 3 (m_integer_text (F_integer_text n))
def m_StepReader___init__ : MS := sThen (sFldPut 10 "row_held" (mVar 0) (mVar 1)) (sFldPut 10 "words" (mVar 0) (mVar 2))
def F_StepReader___init__ : Fun_ := runB 3 m_StepReader___init__
def m_StepReader_require : MS := sIf (mNot (mTru (mVar 1))) (sRaise2 8 "row" "field" (mCons (mUn (fFld 10 "row_held") (mVar 0)) (mCons (mVar 2) (mNil)))) (sNx)
def F_StepReader_require : Fun_ := runB 3 m_StepReader_require
def m__law_source : MS := sRet (mLst true (mCons (mSl false (mVar 0) (mNoPart) (mPart (mC (.int 63)))) (mCons (mC (.int 0)) (mCons (mC (.int 0)) (mCons (mC (.int 0)) (mNil))))))
def F__law_source : Fun_ := runB 1 m__law_source
def m__law_draw : MS := sThen (sPut (mVar 0) (mC (.int 3)) (mOp (fAdd false) (mOp fIx (mVar 0) (mC (.int 3))) (mC (.int 1)))) (sThen (sIf (mB (mOp (fGt) (mOp fIx (mVar 0) (mC (.int 2))) (mC (.int 0)))) (sThen (sSet 2 (mOp (fMod) (mOp fIx (mVar 0) (mC (.int 2))) (mVar 1))) (sThen (sPut (mVar 0) (mC (.int 2)) (mOp (fDiv) (mOp fIx (mVar 0) (mC (.int 2))) (mVar 1))) (sRet (mVar 2)))) (sNx)) (sThen (sSet 3 (mOp fIx (mVar 0) (mC (.int 1)))) (sThen (sPut (mVar 0) (mC (.int 1)) (mOp (fAdd false) (mVar 3) (mC (.int 1)))) (sThen (sSet 4 (mIf (mB (mOp (fEqS true) (mOp fIx (mVar 0) (mC (.int 0))) (mLst false (mNil)))) (mOp fIx (mOp fIx (mVar 0) (mC (.int 0))) (mOp (fMod) (mVar 3) (mArgs fLen (mCons (mOp fIx (mVar 0) (mC (.int 0))) (mNil))))) (mC (.int 337)))) (sThen (sIf (mAnd (mB (mOp (fGe) (mVar 4) (mOp (fPow) (mC (.int 10)) (mC (.int 18))))) (mB (mOp (fLt) (mVar 3) (mArgs fLen (mCons (mOp fIx (mVar 0) (mC (.int 0))) (mNil)))))) (sThen (sPut (mVar 0) (mC (.int 2)) (mOp (fDiv) (mVar 4) (mVar 1))) (sRet (mOp (fMod) (mVar 4) (mVar 1)))) (sNx)) (sThen (sSet 5 (mOp (fMod) (mOp (fPow) (mOp (fAdd false) (mOp (fAdd false) (mOp (fMod) (mVar 4) (mC (.int 1999999943))) (mOp (fMulS) (mC (.int 50051)) (mOp fIx (mVar 0) (mC (.int 3))))) (mC (.int 71))) (mC (.int 3))) (mC (.int 2147483543)))) (sRet (mOp (fMod) (mOp (fDiv) (mOp (fMod) (mOp (fPow) (mOp (fAdd false) (mOp (fAdd false) (mVar 5) (mOp (fMulS) (mOp (fMulS) (mC (.int 6011)) (mOp fIx (mVar 0) (mC (.int 3)))) (mOp fIx (mVar 0) (mC (.int 3))))) (mC (.int 19))) (mC (.int 5))) (mC (.int 2147483579))) (mC (.int 256))) (mVar 1)))))))))
def F__law_draw : Fun_ := runB 6 m__law_draw
def m__law_frac : MS := sThen (sPar 2 3 (mCons (mArgs fAbs (mCons (mVar 0) (mNil))) (mCons (mVar 1) (mNil)))) (sThen (sWh fuel__law_frac_1 (mB (mOp (fGt) (mVar 3) (mC (.int 0)))) (sPar 2 3 (mCons (mVar 3) (mCons (mOp (fMod) (mVar 2) (mVar 3)) (mNil))))) (sRet (mTup (mCons (mOp (fDiv) (mVar 0) (mVar 2)) (mCons (mOp (fDiv) (mVar 1) (mVar 2)) (mNil))))))
def F__law_frac : Fun_ := runB 4 m__law_frac
def m__law_is_name : MS := sThen (sIf (mOr (mNot (mTru (mArgs fIsi (mCons (mVar 0) (mCons (mC (.ty "str")) (mNil)))))) (mNot (mB (mChain (fLe) (fLe) (mC (.int 1)) (mArgs fLen (mCons (mVar 0) (mNil))) (mC (.int 8)))))) (sRet (mC (.bl false))) (sNx)) (sRet (mOp (fEqS false) (mLc false [1] (mUn fSrc (mVar 0)) (setN 1) (mB (mOp (fIn true) (mVar 1) (mC (.str "abcdefghijklmnopqrstuvwxyz")))) (mVar 1)) (mLst false (mNil))))
def F__law_is_name : Fun_ := runB 2 m__law_is_name
def m__law_error : MS := sThen (sSet 1 (mLst false (mCons (mArgs (fIsx suT stT) (mCons (mVar 0) (mCons (mC (.cls 4)) (mNil)))) (mCons (mArgs (fIsx suT stT) (mCons (mVar 0) (mCons (mC (.cls 5)) (mNil)))) (mCons (mArgs (fIsx suT stT) (mCons (mVar 0) (mCons (mC (.cls 6)) (mNil)))) (mNil)))))) (sThen (sSet 1 (mOp (fAdd false) (mVar 1) (mLst false (mCons (mArgs (fIsx suT stT) (mCons (mVar 0) (mCons (mC (.cls 7)) (mNil)))) (mCons (mArgs (fIsx suT stT) (mCons (mVar 0) (mCons (mC (.cls 8)) (mNil)))) (mCons (mArgs (fIsx suT stT) (mCons (mVar 0) (mCons (mC (.cls 9)) (mNil)))) (mNil))))))) (sThen (sSet 2 (mLst false (mCons (mArgs (fIsx suT stT) (mCons (mVar 0) (mCons (mC (.cls 1)) (mNil)))) (mCons (mArgs (fIsx suT stT) (mCons (mVar 0) (mCons (mC (.cls 2)) (mNil)))) (mCons (mArgs (fIsx suT stT) (mCons (mVar 0) (mCons (mC (.cls 3)) (mNil)))) (mNil)))))) (sThen (sSet 3 (mIf (mB (mOp (fEqS false) (mBM "list" (fCnt) (mVar 1) (mCons (mC (.bl true)) (mNil))) (mC (.int 1)))) (mBM "list" (fIdx) (mVar 1) (mCons (mC (.bl true)) (mNil))) (mC (.int 6)))) (sThen (sIf (mOr (mB (mOp (fEqS false) (mVar 3) (mC (.int 6)))) (mOr (mB (mOp (fEqS true) (mVar 2) (mLst false (mCons (mOp (fEqS false) (mVar 3) (mC (.int 0))) (mCons (mChain (fLt) (fLt) (mC (.int 0)) (mVar 3) (mC (.int 4))) (mCons (mOp (fGt) (mVar 3) (mC (.int 3))) (mNil))))))) (mNot (mTru (mArgs (fIsx suT stT) (mCons (mVar 0) (mCons (mC (.ty "ValueError")) (mNil)))))))) (sRet (mTup (mCons (mC (.str "no")) (mCons (mC (.str "other")) (mNil))))) (sNx)) (sThen (sIf (mOr (mB (mOp (fEqS false) (mVar 3) (mC (.int 0)))) (mB (mOp (fEqS false) (mVar 3) (mC (.int 2))))) (sRet (mIf (mB (mOp (fEqS false) (mVar 3) (mC (.int 0)))) (mTup (mCons (mC (.str "no")) (mCons (mC (.str "paper")) (mCons ((fun _ _ => .stuck)) (mCons ((fun _ _ => .stuck)) (mNil)))))) (mTup (mCons (mC (.str "no")) (mCons (mC (.str "step")) (mCons ((fun _ _ => .stuck)) (mCons ((fun _ _ => .stuck)) (mNil)))))))) (sNx)) (sThen (sIf (mOr (mB (mOp (fEqS false) (mVar 3) (mC (.int 1)))) (mB (mOp (fEqS false) (mVar 3) (mC (.int 3))))) (sRet (mIf (mB (mOp (fEqS false) (mVar 3) (mC (.int 1)))) (mTup (mCons (mC (.str "no")) (mCons (mC (.str "line")) (mCons ((fun _ _ => .stuck)) (mNil))))) (mTup (mCons (mC (.str "no")) (mCons (mC (.str "undo")) (mCons ((fun _ _ => .stuck)) (mNil))))))) (sNx)) (sRet (mIf (mB (mOp (fEqS false) (mVar 3) (mC (.int 4)))) (mTup (mCons (mC (.str "no")) (mCons (mC (.str "text")) (mCons (mUn (fFldX 8 "row") (mVar 0)) (mCons (mUn (fFldX 8 "field") (mVar 0)) (mNil)))))) (mTup (mCons (mC (.str "no")) (mCons (mC (.str "command")) (mCons ((fun _ _ => .stuck)) (mNil)))))))))))))
def F__law_error : Fun_ := runB 4 m__law_error
def m__law_pool : MS := sRet (mLst false (mCons (mC (.str "a")) (mCons (mC (.str "bo")) (mCons (mC (.str "fax")) (mCons (mC (.str "tel")) (mCons (mC (.str "total")) (mCons (mC (.str "zzzzzzzz")) (mNil))))))))
def F__law_pool : Fun_ := runB 0 m__law_pool
def m__law_frac_word : MS := sRet (mIf (mB (mOp (fEqS false) (mOp fIx (mVar 0) (mC (.int 1))) (mC (.int 1)))) (mArgs fStrI (mCons (mOp fIx (mVar 0) (mC (.int 0))) (mNil))) (mOp (fAdd false) (mOp (fAdd false) (mArgs fStrI (mCons (mOp fIx (mVar 0) (mC (.int 0))) (mNil))) (mC (.str "/"))) (mArgs fStrI (mCons (mOp fIx (mVar 0) (mC (.int 1))) (mNil)))))
def F__law_frac_word : Fun_ := runB 1 m__law_frac_word
def m__law_number_in : MS := sThen (sIf (mOr (mNot (mB (mChain (fLe) (fLe) (mC (.int 1)) (mArgs fLen (mCons (mVar 0) (mNil))) (mC (.int 60))))) (mB (mOp (fEqS true) (mLc false [1] (mUn fSrc (mVar 0)) (setN 1) (mB (mOp (fIn true) (mVar 1) (mC (.str "0123456789")))) (mVar 1)) (mLst false (mNil))))) (sRet (mC .non)) (sNx)) (sRet (mIf (mOr (mB (mOp (fEqS false) (mVar 0) (mC (.str "0")))) (mB (mOp (fEqS true) (mOp fIx (mVar 0) (mC (.int 0))) (mC (.str "0"))))) (mArgs fIntS (mCons (mVar 0) (mNil))) (mC .non)))
def F__law_number_in : Fun_ := runB 2 m__law_number_in
def m__law_by_hand : MS := sThen (sSet 0 (mLst true (mCons (mC (.str "")) (mCons (mC (.str " ")) (mCons (mC (.str "-")) (mCons (mC (.str "add")) (mCons (mC (.str "add -")) (mCons (mC (.str "add a bo")) (mCons (mC (.str "add A")) (mCons (mC (.str "add add")) (mCons (mC (.str "add abcdefghi")) (mCons (mC (.str "end total")) (mCons (mC (.str " end a")) (mNil)))))))))))))) (sThen (sSet 0 (mOp (fAdd true) (mVar 0) (mLst false (mCons (mC (.str "end a ")) (mCons (mC (.str "withdraw")) (mCons (mC (.str "withdraw -")) (mCons (mC (.str "withdraw ")) (mCons (mC (.str "sections -")) (mCons (mC (.str "sections")) (mCons (mC (.str "sections - a+bo")) (mNil))))))))))) (sThen (sExpr (mBM "list" (fAppend) (mVar 0) (mCons (mC (.str "sections a+bo -")) (mNil)))) (sThen (sSet 0 (mOp (fAdd true) (mVar 0) (mLst false (mCons (mC (.str "sections a")) (mCons (mC (.str "sections a+bo bo+a a+a")) (mCons (mC (.str "sections a++bo")) (mCons (mC (.str "sections a+")) (mCons (mC (.str "announce")) (mCons (mC (.str "announce -")) (mNil)))))))))) (sThen (sSet 0 (mOp (fAdd true) (mVar 0) (mLst false (mCons (mC (.str "announce - a:1")) (mCons (mC (.str "announce a:1 -")) (mCons (mC (.str "announce a:1/2 bo:0")) (mCons (mC (.str "announce bo:1 a:1")) (mCons (mC (.str "announce a:1 a:2")) (mNil))))))))) (sThen (sSet 0 (mOp (fAdd true) (mVar 0) (mLst false (mCons (mC (.str "announce a:-1")) (mCons (mC (.str "announce a:2/4")) (mCons (mC (.str "announce a:1/1")) (mCons (mC (.str "announce a:0/2")) (mCons (mC (.str "announce a:1/0")) (mNil))))))))) (sThen (sExpr (mBM "list" (fAppend) (mVar 0) (mCons (mC (.str "announce a:01")) (mNil)))) (sThen (sSet 0 (mOp (fAdd true) (mVar 0) (mLst false (mCons (mC (.str "announce a:")) (mCons (mC (.str "announce a")) (mCons (mC (.str "announce a:1:2")) (mCons (mC (.str "announce a:1/2/3")) (mCons (mC (.str "announce a: 1")) (mCons (mC (.str "announce a:+1")) (mNil)))))))))) (sThen (sSet 0 (mOp (fAdd true) (mVar 0) (mLst false (mCons (mC (.str "send")) (mCons (mC (.str "send -")) (mCons (mC (.str "send - 1")) (mCons (mC (.str "send 0,1")) (mCons (mC (.str "send 0,")) (mCons (mC (.str "send 01")) (mCons (mC (.str "send -1")) (mCons (mC (.str "send 0, 1")) (mCons (mC (.str "send 1_0")) (mNil))))))))))))) (sThen (sSet 0 (mOp (fAdd true) (mVar 0) (mLst false (mCons (mC (.str "correct")) (mCons (mC (.str "correct -")) (mCons (mC (.str "correct a:0")) (mCons (mC (.str "correct a:-0")) (mCons (mC (.str "correct a:-2 bo:3")) (mCons (mC (.str "correct bo:1 a:1")) (mNil)))))))))) (sThen (sSet 0 (mOp (fAdd true) (mVar 0) (mLst false (mCons (mC (.str "correct a:1/2")) (mCons (mC (.str "correct a:-01")) (mCons (mC (.str "undo")) (mCons (mC (.str "Add a")) (mCons (mC (.str "add a\n")) (mCons (mC (.str "add\na")) (mCons (mC (.str "withdraw\n")) (mCons (mC (.str "send 1\n")) (mNil)))))))))))) (sThen (sExpr (mBM "list" (fAppend) (mVar 0) (mCons (mC (.str "sections a\n")) (mNil)))) (sThen (sFor (mUn fSrc (mTup (mCons (mC (.int 60)) (mCons (mC (.int 61)) (mNil))))) (setN 1) (sThen (sSet 0 (mOp (fAdd true) (mVar 0) (mLst false (mCons (mOp (fAdd false) (mC (.str "send ")) (mOp (fMulS) (mC (.str "9")) (mVar 1))) (mCons (mOp (fAdd false) (mC (.str "announce a:")) (mOp (fMulS) (mC (.str "9")) (mVar 1))) (mCons (mOp (fAdd false) (mC (.str "announce a:1/")) (mOp (fMulS) (mC (.str "9")) (mVar 1))) (mNil))))))) (sSet 0 (mOp (fAdd true) (mVar 0) (mLst false (mCons (mOp (fAdd false) (mC (.str "correct a:-")) (mOp (fMulS) (mC (.str "9")) (mVar 1))) (mCons (mOp (fAdd false) (mC (.str "correct a:")) (mOp (fMulS) (mC (.str "9")) (mVar 1))) (mNil)))))))) (sRet (mVar 0))))))))))))))
def F__law_by_hand : Fun_ := runB 2 m__law_by_hand
def tF_is_row_check : Nat → Option Fun_
  | 0 => some F_is_integer
  | _ => none
def tL_is_row_check : Nat → Option Fun_
  | _ => none
def m_is_row : MS := sThen (sIf (mOr (mNot (mTru (mArgs fIsi (mCons (mVar 0) (mCons (mC (.ty "tuple")) (mNil)))))) (mB (mOp (fEqS true) (mArgs fLen (mCons (mVar 0) (mNil))) (mArgs fLen (mCons (mVar 1) (mNil)))))) (sRet (mC (.bl false))) (sNx)) (sRet (mArgs fAll (mCons (mLc false [2, 3] (mSrcA fZip (mCons (mVar 1) (mCons (mVar 0) (mNil)))) (setT [2, 3]) (mYes) (mCallW tF_is_row_check tL_is_row_check 1 (mVar 2) (mCons (mVar 3) (mNil)))) (mNil))))
def F_is_row : Fun_ := runB 4 m_is_row
def m_integer_or_none : MS := sThen (sIf (mB (mOp (fEqS true) (mSl false (mVar 0) (mNoPart) (mPart (mC (.int 1)))) (mC (.str "-")))) (sRet (mArgs (fCall 1 [] F_number_or_none) (mCons (mVar 0) (mNil)))) (sNx)) (sThen (sSet 1 (mArgs (fCall 1 [] F_number_or_none) (mCons (mSl false (mVar 0) (mPart (mC (.int 1))) (mNoPart)) (mNil)))) (sRet (mIf (mOr (mB (mOp (fIsN false) (mVar 1) (mC .non))) (mB (mOp (fEqS false) (mVar 1) (mC (.int 0))))) (mC .non) (mUn fNeg (mVar 1)))))
def F_integer_or_none : Fun_ := runB 2 m_integer_or_none
def m_group_or_none : MS := sThen (sSet 1 (mArgs fTup (mCons (mBM "str" (fSplit false) (mVar 0) (mCons (mC (.str "+")) (mNil))) (mNil)))) (sRet (mIf (mTru (mArgs fAll (mCons (mLc false [2] (mUn fSrc (mVar 1)) (setN 2) (mYes) (mArgs (fCall 1 [] F_is_name) (mCons (mVar 2) (mNil)))) (mNil)))) (mVar 1) (mC .non)))
def F_group_or_none : Fun_ := runB 3 m_group_or_none
def m_cents_or_none : MS := sThen (sSet 1 (mIf (mB (mOp (fEqS true) (mVar 0) (mC (.str "-")))) (mArgs fTup (mCons (mLc false [2] (mUn fSrc (mBM "str" (fSplit false) (mVar 0) (mCons (mC (.str ",")) (mNil)))) (setN 2) (mYes) (mArgs (fCall 1 [] F_number_or_none) (mCons (mVar 2) (mNil)))) (mNil))) (mTup (mNil)))) (sRet (mIf (mB (mOp (fIn false) (mC .non) (mVar 1))) (mC .non) (mVar 1)))
def F_cents_or_none : Fun_ := runB 3 m_cents_or_none
def m__law_charge : MS := sThen (sSet 1 (mLst false (mCons (mTup (mCons (mC (.int 0)) (mCons (mC (.int 1)) (mNil)))) (mCons (mTup (mCons (mC (.int 1)) (mCons (mC (.int 2)) (mNil)))) (mCons (mTup (mCons (mC (.int 1)) (mCons (mC (.int 3)) (mNil)))) (mCons (mTup (mCons (mC (.int 2)) (mCons (mC (.int 3)) (mNil)))) (mCons (mTup (mCons (mC (.int 1)) (mCons (mC (.int 4)) (mNil)))) (mCons (mTup (mCons (mC (.int 3)) (mCons (mC (.int 4)) (mNil)))) (mCons (mTup (mCons (mC (.int 5)) (mCons (mC (.int 2)) (mNil)))) (mCons (mTup (mCons (mC (.int 7)) (mCons (mC (.int 3)) (mNil)))) (mCons (mTup (mCons (mC (.int 1)) (mCons (mC (.int 1)) (mNil)))) (mCons (mTup (mCons (mC (.int 4)) (mCons (mC (.int 1)) (mNil)))) (mCons (mTup (mCons (mC (.int 1)) (mCons (mC (.int 6)) (mNil)))) (mCons (mTup (mCons (mC (.int 11)) (mCons (mC (.int 12)) (mNil)))) (mNil))))))))))))))) (sRet (mOp fIx (mVar 1) (mArgs (fCall 2 [] F__law_draw) (mCons (mVar 0) (mCons (mC (.int 12)) (mNil))))))
def F__law_charge : Fun_ := runB 2 m__law_charge
def m__law_row : MS := sThen (sPar 1 2 (mCons (mOp fIx (mVar 0) (mC (.int 0))) (mCons (mOp fIx (mVar 0) (mUn fNeg (mC (.int 1)))) (mNil)))) (sThen (sIf (mB (mOp (fIn false) (mVar 1) (mTup (mCons (mC (.str "add")) (mCons (mC (.str "end")) (mCons (mC (.str "withdraw")) (mNil))))))) (sRet (mBM "str" (fJoin) (mC (.str " ")) (mCons (mVar 0) (mNil)))) (sNx)) (sThen (sIf (mB (mOp (fEqS false) (mVar 1) (mC (.str "send")))) (sRet (mOp (fAdd false) (mC (.str "send ")) (mIf (mB (mOp (fEqS true) (mVar 2) (mTup (mNil)))) (mBM "str" (fJoin) (mC (.str ",")) (mCons (mLc false [4] (mUn fSrc (mVar 2)) (setN 4) (mYes) (mArgs fStrI (mCons (mVar 4) (mNil)))) (mNil))) (mC (.str "-"))))) (sNx)) (sThen (sIf (mB (mOp (fEqS false) (mVar 1) (mC (.str "sections")))) (sSet 3 (mLc false [5] (mUn fSrc (mVar 2)) (setN 5) (mYes) (mBM "str" (fJoin) (mC (.str "+")) (mCons (mVar 5) (mNil))))) (sIf (mB (mOp (fEqS false) (mVar 1) (mC (.str "announce")))) (sSet 3 (mLc false [6] (mUn fSrc (mVar 2)) (setN 6) (mYes) (mOp (fAdd false) (mOp (fAdd false) (mOp fIx (mVar 6) (mC (.int 0))) (mC (.str ":"))) (mArgs (fCall 1 [] F__law_frac_word) (mCons (mOp fIx (mVar 6) (mC (.int 1))) (mNil)))))) (sSet 3 (mLc false [6] (mUn fSrc (mVar 2)) (setN 6) (mYes) (mOp (fAdd false) (mOp (fAdd false) (mOp fIx (mVar 6) (mC (.int 0))) (mC (.str ":"))) (mArgs fStrI (mCons (mOp fIx (mVar 6) (mC (.int 1))) (mNil)))))))) (sRet (mBM "str" (fJoin) (mC (.str " ")) (mCons (mOp (fAdd false) (mLst false (mCons (mVar 1) (mNil))) (mIf (mB (mOp (fEqS true) (mVar 3) (mLst false (mNil)))) (mVar 3) (mLst false (mCons (mC (.str "-")) (mNil))))) (mNil)))))))
def F__law_row : Fun_ := runB 7 m__law_row
def m__law_whole_in : MS := sThen (sIf (mB (mOp (fEqS true) (mSl false (mVar 0) (mNoPart) (mPart (mC (.int 1)))) (mC (.str "-")))) (sRet (mArgs (fCall 1 [] F__law_number_in) (mCons (mVar 0) (mNil)))) (sNx)) (sThen (sSet 1 (mArgs (fCall 1 [] F__law_number_in) (mCons (mSl false (mVar 0) (mPart (mC (.int 1))) (mNoPart)) (mNil)))) (sRet (mIf (mOr (mB (mOp (fIsN false) (mVar 1) (mC .non))) (mB (mOp (fEqS false) (mVar 1) (mC (.int 0))))) (mC .non) (mOp (fSub) (mC (.int 0)) (mVar 1)))))
def F__law_whole_in : Fun_ := runB 2 m__law_whole_in
def m__law_frac_in : MS := sThen (sSet 1 (mBM "str" (fSplit false) (mVar 0) (mCons (mC (.str "/")) (mNil)))) (sThen (sSet 2 (mLc false [3] (mUn fSrc (mVar 1)) (setN 3) (mYes) (mArgs (fCall 1 [] F__law_number_in) (mCons (mVar 3) (mNil))))) (sThen (sIf (mOr (mB (mOp (fGt) (mArgs fLen (mCons (mVar 2) (mNil))) (mC (.int 2)))) (mB (mOp (fIn false) (mC .non) (mVar 2)))) (sRet (mC .non)) (sNx)) (sThen (sIf (mB (mOp (fEqS false) (mArgs fLen (mCons (mVar 2) (mNil))) (mC (.int 1)))) (sRet (mTup (mCons (mOp fIx (mVar 2) (mC (.int 0))) (mCons (mC (.int 1)) (mNil))))) (sNx)) (sRet (mIf (mAnd (mB (mOp (fGt) (mOp fIx (mVar 2) (mC (.int 1))) (mC (.int 1)))) (mB (mOp (fEqS false) (mArgs (fCall 2 [] F__law_frac) (mCons (mOp fIx (mVar 2) (mC (.int 0))) (mCons (mOp fIx (mVar 2) (mC (.int 1))) (mNil)))) (mTup (mCons (mOp fIx (mVar 2) (mC (.int 0))) (mCons (mOp fIx (mVar 2) (mC (.int 1))) (mNil))))))) (mTup (mCons (mOp fIx (mVar 2) (mC (.int 0))) (mCons (mOp fIx (mVar 2) (mC (.int 1))) (mNil)))) (mC .non))))))
def F__law_frac_in : Fun_ := runB 4 m__law_frac_in
def m__law_one_in : MS := sThen (sIf (mB (mOp (fEqS false) (mVar 0) (mC (.str "withdraw")))) (sRet (mIf (mB (mOp (fEqS false) (mVar 1) (mLst false (mNil)))) (mTup (mCons (mC (.str "right")) (mCons (mC .non) (mNil)))) (mTup (mCons (mC (.str "wrong")) (mCons (mC (.int 1)) (mNil)))))) (sNx)) (sThen (sIf (mB (mOp (fEqS false) (mVar 1) (mLst false (mNil)))) (sRet (mTup (mCons (mC (.str "wrong")) (mCons (mC (.int 1)) (mNil))))) (sNx)) (sThen (sSet 2 (mIf (mTru (mArgs (fCall 1 [] F__law_is_name) (mCons (mOp fIx (mVar 1) (mC (.int 0))) (mNil)))) (mOp fIx (mVar 1) (mC (.int 0))) (mC .non))) (sThen (sIf (mB (mOp (fEqS false) (mVar 0) (mC (.str "send")))) (sThen (sSet 3 (mIf (mB (mOp (fEqS true) (mOp fIx (mVar 1) (mC (.int 0))) (mC (.str "-")))) (mLc false [4] (mUn fSrc (mBM "str" (fSplit false) (mOp fIx (mVar 1) (mC (.int 0))) (mCons (mC (.str ",")) (mNil)))) (setN 4) (mYes) (mArgs (fCall 1 [] F__law_number_in) (mCons (mVar 4) (mNil)))) (mLst false (mNil)))) (sSet 2 (mIf (mB (mOp (fIn false) (mC .non) (mVar 3))) (mC .non) (mArgs fTup (mCons (mVar 3) (mNil)))))) (sNx)) (sThen (sIf (mB (mOp (fIsN false) (mVar 2) (mC .non))) (sRet (mTup (mCons (mC (.str "wrong")) (mCons (mC (.int 1)) (mNil))))) (sNx)) (sRet (mIf (mB (mOp (fEqS false) (mArgs fLen (mCons (mVar 1) (mNil))) (mC (.int 1)))) (mTup (mCons (mC (.str "right")) (mCons (mVar 2) (mNil)))) (mTup (mCons (mC (.str "wrong")) (mCons (mC (.int 2)) (mNil))))))))))
def F__law_one_in : Fun_ := runB 5 m__law_one_in
def m__law_bent_row : MS := sThen (sPar 2 3 (mCons (mBM "str" (fSplit false) (mVar 1) (mCons (mC (.str " ")) (mNil))) (mCons (mC (.str "a1,:+-/ 0\nzA")) (mNil)))) (sThen (sPar 4 5 (mCons (mArgs (fCall 2 [] F__law_draw) (mCons (mVar 0) (mCons (mArgs fLen (mCons (mVar 2) (mNil))) (mNil)))) (mCons (mArgs (fCall 2 [] F__law_draw) (mCons (mVar 0) (mCons (mOp (fAdd false) (mArgs fLen (mCons (mVar 1) (mNil))) (mC (.int 1))) (mNil)))) (mNil)))) (sThen (sSet 6 (mLst false (mCons (mC (.str "add")) (mCons (mC (.str "announce")) (mCons (mC (.str "send")) (mCons (mC (.str "-")) (mCons (mC (.str "a")) (mCons (mC (.str "a:1")) (mCons (mC (.str "a+bo")) (mCons (mC (.str "0")) (mCons (mC (.str "01")) (mCons (mC (.str "")) (mCons (mC (.str "bo:-1")) (mCons (mC (.str "a:1/2")) (mCons (mC (.str "1,2")) (mCons (mC (.str "withdraw")) (mNil))))))))))))))))) (sThen (sPar 7 8 (mCons (mOp fIx (mVar 6) (mArgs (fCall 2 [] F__law_draw) (mCons (mVar 0) (mCons (mC (.int 14)) (mNil))))) (mCons (mOp fIx (mVar 3) (mArgs (fCall 2 [] F__law_draw) (mCons (mVar 0) (mCons (mC (.int 12)) (mNil))))) (mNil)))) (sThen (sSet 9 (mLst false (mCons (mBM "str" (fJoin) (mC (.str " ")) (mCons (mOp (fAdd false) (mSl false (mVar 2) (mNoPart) (mPart (mVar 4))) (mSl false (mVar 2) (mPart (mOp (fAdd false) (mVar 4) (mC (.int 1)))) (mNoPart))) (mNil))) (mCons (mBM "str" (fJoin) (mC (.str " ")) (mCons (mOp (fAdd false) (mSl false (mVar 2) (mNoPart) (mPart (mOp (fAdd false) (mVar 4) (mC (.int 1))))) (mSl false (mVar 2) (mPart (mVar 4)) (mNoPart))) (mNil))) (mNil))))) (sThen (sSet 9 (mOp (fAdd false) (mVar 9) (mLst false (mCons (mBM "str" (fJoin) (mC (.str " ")) (mCons (mOp (fAdd false) (mOp (fAdd false) (mSl false (mVar 2) (mNoPart) (mPart (mVar 4))) (mLst false (mCons (mVar 7) (mNil)))) (mSl false (mVar 2) (mPart (mOp (fAdd false) (mVar 4) (mC (.int 1)))) (mNoPart))) (mNil))) (mCons (mBM "str" (fJoin) (mC (.str " ")) (mCons (mOp (fAdd false) (mOp (fAdd false) (mSl false (mVar 2) (mNoPart) (mPart (mVar 4))) (mLst false (mCons (mVar 7) (mNil)))) (mSl false (mVar 2) (mPart (mVar 4)) (mNoPart))) (mNil))) (mNil)))))) (sThen (sSet 9 (mOp (fAdd false) (mVar 9) (mLst false (mCons (mOp (fAdd false) (mOp (fAdd false) (mSl false (mVar 1) (mNoPart) (mPart (mVar 5))) (mVar 8)) (mSl false (mVar 1) (mPart (mVar 5)) (mNoPart))) (mCons (mOp (fAdd false) (mSl false (mVar 1) (mNoPart) (mPart (mVar 5))) (mSl false (mVar 1) (mPart (mOp (fAdd false) (mVar 5) (mC (.int 1)))) (mNoPart))) (mNil)))))) (sRet (mOp fIx (mOp (fAdd false) (mVar 9) (mLst false (mCons (mOp (fAdd false) (mOp (fAdd false) (mSl false (mVar 1) (mNoPart) (mPart (mVar 5))) (mVar 8)) (mSl false (mVar 1) (mPart (mOp (fAdd false) (mVar 5) (mC (.int 1)))) (mNoPart))) (mNil)))) (mArgs (fCall 2 [] F__law_draw) (mCons (mVar 0) (mCons (mC (.int 7)) (mNil))))))))))))
def F__law_bent_row : Fun_ := runB 10 m__law_bent_row
noncomputable def m__law_said (q : Str) (f c : Addr) (ds : List D) (vs : List L2.V) (ask : PH → Res D) : MS := sThen (sSet 1 (mC .non)) (sThen (sTry cau_CentError 2 1 (sRet (mTup (mCons (mC (.str "told")) (mCons (mAsk 0 f c q ds vs ask) (mNil)))))) (sRet (mArgs (fCall 1 [] F__law_error) (mCons (mVar 1) (mNil)))))
noncomputable def R__law_said (ask : PH → Res D) (π : PH) : Res D := runB 3 (m__law_said "" 0 0 [] [] ask) [.clo 0 0 "" [] []] π
def m_lam0 : M D := mIf (mTru (mArgs (fCall 1 [] F_is_name) (mCons (mVar 0) (mNil)))) (mVar 0) (mC .non)
def F_lam0 : Fun_ := runE 1 m_lam0
def m_is_fraction : MS := sThen (sIf (mNot (mTru (mArgs (fCall 2 [] F_is_row) (mCons (mVar 0) (mCons (mTup (mCons (mC (.fn 0)) (mCons (mC (.fn 0)) (mNil)))) (mNil)))))) (sRet (mC (.bl false))) (sNx)) (sThen (sUnp [1, 2] (mVar 0)) (sRet (mAndV (mOp (fGt) (mVar 2) (mC (.int 0))) (mOp (fEqS false) (mArgs (fCall 2 [] F_common_divisor) (mCons (mVar 1) (mCons (mVar 2) (mNil)))) (mC (.int 1))))))
def F_is_fraction : Fun_ := runB 3 m_is_fraction
def m_change_or_none : MS := sThen (sSet 1 (mArgs (fCall 1 [] F_integer_or_none) (mCons (mVar 0) (mNil)))) (sRet (mIf (mB (mOp (fEqS false) (mVar 1) (mC (.int 0)))) (mC .non) (mVar 1)))
def F_change_or_none : Fun_ := runB 2 m_change_or_none
def tF_StepReader_only_value_of : Nat → Option Fun_
  | 17 => some F_cents_or_none
  | _ => none
def tL_StepReader_only_value_of : Nat → Option Fun_
  | 0 => some F_lam0
  | _ => none
def m_StepReader_only : MS := sThen (sSet 2 (mIf (mB (mOp (fGt) (mArgs fLen (mCons (mUn (fFld 10 "words") (mVar 0)) (mNil))) (mC (.int 1)))) (mCallW tF_StepReader_only_value_of tL_StepReader_only_value_of 1 (mVar 1) (mCons (mOp fIx (mUn (fFld 10 "words") (mVar 0)) (mC (.int 1))) (mNil))) (mC .non))) (sThen (sExpr (mMeth 10 "require" 3 [] F_StepReader_require (mVar 0) (mCons (mOp (fIsN true) (mVar 2) (mC .non)) (mCons (mC (.int 1)) (mNil))))) (sThen (sExpr (mMeth 10 "require" 3 [] F_StepReader_require (mVar 0) (mCons (mOp (fEqS false) (mArgs fLen (mCons (mUn (fFld 10 "words") (mVar 0)) (mNil))) (mC (.int 2))) (mCons (mC (.int 2)) (mNil))))) (sRet (mVar 2))))
def F_StepReader_only : Fun_ := runB 3 m_StepReader_only
def m__law_pair_in : MS := sThen (sSet 2 (mBM "str" (fSplit false) (mVar 0) (mCons (mC (.str ":")) (mNil)))) (sThen (sIf (mOr (mB (mOp (fEqS true) (mArgs fLen (mCons (mVar 2) (mNil))) (mC (.int 2)))) (mNot (mTru (mArgs (fCall 1 [] F__law_is_name) (mCons (mOp fIx (mVar 2) (mC (.int 0))) (mNil)))))) (sRet (mC .non)) (sNx)) (sThen (sSet 3 (mIf (mB (mOp (fEqS false) (mVar 1) (mC (.str "announce")))) (mArgs (fCall 1 [] F__law_frac_in) (mCons (mOp fIx (mVar 2) (mC (.int 1))) (mNil))) (mArgs (fCall 1 [] F__law_whole_in) (mCons (mOp fIx (mVar 2) (mC (.int 1))) (mNil))))) (sRet (mIf (mOr (mB (mOp (fIsN false) (mVar 3) (mC .non))) (mB (mOp (fEqS false) (mVar 3) (mC (.int 0))))) (mC .non) (mTup (mCons (mOp fIx (mVar 2) (mC (.int 0))) (mCons (mVar 3) (mNil))))))))
def F__law_pair_in : Fun_ := runB 4 m__law_pair_in
def m__law_steps : MS := sThen (sPar 1 2 (mCons (mLst true (mNil)) (mCons ((fun _ π => F__law_pool [] π)) (mNil)))) (sThen (sFor (mSrcA fRng1 (mCons (mC (.int 3)) (mNil))) (setN 3) (sThen (sSet 4 (mArgs (fSortT false) (mCons (mSl false (mOp (fAdd false) (mVar 2) (mVar 2)) (mPart (mVar 3)) (mPart (mOp (fAdd false) (mOp (fAdd false) (mVar 3) (mC (.int 1))) (mArgs (fCall 2 [] F__law_draw) (mCons (mVar 0) (mCons (mC (.int 3)) (mNil))))))) (mNil)))) (sThen (sSet 1 (mOp (fAdd true) (mVar 1) (mLst false (mCons (mTup (mCons (mC (.str "add")) (mCons (mOp fIx (mVar 2) (mArgs (fCall 2 [] F__law_draw) (mCons (mVar 0) (mCons (mC (.int 6)) (mNil))))) (mNil)))) (mCons (mTup (mCons (mC (.str "end")) (mCons (mOp fIx (mVar 2) (mArgs (fCall 2 [] F__law_draw) (mCons (mVar 0) (mCons (mC (.int 6)) (mNil))))) (mNil)))) (mCons (mTup (mCons (mC (.str "withdraw")) (mNil))) (mNil))))))) (sThen (sExpr (mBM "list" (fAppend) (mVar 1) (mCons (mTup (mCons (mC (.str "announce")) (mCons (mArgs fTup (mCons (mLc false [5] (mUn fSrc (mVar 4)) (setN 5) (mYes) (mTup (mCons (mVar 5) (mCons (mArgs (fCall 1 [] F__law_charge) (mCons (mVar 0) (mNil))) (mNil))))) (mNil))) (mNil)))) (mNil)))) (sThen (sExpr (mBM "list" (fAppend) (mVar 1) (mCons (mTup (mCons (mC (.str "correct")) (mCons (mArgs fTup (mCons (mLc false [5] (mUn fSrc (mVar 4)) (setN 5) (mYes) (mTup (mCons (mVar 5) (mCons (mOp fIx (mLst false (mCons (mC (.int 1)) (mCons (mUn fNeg (mC (.int 1))) (mCons (mC (.int 12)) (mCons (mUn fNeg (mOp (fPow) (mC (.int 10)) (mC (.int 20)))) (mNil)))))) (mArgs (fCall 2 [] F__law_draw) (mCons (mVar 0) (mCons (mC (.int 4)) (mNil))))) (mNil))))) (mNil))) (mNil)))) (mNil)))) (sThen (sExpr (mBM "list" (fAppend) (mVar 1) (mCons (mTup (mCons (mC (.str "send")) (mCons (mArgs fTup (mCons (mLc false [5] (mUn fSrc (mVar 4)) (setN 5) (mYes) (mArgs (fCall 2 [] F__law_draw) (mCons (mVar 0) (mCons (mC (.int 1200)) (mNil))))) (mNil))) (mNil)))) (mNil)))) (sExpr (mBM "list" (fAppend) (mVar 1) (mCons (mTup (mCons (mC (.str "sections")) (mCons (mTup (mCons (mArgs fTup (mCons (mVar 4) (mNil))) (mCons (mTup (mCons (mC (.str "bo")) (mCons (mC (.str "a")) (mNil)))) (mNil)))) (mNil)))) (mNil)))))))))) (sRet (mOp (fAdd false) (mVar 1) (mLst false (mCons (mTup (mCons (mC (.str "sections")) (mCons (mTup (mNil)) (mNil)))) (mCons (mTup (mCons (mC (.str "announce")) (mCons (mTup (mNil)) (mNil)))) (mCons (mTup (mCons (mC (.str "send")) (mCons (mTup (mNil)) (mNil)))) (mCons (mTup (mCons (mC (.str "announce")) (mCons (mTup (mCons (mTup (mCons (mC (.str "a")) (mCons (mTup (mCons (mOp (fAdd false) (mOp (fPow) (mC (.int 10)) (mC (.int 59))) (mC (.int 1))) (mCons (mOp (fPow) (mC (.int 10)) (mC (.int 59))) (mNil)))) (mNil)))) (mNil))) (mNil)))) (mNil)))))))))
def F__law_steps : Fun_ := runB 6 m__law_steps
def m_fraction_or_none : MS := sThen (sUnp [1, 2, 3] (mBM "str" (fPartition) (mVar 0) (mCons (mC (.str "/")) (mNil)))) (sThen (sPar 4 5 (mCons (mArgs (fCall 1 [] F_integer_or_none) (mCons (mVar 1) (mNil))) (mCons (mIf (mB (mOp (fEqS true) (mVar 2) (mC (.str "")))) (mArgs (fCall 1 [] F_number_or_none) (mCons (mVar 3) (mNil))) (mC (.int 1))) (mNil)))) (sThen (sIf (mOr (mB (mOp (fIsN false) (mVar 4) (mC .non))) (mOr (mB (mOp (fIsN false) (mVar 5) (mC .non))) (mAnd (mB (mOp (fEqS true) (mVar 2) (mC (.str "")))) (mB (mOp (fEqS false) (mVar 5) (mC (.int 1))))))) (sRet (mC .non)) (sNx)) (sThen (sSet 6 (mTup (mCons (mVar 4) (mCons (mVar 5) (mNil))))) (sRet (mIf (mTru (mArgs (fCall 1 [] F_is_fraction) (mCons (mVar 6) (mNil)))) (mVar 6) (mC .non))))))
def F_fraction_or_none : Fun_ := runB 7 m_fraction_or_none
def m_fraction_text : MS := sThen (sUnp [1, 2] (mVar 0)) (sRet (mIf (mB (mOp (fEqS false) (mVar 2) (mC (.int 1)))) (mArgs (fCall 1 [] (F_integer_text 2)) (mCons (mVar 1) (mNil))) (mJs [mUn fFmt (mArgs (fCall 1 [] (F_integer_text 2)) (mCons (mVar 1) (mNil))), mC (.str "/"), mUn fFmt (mArgs (fCall 1 [] (F_integer_text 2)) (mCons (mVar 2) (mNil)))] Str.empty)))
def F_fraction_text : Fun_ := runB 3 m_fraction_text
def m__law_list_in : MS := sThen (sSet 2 (mLst true (mNil))) (sThen (sIf (mOr (mB (mOp (fEqS false) (mVar 1) (mLst false (mNil)))) (mAnd (mB (mOp (fEqS false) (mOp fIx (mVar 1) (mC (.int 0))) (mC (.str "-")))) (mB (mOp (fEqS true) (mVar 0) (mC (.str "correct")))))) (sRet (mIf (mB (mOp (fEqS false) (mVar 1) (mLst false (mNil)))) (mTup (mCons (mC (.str "wrong")) (mCons (mC (.int 1)) (mNil)))) (mIf (mB (mOp (fGt) (mArgs fLen (mCons (mVar 1) (mNil))) (mC (.int 1)))) (mTup (mCons (mC (.str "wrong")) (mCons (mC (.int 2)) (mNil)))) (mTup (mCons (mC (.str "right")) (mCons (mTup (mNil)) (mNil))))))) (sNx)) (sThen (sFor (mSrcA fRng1 (mCons (mArgs fLen (mCons (mVar 1) (mNil))) (mNil))) (setN 3) (sThen (sIf (mB (mOp (fEqS false) (mVar 0) (mC (.str "sections")))) (sThen (sSet 4 (mArgs fTup (mCons (mBM "str" (fSplit false) (mOp fIx (mVar 1) (mVar 3)) (mCons (mC (.str "+")) (mNil))) (mNil)))) (sSet 4 (mIf (mB (mOp (fEqS true) (mLc false [5] (mUn fSrc (mVar 4)) (setN 5) (mNot (mTru (mArgs (fCall 1 [] F__law_is_name) (mCons (mVar 5) (mNil))))) (mVar 5)) (mLst false (mNil)))) (mC .non) (mVar 4)))) (sThen (sSet 4 (mArgs (fCall 2 [] F__law_pair_in) (mCons (mOp fIx (mVar 1) (mVar 3)) (mCons (mVar 0) (mNil))))) (sIf (mAnd (mB (mOp (fIsN true) (mVar 4) (mC .non))) (mAnd (mB (mOp (fEqS true) (mVar 2) (mLst false (mNil)))) (mB (mOp (fLe) (mOp fIx (mVar 4) (mC (.int 0))) (mOp fIx (mOp fIx (mVar 2) (mUn fNeg (mC (.int 1)))) (mC (.int 0))))))) (sSet 4 (mC .non)) (sNx)))) (sThen (sIf (mB (mOp (fIsN false) (mVar 4) (mC .non))) (sRet (mTup (mCons (mC (.str "wrong")) (mCons (mOp (fAdd false) (mVar 3) (mC (.int 1))) (mNil))))) (sNx)) (sExpr (mBM "list" (fAppend) (mVar 2) (mCons (mVar 4) (mNil))))))) (sRet (mTup (mCons (mC (.str "right")) (mCons (mArgs fTup (mCons (mVar 2) (mNil))) (mNil)))))))
def F__law_list_in : Fun_ := runB 6 m__law_list_in
def m_charge_or_none : MS := sThen (sSet 1 (mArgs (fCall 1 [] F_fraction_or_none) (mCons (mVar 0) (mNil)))) (sRet (mIf (mOr (mB (mOp (fIsN false) (mVar 1) (mC .non))) (mB (mOp (fLt) (mOp fIx (mVar 1) (mC (.int 0))) (mC (.int 0))))) (mC .non) (mVar 1)))
def F_charge_or_none : Fun_ := runB 2 m_charge_or_none
def m_words_of_step : MS := sMatch (mOp fIx (mVar 0) (mC (.int 0))) [(some ["withdraw"], sRet (mLst false (mNil))), (some ["add", "end"], sRet (mLst false (mCons (mOp fIx (mVar 0) (mC (.int 1))) (mNil)))), (some ["sections"], sRet (mOrV (mLc false [1] (mUn fSrc (mOp fIx (mVar 0) (mC (.int 1)))) (setN 1) (mYes) (mBM "str" (fJoin) (mC (.str "+")) (mCons (mVar 1) (mNil)))) (mLst false (mCons (mC (.str "-")) (mNil))))), (some ["announce"], sRet (mOrV (mLc false [2, 3] (mUn fSrc (mOp fIx (mVar 0) (mC (.int 1)))) (setT [2, 3]) (mYes) (mJs [mUn fFmt (mVar 2), mC (.str ":"), mUn fFmt (mArgs (fCall 1 [] F_fraction_text) (mCons (mVar 3) (mNil)))] Str.empty)) (mLst false (mCons (mC (.str "-")) (mNil))))), (some ["send"], sRet (mLst false (mCons (mOrV (mBM "str" (fJoin) (mC (.str ",")) (mCons (mLc false [4] (mUn fSrc (mOp fIx (mVar 0) (mC (.int 1)))) (setN 4) (mYes) (mArgs (fCall 1 [] (F_integer_text 2)) (mCons (mVar 4) (mNil)))) (mNil))) (mC (.str "-"))) (mNil)))), (none, sRet (mLc false [2, 5] (mUn fSrc (mOp fIx (mVar 0) (mC (.int 1)))) (setT [2, 5]) (mYes) (mJs [mUn fFmt (mVar 2), mC (.str ":"), mUn fFmt (mArgs (fCall 1 [] (F_integer_text 2)) (mCons (mVar 5) (mNil)))] Str.empty)))]
def F_words_of_step : Fun_ := runB 6 m_words_of_step
def m__law_row_due : MS := sThen (sPar 2 3 (mCons (mOp fIx (mBM "str" (fSplit false) (mVar 0) (mCons (mC (.str " ")) (mNil))) (mC (.int 0))) (mCons (mSl false (mBM "str" (fSplit false) (mVar 0) (mCons (mC (.str " ")) (mNil))) (mPart (mC (.int 1))) (mNoPart)) (mNil)))) (sThen (sIf (mB (mOp (fIn false) (mVar 2) (mTup (mCons (mC (.str "sections")) (mCons (mC (.str "announce")) (mCons (mC (.str "correct")) (mNil))))))) (sSet 4 (mArgs (fCall 2 [] F__law_list_in) (mCons (mVar 2) (mCons (mVar 3) (mNil))))) (sIf (mB (mOp (fIn false) (mVar 2) (mTup (mCons (mC (.str "add")) (mCons (mC (.str "end")) (mCons (mC (.str "withdraw")) (mCons (mC (.str "send")) (mNil)))))))) (sSet 4 (mArgs (fCall 2 [] F__law_one_in) (mCons (mVar 2) (mCons (mVar 3) (mNil))))) (sSet 4 (mTup (mCons (mC (.str "wrong")) (mCons (mC (.int 0)) (mNil))))))) (sThen (sIf (mB (mOp (fEqS false) (mOp fIx (mVar 4) (mC (.int 0))) (mC (.str "wrong")))) (sRet (mTup (mCons (mC (.str "no")) (mCons (mC (.str "text")) (mCons (mVar 1) (mCons (mOp fIx (mVar 4) (mC (.int 1))) (mNil))))))) (sNx)) (sRet (mTup (mCons (mC (.str "told")) (mCons (mIf (mB (mOp (fEqS false) (mVar 2) (mC (.str "withdraw")))) (mTup (mCons (mVar 2) (mNil))) (mTup (mCons (mVar 2) (mCons (mOp fIx (mVar 4) (mC (.int 1))) (mNil))))) (mNil)))))))
def F__law_row_due : Fun_ := runB 5 m__law_row_due
def m_step_row : MS := sRet (mBM "str" (fJoin) (mC (.str " ")) (mCons (mLst false (mCons (mOp fIx (mVar 0) (mC (.int 0))) (mStar (mArgs (fCall 1 [] F_words_of_step) (mCons (mVar 0) (mNil))) (mNil)))) (mNil)))
def F_step_row : Fun_ := runB 1 m_step_row
def tF_pair_or_none_value_of : Nat → Option Fun_
  | 8 => some F_charge_or_none
  | 14 => some F_change_or_none
  | _ => none
def tL_pair_or_none_value_of : Nat → Option Fun_
  | _ => none
def m_pair_or_none : MS := sThen (sUnp [2, 3, 4] (mBM "str" (fPartition) (mVar 0) (mCons (mC (.str ":")) (mNil)))) (sThen (sSet 5 (mIf (mAnd (mB (mOp (fEqS true) (mVar 3) (mC (.str "")))) (mTru (mArgs (fCall 1 [] F_is_name) (mCons (mVar 2) (mNil))))) (mCallW tF_pair_or_none_value_of tL_pair_or_none_value_of 1 (mVar 1) (mCons (mVar 4) (mNil))) (mC .non))) (sRet (mIf (mB (mOp (fIsN false) (mVar 5) (mC .non))) (mC .non) (mTup (mCons (mVar 2) (mCons (mVar 5) (mNil)))))))
def F_pair_or_none : Fun_ := runB 6 m_pair_or_none
def m__law_log_due : MS := sThen (sSet 1 (mLst true (mNil))) (sThen (sFor (mSrcA fRng1 (mCons (mArgs fLen (mCons (mVar 0) (mNil))) (mNil))) (setN 2) (sThen (sSet 3 (mArgs (fCall 2 [] F__law_row_due) (mCons (mOp fIx (mVar 0) (mVar 2)) (mCons (mVar 2) (mNil))))) (sThen (sIf (mB (mOp (fEqS true) (mOp fIx (mVar 3) (mC (.int 0))) (mC (.str "told")))) (sRet (mVar 3)) (sNx)) (sExpr (mBM "list" (fAppend) (mVar 1) (mCons (mOp fIx (mVar 3) (mC (.int 1))) (mNil))))))) (sRet (mTup (mCons (mC (.str "told")) (mCons (mArgs fTup (mCons (mVar 1) (mNil))) (mNil))))))
def F__law_log_due : Fun_ := runB 4 m__law_log_due
def m_log_rows : MS := sRet (mLc true [1] (mUn fSrc (mVar 0)) (setN 1) (mYes) (mArgs (fCall 1 [] F_step_row) (mCons (mVar 1) (mNil))))
def F_log_rows : Fun_ := runB 2 m_log_rows
def m_lam1 : M D := mArgs (fCall 2 [] F_pair_or_none) (mCons (mVar 0) (mCons (mC (.fn 8)) (mNil)))
def F_lam1 : Fun_ := runE 1 m_lam1
def m_lam2 : M D := mArgs (fCall 2 [] F_pair_or_none) (mCons (mVar 0) (mCons (mC (.fn 14)) (mNil)))
def F_lam2 : Fun_ := runE 1 m_lam2
def tF_StepReader_several_value_of : Nat → Option Fun_
  | 16 => some F_group_or_none
  | _ => none
def tL_StepReader_several_value_of : Nat → Option Fun_
  | 1 => some F_lam1
  | 2 => some F_lam2
  | _ => none
def m_StepReader_several : MS := sThen (sExpr (mMeth 10 "require" 3 [] F_StepReader_require (mVar 0) (mCons (mOp (fGt) (mArgs fLen (mCons (mUn (fFld 10 "words") (mVar 0)) (mNil))) (mC (.int 1))) (mCons (mC (.int 1)) (mNil))))) (sThen (sSet 3 (mLst true (mNil))) (sThen (sFor (mSrcA fEnu2 (mCons (mSl false (mUn (fFld 10 "words") (mVar 0)) (mPart (mC (.int 1))) (mNoPart)) (mCons (mC (.int 1)) (mNil)))) (setT [4, 5]) (sThen (sSet 6 (mCallW tF_StepReader_several_value_of tL_StepReader_several_value_of 1 (mVar 1) (mCons (mVar 5) (mNil)))) (sThen (sExpr (mMeth 10 "require" 3 [] F_StepReader_require (mVar 0) (mCons (mOp (fIsN true) (mVar 6) (mC .non)) (mCons (mVar 4) (mNil))))) (sThen (sExpr (mMeth 10 "require" 3 [] F_StepReader_require (mVar 0) (mCons (mOrV (mNotV (mVar 2)) (mOrV (mOp (fEqS false) (mVar 3) (mLst false (mNil))) (mOp (fLt) (mOp fIx (mOp fIx (mVar 3) (mUn fNeg (mC (.int 1)))) (mC (.int 0))) (mOp fIx (mVar 6) (mC (.int 0)))))) (mCons (mVar 4) (mNil))))) (sExpr (mBM "list" (fAppend) (mVar 3) (mCons (mVar 6) (mNil)))))))) (sRet (mArgs fTup (mCons (mVar 3) (mNil))))))
def F_StepReader_several : Fun_ := runB 7 m_StepReader_several
def m_StepReader_none_or_several : MS := sThen (sIf (mB (mOp (fEqS false) (mSl false (mUn (fFld 10 "words") (mVar 0)) (mPart (mC (.int 1))) (mPart (mC (.int 2)))) (mLst false (mCons (mC (.str "-")) (mNil))))) (sThen (sExpr (mMeth 10 "require" 3 [] F_StepReader_require (mVar 0) (mCons (mOp (fEqS false) (mArgs fLen (mCons (mUn (fFld 10 "words") (mVar 0)) (mNil))) (mC (.int 2))) (mCons (mC (.int 2)) (mNil))))) (sRet (mTup (mNil)))) (sNx)) (sRet (mMeth 10 "several" 3 [] F_StepReader_several (mVar 0) (mCons (mVar 1) (mCons (mVar 2) (mNil)))))
def F_StepReader_none_or_several : Fun_ := runB 3 m_StepReader_none_or_several
def m_StepReader_step_written : MS := sThen (sSet 1 (mOp fIx (mUn (fFld 10 "words") (mVar 0)) (mC (.int 0)))) (sMatch (mVar 1) [(some ["withdraw"], sThen (sExpr (mMeth 10 "require" 3 [] F_StepReader_require (mVar 0) (mCons (mOp (fEqS false) (mArgs fLen (mCons (mUn (fFld 10 "words") (mVar 0)) (mNil))) (mC (.int 1))) (mCons (mC (.int 1)) (mNil))))) (sRet (mTup (mCons (mVar 1) (mNil))))), (some ["add", "end"], sRet (mTup (mCons (mVar 1) (mCons (mMeth 10 "only" 2 [] F_StepReader_only (mVar 0) (mCons (mLam 0 0 "StepReader.step_written.<locals>.<lambda>") (mNil))) (mNil))))), (some ["send"], sRet (mTup (mCons (mVar 1) (mCons (mMeth 10 "only" 2 [] F_StepReader_only (mVar 0) (mCons (mC (.fn 17)) (mNil))) (mNil))))), (some ["sections"], sRet (mTup (mCons (mVar 1) (mCons (mMeth 10 "none_or_several" 3 [] F_StepReader_none_or_several (mVar 0) (mCons (mC (.fn 16)) (mCons (mC (.bl false)) (mNil)))) (mNil))))), (some ["announce"], sRet (mTup (mCons (mVar 1) (mCons (mMeth 10 "none_or_several" 3 [] F_StepReader_none_or_several (mVar 0) (mCons (mLam 0 1 "StepReader.step_written.<locals>.<lambda>") (mCons (mC (.bl true)) (mNil)))) (mNil))))), (some ["correct"], sRet (mTup (mCons (mVar 1) (mCons (mMeth 10 "several" 3 [] F_StepReader_several (mVar 0) (mCons (mLam 0 2 "StepReader.step_written.<locals>.<lambda>") (mCons (mC (.bl true)) (mNil)))) (mNil))))), (none, sRaise2 8 "row" "field" (mCons (mUn (fFld 10 "row_held") (mVar 0)) (mCons (mC (.int 0)) (mNil))))])
def F_StepReader_step_written : Fun_ := runB 2 m_StepReader_step_written
def m_read_step : MS := sRet (mMeth 10 "step_written" 1 [] F_StepReader_step_written (mArgs (fMakeF 10 2 [] F_StepReader___init__) (mCons (mC (.int 0)) (mCons (mBM "str" (fSplit false) (mVar 0) (mCons (mC (.str " ")) (mNil))) (mNil)))) mNil)
def F_read_step : Fun_ := runB 1 m_read_step
def m_read_log : MS := sRet (mArgs fTup (mCons (mLcX false [1, 2] (mSrcA fEnu1 (mCons (mVar 0) (mNil))) (setT [1, 2]) (mYes) (mMeth 10 "step_written" 1 [] F_StepReader_step_written (mArgs (fMakeF 10 2 [] F_StepReader___init__) (mCons (mVar 1) (mCons (mBM "str" (fSplit false) (mVar 2) (mCons (mC (.str " ")) (mNil))) (mNil)))) mNil)) (mNil)))
def F_read_log : Fun_ := runB 3 m_read_log
noncomputable def m_law : MS := sThen (sSet 1 (mArgs (fCall 1 [] F__law_source) (mCons (mVar 0) (mNil)))) (sThen (sSet 2 (mArgs (fCall 1 [] F__law_steps) (mCons (mVar 1) (mNil)))) (sThen (sPar 3 4 (mCons (mLc false [13] (mUn fSrc (mVar 2)) (setN 13) (mYes) (mArgs (fCall 1 [] F__law_row) (mCons (mVar 13) (mNil)))) (mCons (mArgs fRepr (mCons (mVar 2) (mNil))) (mNil)))) (sThen (sFor (mSrcA fRng1 (mCons (mArgs fLen (mCons (mVar 2) (mNil))) (mNil))) (setN 5) (sThen (sIf (mOr (mB (mOp (fEqS true) (mLst false (mCons (mArgs (fCall 1 [] F_step_row) (mCons (mOp fIx (mVar 2) (mVar 5)) (mNil))) (mCons (mArgs (fCall 1 [] F_step_row) (mCons (mOp fIx (mVar 2) (mVar 5)) (mNil))) (mNil)))) (mLst false (mCons (mOp fIx (mVar 3) (mVar 5)) (mCons (mOp fIx (mVar 3) (mVar 5)) (mNil)))))) (mB (mOp (fEqS true) (mArgs fRepr (mCons (mArgs (fCall 1 [] F_read_step) (mCons (mOp fIx (mVar 3) (mVar 5)) (mNil))) (mNil))) (mArgs fRepr (mCons (mOp fIx (mVar 2) (mVar 5)) (mNil)))))) (sRet (mC (.bl false))) (sNx)) (sFor (mSrcA fRng1 (mCons (mC (.int 3)) (mNil))) (setN 6) (sThen (sSet 7 (mArgs (fCall 2 [] F__law_bent_row) (mCons (mVar 1) (mCons (mOp fIx (mVar 3) (mVar 5)) (mNil))))) (sThen (sSet 7 (mIf (mB (mOp (fEqS false) (mVar 6) (mC (.int 2)))) (mArgs (fCall 2 [] F__law_bent_row) (mCons (mVar 1) (mCons (mVar 7) (mNil)))) (mVar 7))) (sIf (mB (mOp (fEqS true) (mArgs fRepr (mCons (mSaid 1 "law.<locals>.<lambda>" [7] 14 (mArgs (fCall 1 [] F_read_step) (mCons (mVar 7) (mNil))) R__law_said) (mNil))) (mArgs fRepr (mCons (mArgs (fCall 2 [] F__law_row_due) (mCons (mVar 7) (mCons (mC (.int 0)) (mNil)))) (mNil))))) (sRet (mC (.bl false))) (sNx))))))) (sThen (sFor (mUn fSrc ((fun _ π => F__law_by_hand [] π))) (setN 8) (sIf (mB (mOp (fEqS true) (mArgs fRepr (mCons (mSaid 1 "law.<locals>.<lambda>" [8] 14 (mArgs (fCall 1 [] F_read_step) (mCons (mVar 8) (mNil))) R__law_said) (mNil))) (mArgs fRepr (mCons (mArgs (fCall 2 [] F__law_row_due) (mCons (mVar 8) (mCons (mC (.int 0)) (mNil)))) (mNil))))) (sRet (mC (.bl false))) (sNx))) (sThen (sSet 9 (mArgs (fCall 1 [] F_log_rows) (mCons (mArgs fTup (mCons (mVar 2) (mNil))) (mNil)))) (sThen (sExpr (mBM "list" (fAppend) (mVar 9) (mCons (mC (.str "add a")) (mNil)))) (sThen (sIf (mOr (mB (mOp (fEqS true) (mArgs (fCall 1 [] F_log_rows) (mCons (mArgs fTup (mCons (mVar 2) (mNil))) (mNil))) (mVar 3))) (mOr (mB (mOp (fEqS true) (mArgs fRepr (mCons (mArgs (fCall 1 [] F_read_log) (mCons (mVar 3) (mNil))) (mNil))) (mArgs fRepr (mCons (mArgs fTup (mCons (mVar 2) (mNil))) (mNil))))) (mB (mOp (fEqS true) (mArgs fRepr (mCons (mVar 2) (mNil))) (mVar 4))))) (sRet (mC (.bl false))) (sNx)) (sThen (sFor (mSrcA fRng1 (mCons (mC (.int 12)) (mNil))) (setN 6) (sThen (sUnp [10, 11] (mTup (mCons (mArgs (fLst true) (mCons (mVar 3) (mNil))) (mCons (mArgs (fCall 2 [] F__law_draw) (mCons (mVar 1) (mCons (mArgs fLen (mCons (mVar 3) (mNil))) (mNil)))) (mNil))))) (sThen (sPut (mVar 10) (mVar 11) (mArgs (fCall 2 [] F__law_bent_row) (mCons (mVar 1) (mCons (mOp fIx (mVar 10) (mVar 11)) (mNil))))) (sThen (sSet 12 (mArgs (fLst false) (mCons (mVar 10) (mNil)))) (sIf (mOr (mB (mOp (fEqS true) (mArgs fRepr (mCons (mSaid 1 "law.<locals>.<lambda>" [10] 14 (mArgs (fCall 1 [] F_read_log) (mCons (mVar 10) (mNil))) R__law_said) (mNil))) (mArgs fRepr (mCons (mArgs (fCall 1 [] F__law_log_due) (mCons (mVar 10) (mNil))) (mNil))))) (mB (mOp (fEqS true) (mVar 10) (mVar 12)))) (sRet (mC (.bl false))) (sNx)))))) (sRet (mAndV (mOp (fEqS false) (mArgs (fCall 1 [] F_read_log) (mCons (mLst false (mNil)) (mNil))) (mTup (mNil))) (mOp (fEqS false) (mArgs (fCall 1 [] F_log_rows) (mCons (mTup (mNil)) (mNil))) (mLst false (mNil)))))))))))))
noncomputable def F_law : Fun_ := runB 14 m_law
end LW

set_option Elab.async false
set_option linter.all false
set_option maxRecDepth 100000
set_option maxHeartbeats 2000000
set_option maxHeartbeats 0
namespace LW
open PySem PySem.Spec PyProof.Rows L2 MI
abbrev hk : PySem.W.Hook := hookM PR.main.file 6 fa ex fn su tf
def ob (s : PySem.W.SharedT) : AlM := obsM PR.main.file 6 fa ex fn su tf (HandSHeadRun.getT s)
theorem ob_eq (s : PySem.W.SharedT) : ob s = hk.obs s.abs := obsM_eq (HandSHeadRun.getT_eq s)
theorem run (w : World) : HandSHeadRun.RunEq R (PySem.W.view R.prog [65]) hk ob 6000 loose w := by
  intro os
  kernel_rfl
end LW

set_option Elab.async false
set_option linter.all false
set_option maxRecDepth 100000
set_option maxHeartbeats 2000000
namespace LW
open PySem PySem.Spec PyProof.Rows L2 MI
section
variable {w : World} {K : PySem.W.Frag} {mg : Str → Option Value} {base : Heap}
theorem sc_is_integer : FnScope ["thing"] ["thing"] (defScope (top 14)) := ⟨rfl, rfl, rfl, by decide +kernel, rfl, by decide +kernel, by decide +kernel⟩
theorem ok_is_integer (cc : Ct K mg) (tb : TB K mg base) : Fn PR w mg base (gOf K) 1 (He.fAd K ("is_integer", none)) 1 [] F_is_integer := by
  obtain ⟨fd, Fu⟩ := cc.def_ 0 rfl
  have Sc := sc_is_integer
  exact fn_mk (g := gOf K) (N := ["thing"]) (ps := ["thing"]) Fu Sc (fun cdv A outer s H E hr tk =>
    ts_one (ts_ret (te_andV rfl (te_callB call_isi cm_isi (by rfl) cc.f_isinstance (by decide +kernel) (ta_cons (te_var 0) (ta_cons (te_ty (by rfl) cc.f_int (by decide +kernel)) (ta_nil)))) (te_one (te_notV rfl (te_callB call_isi cm_isi (by rfl) cc.f_isinstance (by decide +kernel) (ta_cons (te_var 0) (ta_cons (te_ty (by rfl) cc.f_bool (by decide +kernel)) (ta_nil))))))))) (fun _ _ _ _ _ _ us hl => match us, hl with | [_], _ => rfl)
theorem sc_is_name : FnScope ["thing", "char"] ["thing"] (defScope (top 15)) := ⟨rfl, rfl, rfl, by decide +kernel, rfl, by decide +kernel, by decide +kernel⟩
theorem ok_is_name (cc : Ct K mg) (tb : TB K mg base) : Fn PR w mg base (gOf K) 1 (He.fAd K ("is_name", none)) 1 [] F_is_name := by
  obtain ⟨fd, Fu⟩ := cc.def_ 1 rfl
  have Sc := sc_is_name
  exact fn_mk (g := gOf K) (N := ["thing", "char"]) (ps := ["thing"]) Fu Sc (fun cdv A outer s H E hr tk =>
    ts_cons (ts_if (PW.pt (tt_or (tt_not (tt_tru rfl (te_callB call_isi cm_isi (by rfl) cc.f_isinstance (by decide +kernel) (ta_cons (te_var 0) (ta_cons (te_ty (by rfl) cc.f_str (by decide +kernel)) (ta_nil)))))) (tt_or1 (tt_not (tt_chain (or_le) (or_le) (om_le) (om_le) (te_int) (te_callB call_len cm_len (by rfl) cc.f_len (by decide +kernel) (ta_cons (te_var 0) (ta_nil))) (te_giE (by rfl) cc.k_LONGEST_NAME)))))) (ts_one (ts_ret (te_bl))) (ts_nil)) (ts_one (ts_ret (te_callB (cr_all rfl) cm_all (by rfl) cc.f_all (by decide +kernel) (ta_cons (te_lc false (own := [("char", 1)]) rfl Sc.nd (tf_any rfl (te_var 0)) (blkOk_by (N := ["thing", "char"]) (sc := defScope (top 15)) (own := [("char", 1)]) (by decide +kernel)) rfl (fun _ _ _ _ _ => pgc_name 1 Sc.nd) (fun _ _ _ _ _ => tts_nil) (fun _ _ _ _ _ => te_cmp (or_in) (om_in false) (te_var 1) (te_gsE (by rfl) cc.k_LETTERS))) (ta_nil)))))) (fun _ _ _ _ _ _ us hl => match us, hl with | [_], _ => rfl)
theorem sc_common_divisor : FnScope ["one", "other"] ["one", "other"] (defScope (top 16)) := ⟨rfl, rfl, rfl, by decide +kernel, rfl, by decide +kernel, by decide +kernel⟩
theorem ok_common_divisor (cc : Ct K mg) (tb : TB K mg base) : Fn PR w mg base (gOf K) 1 (He.fAd K ("common_divisor", none)) 2 [] F_common_divisor := by
  obtain ⟨fd, Fu⟩ := cc.def_ 2 rfl
  have Sc := sc_common_divisor
  exact fn_mk (g := gOf K) (N := ["one", "other"]) (ps := ["one", "other"]) Fu Sc (fun cdv A outer s H E hr tk =>
    ts_cons (ts_wh fuel_common_divisor_1 (passes_of rfl) (tt_cmp (or_neS hr) (om_neS) (te_var 1) (te_int)) (ts_one (ts_par 0 1 rfl Sc.nd rfl rfl (by decide) rfl rfl (ta_cons (te_var 1) (ta_cons (te_op op_mod (om_mod) (te_var 0) (te_var 1)) (ta_nil))) rfl))) (ts_one (ts_ret (te_callB call_abs cm_abs (by rfl) cc.f_abs (by decide +kernel) (ta_cons (te_var 0) (ta_nil)))))) (fun _ _ _ _ _ _ us hl => match us, hl with | [_, _], _ => rfl)
theorem sc_number_or_none : FnScope ["word", "char"] ["word"] (defScope (top 22)) := ⟨rfl, rfl, rfl, by decide +kernel, rfl, by decide +kernel, by decide +kernel⟩
theorem ok_number_or_none (cc : Ct K mg) (tb : TB K mg base) : Fn PR w mg base (gOf K) 1 (He.fAd K ("number_or_none", none)) 1 [] F_number_or_none := by
  obtain ⟨fd, Fu⟩ := cc.def_ 5 rfl
  have Sc := sc_number_or_none
  exact fn_mk (g := gOf K) (N := ["word", "char"]) (ps := ["word"]) Fu Sc (fun cdv A outer s H E hr tk =>
    ts_cons (ts_if (PW.pt (tt_or (tt_not (tt_chain (or_le) (or_le) (om_le) (om_le) (te_int) (te_callB call_len cm_len (by rfl) cc.f_len (by decide +kernel) (ta_cons (te_var 0) (ta_nil))) (te_giE (by rfl) cc.k_MOST_DIGITS))) (tt_or1 (tt_not (tt_tru rfl (te_callB (cr_all rfl) cm_all (by rfl) cc.f_all (by decide +kernel) (ta_cons (te_lc false (own := [("char", 1)]) rfl Sc.nd (tf_any rfl (te_var 0)) (blkOk_by (N := ["word", "char"]) (sc := defScope (top 22)) (own := [("char", 1)]) (by decide +kernel)) rfl (fun _ _ _ _ _ => pgc_name 1 Sc.nd) (fun _ _ _ _ _ => tts_nil) (fun _ _ _ _ _ => te_cmp (or_in) (om_in false) (te_var 1) (te_gsE (by rfl) cc.k_DIGITS))) (ta_nil)))))))) (ts_one (ts_ret (te_non))) (ts_nil)) (ts_one (ts_ret (te_if (PW.pt (tt_or (tt_cmp (or_eqS hr) (om_eqS) (te_var 0) (te_str)) (tt_or1 (tt_cmp (or_neS hr) (om_neS) (te_ix or_ix om_ix (te_var 0) (te_int)) (te_str))))) (te_callTy call_int_str cm_intS (by rfl) cc.f_int (by decide +kernel) (ta_cons (te_var 0) (ta_nil))) (te_non))))) (fun _ _ _ _ _ _ us hl => match us, hl with | [_], _ => rfl)
theorem sc_integer_text : FnScope ["number", "base", "text"] ["number"] (defScope (top 28)) := ⟨rfl, rfl, rfl, by decide +kernel, rfl, by decide +kernel, by decide +kernel⟩
theorem ok_integer_text (cc : Ct K mg) (tb : TB K mg base) (n : Nat) : Fn PR w mg base (gOf K) (1 + n) (He.fAd K ("integer_text", none)) 1 [] (F_integer_text n) := by
  obtain ⟨fd, Fu⟩ := cc.def_ 9 rfl
  have Sc := sc_integer_text
  induction n with
  | zero => exact fn_stuck (g := gOf K) (ps := ["number"]) Fu (fun _ _ _ _ _ _ us hl => match us, hl with | [_], _ => rfl)
  | succ n ih => exact fn_mk (g := gOf K) (N := ["number", "base", "text"]) (ps := ["number"]) Fu Sc (fun cdv A outer s H E hr tk =>
    ts_cons (ts_if (tt_cmp (or_lt) (om_lt) (te_var 0) (te_int)) (ts_one (ts_ret (te_js (.cons (te_str) (.cons (te_fmt (te_call rfl ih (hr.mono (by first | exact Nat.le_refl _ | (simp only [Nat.add_eq]; omega))) tk (by rfl) cc.g_integer_text (ta_cons (te_op op_sub (om_sub) (te_int) (te_var 0)) (ta_nil)))) (.nil)))))) (ts_nil)) (ts_cons (ts_set 1 Sc.nd (te_op op_pow (om_pow) (te_int) (te_int))) (ts_cons (ts_set 2 Sc.nd (te_str)) (ts_cons (ts_wh fuel_integer_text_1 (passes_of rfl) (tt_cmp (or_ge) (om_ge) (te_var 0) (te_var 1)) (ts_cons (ts_set 2 Sc.nd (te_never)) (ts_one (ts_set 0 Sc.nd (te_op op_fdivW (om_div) (te_var 0) (te_var 1)))))) (ts_one (ts_ret (te_js (.cons (te_fmt (te_var 0)) (.cons (te_fmt (te_var 2)) (.nil)))))))))) (fun _ _ _ _ _ _ us hl => match us, hl with | [_], _ => rfl)
theorem sc_StepReader___init__ : FnScope ["self", "row", "words"] ["self", "row", "words"] (defScope (mtop 40 0)) := ⟨rfl, rfl, rfl, by decide +kernel, rfl, by decide +kernel, by decide +kernel⟩
theorem ok_StepReader___init__ (cc : Ct K mg) (tb : TB K mg base) : Fn PR w mg base (gOf K) 1 (He.fAd K ("StepReader", some "__init__")) 3 [] F_StepReader___init__ := by
  obtain ⟨fd, Fu⟩ := cc.def_ 18 rfl
  have Sc := sc_StepReader___init__
  exact fn_mk (g := gOf K) (N := ["self", "row", "words"]) (ps := ["self", "row", "words"]) Fu Sc (fun cdv A outer s H E hr tk =>
    ts_cons (ts_fldput (c := 10) rfl cc.c_StepReader cc.n_StepReader_row_held (te_var 0) (te_var 1)) (ts_one (ts_fldput (c := 10) rfl cc.c_StepReader cc.n_StepReader_words (te_var 0) (te_var 2)))) (fun _ _ _ _ _ _ us hl => match us, hl with | [_, _, _], _ => rfl)
theorem sc_StepReader_require : FnScope ["self", "condition", "place"] ["self", "condition", "place"] (defScope (mtop 40 1)) := ⟨rfl, rfl, rfl, by decide +kernel, rfl, by decide +kernel, by decide +kernel⟩
theorem ok_StepReader_require (cc : Ct K mg) (tb : TB K mg base) : Fn PR w mg base (gOf K) 1 (He.fAd K ("StepReader", some "require")) 3 [] F_StepReader_require := by
  obtain ⟨fd, Fu⟩ := cc.def_ 19 rfl
  have Sc := sc_StepReader_require
  exact fn_mk (g := gOf K) (N := ["self", "condition", "place"]) (ps := ["self", "condition", "place"]) Fu Sc (fun cdv A outer s H E hr tk =>
    ts_one (ts_if (tt_not (tt_tru rfl (te_var 1))) (ts_one (ts_raise2 (c := 8) rfl rfl (cc.s_InvalidText) cc.g_InvalidText hr tk (ta_cons (te_fld (c := 10) rfl cc.c_StepReader cc.n_StepReader_row_held (te_var 0)) (ta_cons (te_var 2) (ta_nil))) (by rfl))) (ts_nil))) (fun _ _ _ _ _ _ us hl => match us, hl with | [_, _, _], _ => rfl)
theorem sc__law_source : FnScope ["_law_script"] ["_law_script"] (defScope (top 44)) := ⟨rfl, rfl, rfl, by decide +kernel, rfl, by decide +kernel, by decide +kernel⟩
theorem ok__law_source (cc : Ct K mg) (tb : TB K mg base) : Fn PR w mg base (gOf K) 1 (He.fAd K ("_law_source", none)) 1 [] F__law_source := by
  obtain ⟨fd, Fu⟩ := cc.def_ 26 rfl
  have Sc := sc__law_source
  exact fn_mk (g := gOf K) (N := ["_law_script"]) (ps := ["_law_script"]) Fu Sc (fun cdv A outer s H E hr tk =>
    ts_one (ts_ret (te_lst true (ta_cons (te_sl false rfl (te_var 0) (to_none) (to_some (te_int))) (ta_cons (te_int) (ta_cons (te_int) (ta_cons (te_int) (ta_nil)))))))) (fun _ _ _ _ _ _ us hl => match us, hl with | [_], _ => rfl)
theorem sc__law_draw : FnScope ["_law_source_here", "_law_many", "_law_found", "_law_at", "_law_cell", "_law_mixed"] ["_law_source_here", "_law_many"] (defScope (top 45)) := ⟨rfl, rfl, rfl, by decide +kernel, rfl, by decide +kernel, by decide +kernel⟩
theorem ok__law_draw (cc : Ct K mg) (tb : TB K mg base) : Fn PR w mg base (gOf K) 1 (He.fAd K ("_law_draw", none)) 2 [] F__law_draw := by
  obtain ⟨fd, Fu⟩ := cc.def_ 27 rfl
  have Sc := sc__law_draw
  exact fn_mk (g := gOf K) (N := ["_law_source_here", "_law_many", "_law_found", "_law_at", "_law_cell", "_law_mixed"]) (ps := ["_law_source_here", "_law_many"]) Fu Sc (fun cdv A outer s H E hr tk =>
    ts_cons (ts_put (te_var 0) (te_int) (te_op or_add (om_add false) (te_ix or_ix om_ix (te_var 0) (te_int)) (te_int))) (ts_cons (ts_if (tt_cmp (or_gt) (om_gt) (te_ix or_ix om_ix (te_var 0) (te_int)) (te_int)) (ts_cons (ts_set 2 Sc.nd (te_op op_mod (om_mod) (te_ix or_ix om_ix (te_var 0) (te_int)) (te_var 1))) (ts_cons (ts_put (te_var 0) (te_int) (te_op op_fdivW (om_div) (te_ix or_ix om_ix (te_var 0) (te_int)) (te_var 1))) (ts_one (ts_ret (te_var 2))))) (ts_nil)) (ts_cons (ts_set 3 Sc.nd (te_ix or_ix om_ix (te_var 0) (te_int))) (ts_cons (ts_put (te_var 0) (te_int) (te_op or_add (om_add false) (te_var 3) (te_int))) (ts_cons (ts_set 4 Sc.nd (te_if (tt_cmp (or_neS hr) (om_neS) (te_ix or_ix om_ix (te_var 0) (te_int)) (te_lst false (ta_nil))) (te_ix or_ix om_ix (te_ix or_ix om_ix (te_var 0) (te_int)) (te_op op_mod (om_mod) (te_var 3) (te_callB call_len cm_len (by rfl) cc.f_len (by decide +kernel) (ta_cons (te_ix or_ix om_ix (te_var 0) (te_int)) (ta_nil))))) (te_int))) (ts_cons (ts_if (PW.pt (tt_and (tt_cmp (or_ge) (om_ge) (te_var 4) (te_op op_pow (om_pow) (te_int) (te_int))) (tt_and1 (tt_cmp (or_lt) (om_lt) (te_var 3) (te_callB call_len cm_len (by rfl) cc.f_len (by decide +kernel) (ta_cons (te_ix or_ix om_ix (te_var 0) (te_int)) (ta_nil))))))) (ts_cons (ts_put (te_var 0) (te_int) (te_op op_fdivW (om_div) (te_var 4) (te_var 1))) (ts_one (ts_ret (te_op op_mod (om_mod) (te_var 4) (te_var 1))))) (ts_nil)) (ts_cons (ts_set 5 Sc.nd (te_op op_mod (om_mod) (te_op op_pow (om_pow) (te_op or_add (om_add false) (te_op or_add (om_add false) (te_op op_mod (om_mod) (te_var 4) (te_int)) (te_op or_mulS (om_mulS) (te_int) (te_ix or_ix om_ix (te_var 0) (te_int)))) (te_int)) (te_int)) (te_int))) (ts_one (ts_ret (te_op op_mod (om_mod) (te_op op_fdivW (om_div) (te_op op_mod (om_mod) (te_op op_pow (om_pow) (te_op or_add (om_add false) (te_op or_add (om_add false) (te_var 5) (te_op or_mulS (om_mulS) (te_op or_mulS (om_mulS) (te_int) (te_ix or_ix om_ix (te_var 0) (te_int))) (te_ix or_ix om_ix (te_var 0) (te_int)))) (te_int)) (te_int)) (te_int)) (te_int)) (te_var 1))))))))))) (fun _ _ _ _ _ _ us hl => match us, hl with | [_, _], _ => rfl)
theorem sc__law_frac : FnScope ["_law_over", "_law_under", "_law_one", "_law_other"] ["_law_over", "_law_under"] (defScope (top 46)) := ⟨rfl, rfl, rfl, by decide +kernel, rfl, by decide +kernel, by decide +kernel⟩
theorem ok__law_frac (cc : Ct K mg) (tb : TB K mg base) : Fn PR w mg base (gOf K) 1 (He.fAd K ("_law_frac", none)) 2 [] F__law_frac := by
  obtain ⟨fd, Fu⟩ := cc.def_ 28 rfl
  have Sc := sc__law_frac
  exact fn_mk (g := gOf K) (N := ["_law_over", "_law_under", "_law_one", "_law_other"]) (ps := ["_law_over", "_law_under"]) Fu Sc (fun cdv A outer s H E hr tk =>
    ts_cons (ts_par 2 3 rfl Sc.nd rfl rfl (by decide) rfl rfl (ta_cons (te_callB call_abs cm_abs (by rfl) cc.f_abs (by decide +kernel) (ta_cons (te_var 0) (ta_nil))) (ta_cons (te_var 1) (ta_nil))) rfl) (ts_cons (ts_wh fuel__law_frac_1 (passes_of rfl) (tt_cmp (or_gt) (om_gt) (te_var 3) (te_int)) (ts_one (ts_par 2 3 rfl Sc.nd rfl rfl (by decide) rfl rfl (ta_cons (te_var 3) (ta_cons (te_op op_mod (om_mod) (te_var 2) (te_var 3)) (ta_nil))) rfl))) (ts_one (ts_ret (te_tup (ta_cons (te_op op_fdivW (om_div) (te_var 0) (te_var 2)) (ta_cons (te_op op_fdivW (om_div) (te_var 1) (te_var 2)) (ta_nil)))))))) (fun _ _ _ _ _ _ us hl => match us, hl with | [_, _], _ => rfl)
theorem sc__law_is_name : FnScope ["_law_stray", "_law_char"] ["_law_stray"] (defScope (top 47)) := ⟨rfl, rfl, rfl, by decide +kernel, rfl, by decide +kernel, by decide +kernel⟩
theorem ok__law_is_name (cc : Ct K mg) (tb : TB K mg base) : Fn PR w mg base (gOf K) 1 (He.fAd K ("_law_is_name", none)) 1 [] F__law_is_name := by
  obtain ⟨fd, Fu⟩ := cc.def_ 29 rfl
  have Sc := sc__law_is_name
  exact fn_mk (g := gOf K) (N := ["_law_stray", "_law_char"]) (ps := ["_law_stray"]) Fu Sc (fun cdv A outer s H E hr tk =>
    ts_cons (ts_if (PW.pt (tt_or (tt_not (tt_tru rfl (te_callB call_isi cm_isi (by rfl) cc.f_isinstance (by decide +kernel) (ta_cons (te_var 0) (ta_cons (te_ty (by rfl) cc.f_str (by decide +kernel)) (ta_nil)))))) (tt_or1 (tt_not (tt_chain (or_le) (or_le) (om_le) (om_le) (te_int) (te_callB call_len cm_len (by rfl) cc.f_len (by decide +kernel) (ta_cons (te_var 0) (ta_nil))) (te_int)))))) (ts_one (ts_ret (te_bl))) (ts_nil)) (ts_one (ts_ret (te_cmp (or_eqS hr) (om_eqS) (te_lc false (own := [("_law_char", 1)]) rfl Sc.nd (tf_any rfl (te_var 0)) (blkOk_by (N := ["_law_stray", "_law_char"]) (sc := defScope (top 47)) (own := [("_law_char", 1)]) (by decide +kernel)) rfl (fun _ _ _ _ _ => pgc_name 1 Sc.nd) (fun _ _ _ _ _ => tts_one (tt_cmp (or_notIn) (om_in true) (te_var 1) (te_str))) (fun _ _ _ _ _ => te_var 1)) (te_lst false (ta_nil)))))) (fun _ _ _ _ _ _ us hl => match us, hl with | [_], _ => rfl)
theorem sc__law_error : FnScope ["_law_e", "_law_sorts", "_law_families", "_law_at"] ["_law_e"] (defScope (top 48)) := ⟨rfl, rfl, rfl, by decide +kernel, rfl, by decide +kernel, by decide +kernel⟩
theorem ok__law_error (cc : Ct K mg) (tb : TB K mg base) : Fn PR w mg base (gOf K) 1 (He.fAd K ("_law_error", none)) 1 [] F__law_error := by
  obtain ⟨fd, Fu⟩ := cc.def_ 30 rfl
  have Sc := sc__law_error
  exact fn_mk (g := gOf K) (N := ["_law_e", "_law_sorts", "_law_families", "_law_at"]) (ps := ["_law_e"]) Fu Sc (fun cdv A outer s H E hr tk =>
    ts_cons (ts_set 1 Sc.nd (te_lst false (ta_cons (te_callB call_isa (cm_isx cc.subT) (by rfl) cc.f_isinstance (by decide +kernel) (ta_cons (te_var 0) (ta_cons (te_gc (g := gOf K) (c := 4) (by rfl) cc.g_InvalidPaper) (ta_nil)))) (ta_cons (te_callB call_isa (cm_isx cc.subT) (by rfl) cc.f_isinstance (by decide +kernel) (ta_cons (te_var 0) (ta_cons (te_gc (g := gOf K) (c := 5) (by rfl) cc.g_UnknownLine) (ta_nil)))) (ta_cons (te_callB call_isa (cm_isx cc.subT) (by rfl) cc.f_isinstance (by decide +kernel) (ta_cons (te_var 0) (ta_cons (te_gc (g := gOf K) (c := 6) (by rfl) cc.g_InvalidStep) (ta_nil)))) (ta_nil)))))) (ts_cons (ts_set 1 Sc.nd (te_op or_add (om_add false) (te_var 1) (te_lst false (ta_cons (te_callB call_isa (cm_isx cc.subT) (by rfl) cc.f_isinstance (by decide +kernel) (ta_cons (te_var 0) (ta_cons (te_gc (g := gOf K) (c := 7) (by rfl) cc.g_NothingToUndo) (ta_nil)))) (ta_cons (te_callB call_isa (cm_isx cc.subT) (by rfl) cc.f_isinstance (by decide +kernel) (ta_cons (te_var 0) (ta_cons (te_gc (g := gOf K) (c := 8) (by rfl) cc.g_InvalidText) (ta_nil)))) (ta_cons (te_callB call_isa (cm_isx cc.subT) (by rfl) cc.f_isinstance (by decide +kernel) (ta_cons (te_var 0) (ta_cons (te_gc (g := gOf K) (c := 9) (by rfl) cc.g_InvalidCommand) (ta_nil)))) (ta_nil))))))) (ts_cons (ts_set 2 Sc.nd (te_lst false (ta_cons (te_callB call_isa (cm_isx cc.subT) (by rfl) cc.f_isinstance (by decide +kernel) (ta_cons (te_var 0) (ta_cons (te_gc (g := gOf K) (c := 1) (by rfl) cc.g_PaperError) (ta_nil)))) (ta_cons (te_callB call_isa (cm_isx cc.subT) (by rfl) cc.f_isinstance (by decide +kernel) (ta_cons (te_var 0) (ta_cons (te_gc (g := gOf K) (c := 2) (by rfl) cc.g_BookError) (ta_nil)))) (ta_cons (te_callB call_isa (cm_isx cc.subT) (by rfl) cc.f_isinstance (by decide +kernel) (ta_cons (te_var 0) (ta_cons (te_gc (g := gOf K) (c := 3) (by rfl) cc.g_TextError) (ta_nil)))) (ta_nil)))))) (ts_cons (ts_set 3 Sc.nd (te_if (tt_cmp (or_eqS hr) (om_eqS) (te_bm rfl PySem.F.plainAttrs_list PySem.F.slot_list_count PySem.F.type_list_count mt_cnt (mm_cnt) (te_var 1) (ta_cons (te_bl) (ta_nil))) (te_int)) (te_bm rfl PySem.F.plainAttrs_list PySem.F.slot_list_index PySem.F.type_list_index mt_index (mm_idx) (te_var 1) (ta_cons (te_bl) (ta_nil))) (te_int))) (ts_cons (ts_if (PW.pt (tt_or (tt_cmp (or_eqS hr) (om_eqS) (te_var 3) (te_int)) (tt_or (tt_cmp (or_neS hr) (om_neS) (te_var 2) (te_lst false (ta_cons (te_cmp (or_eqS hr) (om_eqS) (te_var 3) (te_int)) (ta_cons (te_chain (or_lt) (or_lt) (om_lt) (om_lt) (te_int) (te_var 3) (te_int)) (ta_cons (te_cmp (or_gt) (om_gt) (te_var 3) (te_int)) (ta_nil)))))) (tt_or1 (tt_not (tt_tru rfl (te_callB call_isa (cm_isx cc.subT) (by rfl) cc.f_isinstance (by decide +kernel) (ta_cons (te_var 0) (ta_cons (te_ty (by rfl) cc.f_ValueError (by decide +kernel)) (ta_nil)))))))))) (ts_one (ts_ret (te_tup (ta_cons (te_str) (ta_cons (te_str) (ta_nil)))))) (ts_nil)) (ts_cons (ts_if (PW.pt (tt_or (tt_cmp (or_eqS hr) (om_eqS) (te_var 3) (te_int)) (tt_or1 (tt_cmp (or_eqS hr) (om_eqS) (te_var 3) (te_int))))) (ts_one (ts_ret (te_if (tt_cmp (or_eqS hr) (om_eqS) (te_var 3) (te_int)) (te_tup (ta_cons (te_str) (ta_cons (te_str) (ta_cons (te_never) (ta_cons (te_never) (ta_nil)))))) (te_tup (ta_cons (te_str) (ta_cons (te_str) (ta_cons (te_never) (ta_cons (te_never) (ta_nil))))))))) (ts_nil)) (ts_cons (ts_if (PW.pt (tt_or (tt_cmp (or_eqS hr) (om_eqS) (te_var 3) (te_int)) (tt_or1 (tt_cmp (or_eqS hr) (om_eqS) (te_var 3) (te_int))))) (ts_one (ts_ret (te_if (tt_cmp (or_eqS hr) (om_eqS) (te_var 3) (te_int)) (te_tup (ta_cons (te_str) (ta_cons (te_str) (ta_cons (te_never) (ta_nil))))) (te_tup (ta_cons (te_str) (ta_cons (te_str) (ta_cons (te_never) (ta_nil)))))))) (ts_nil)) (ts_one (ts_ret (te_if (tt_cmp (or_eqS hr) (om_eqS) (te_var 3) (te_int)) (te_tup (ta_cons (te_str) (ta_cons (te_str) (ta_cons (te_fldX (c := 8) rfl cc.v_InvalidText cc.n_InvalidText_row (te_var 0)) (ta_cons (te_fldX (c := 8) rfl cc.v_InvalidText cc.n_InvalidText_field (te_var 0)) (ta_nil)))))) (te_tup (ta_cons (te_str) (ta_cons (te_str) (ta_cons (te_never) (ta_nil))))))))))))))) (fun _ _ _ _ _ _ us hl => match us, hl with | [_], _ => rfl)
theorem sc__law_pool : FnScope [] [] (defScope (top 50)) := ⟨rfl, rfl, rfl, by decide +kernel, rfl, by decide +kernel, by decide +kernel⟩
theorem ok__law_pool (cc : Ct K mg) (tb : TB K mg base) : Fn PR w mg base (gOf K) 1 (He.fAd K ("_law_pool", none)) 0 [] F__law_pool := by
  obtain ⟨fd, Fu⟩ := cc.def_ 31 rfl
  have Sc := sc__law_pool
  exact fn_mk (g := gOf K) (N := []) (ps := []) Fu Sc (fun cdv A outer s H E hr tk =>
    ts_one (ts_ret (te_lst false (ta_cons (te_str) (ta_cons (te_str) (ta_cons (te_str) (ta_cons (te_str) (ta_cons (te_str) (ta_cons (te_str) (ta_nil)))))))))) (fun _ _ _ _ _ _ us hl => match us, hl with | [], _ => rfl)
theorem sc__law_frac_word : FnScope ["_law_one"] ["_law_one"] (defScope (top 52)) := ⟨rfl, rfl, rfl, by decide +kernel, rfl, by decide +kernel, by decide +kernel⟩
theorem ok__law_frac_word (cc : Ct K mg) (tb : TB K mg base) : Fn PR w mg base (gOf K) 1 (He.fAd K ("_law_frac_word", none)) 1 [] F__law_frac_word := by
  obtain ⟨fd, Fu⟩ := cc.def_ 33 rfl
  have Sc := sc__law_frac_word
  exact fn_mk (g := gOf K) (N := ["_law_one"]) (ps := ["_law_one"]) Fu Sc (fun cdv A outer s H E hr tk =>
    ts_one (ts_ret (te_if (tt_cmp (or_eqS hr) (om_eqS) (te_ix or_ix om_ix (te_var 0) (te_int)) (te_int)) (te_callTy call_str_int cm_strI (by rfl) cc.f_str (by decide +kernel) (ta_cons (te_ix or_ix om_ix (te_var 0) (te_int)) (ta_nil))) (te_op or_add (om_add false) (te_op or_add (om_add false) (te_callTy call_str_int cm_strI (by rfl) cc.f_str (by decide +kernel) (ta_cons (te_ix or_ix om_ix (te_var 0) (te_int)) (ta_nil))) (te_str)) (te_callTy call_str_int cm_strI (by rfl) cc.f_str (by decide +kernel) (ta_cons (te_ix or_ix om_ix (te_var 0) (te_int)) (ta_nil))))))) (fun _ _ _ _ _ _ us hl => match us, hl with | [_], _ => rfl)
theorem sc__law_number_in : FnScope ["_law_word", "_law_char"] ["_law_word"] (defScope (top 54)) := ⟨rfl, rfl, rfl, by decide +kernel, rfl, by decide +kernel, by decide +kernel⟩
theorem ok__law_number_in (cc : Ct K mg) (tb : TB K mg base) : Fn PR w mg base (gOf K) 1 (He.fAd K ("_law_number_in", none)) 1 [] F__law_number_in := by
  obtain ⟨fd, Fu⟩ := cc.def_ 35 rfl
  have Sc := sc__law_number_in
  exact fn_mk (g := gOf K) (N := ["_law_word", "_law_char"]) (ps := ["_law_word"]) Fu Sc (fun cdv A outer s H E hr tk =>
    ts_cons (ts_if (PW.pt (tt_or (tt_not (tt_chain (or_le) (or_le) (om_le) (om_le) (te_int) (te_callB call_len cm_len (by rfl) cc.f_len (by decide +kernel) (ta_cons (te_var 0) (ta_nil))) (te_int))) (tt_or1 (tt_cmp (or_neS hr) (om_neS) (te_lc false (own := [("_law_char", 1)]) rfl Sc.nd (tf_any rfl (te_var 0)) (blkOk_by (N := ["_law_word", "_law_char"]) (sc := defScope (top 54)) (own := [("_law_char", 1)]) (by decide +kernel)) rfl (fun _ _ _ _ _ => pgc_name 1 Sc.nd) (fun _ _ _ _ _ => tts_one (tt_cmp (or_notIn) (om_in true) (te_var 1) (te_str))) (fun _ _ _ _ _ => te_var 1)) (te_lst false (ta_nil)))))) (ts_one (ts_ret (te_non))) (ts_nil)) (ts_one (ts_ret (te_if (PW.pt (tt_or (tt_cmp (or_eqS hr) (om_eqS) (te_var 0) (te_str)) (tt_or1 (tt_cmp (or_neS hr) (om_neS) (te_ix or_ix om_ix (te_var 0) (te_int)) (te_str))))) (te_callTy call_int_str cm_intS (by rfl) cc.f_int (by decide +kernel) (ta_cons (te_var 0) (ta_nil))) (te_non))))) (fun _ _ _ _ _ _ us hl => match us, hl with | [_], _ => rfl)
theorem sc__law_by_hand : FnScope ["_law_some", "_law_figures"] [] (defScope (top 62)) := ⟨rfl, rfl, rfl, by decide +kernel, rfl, by decide +kernel, by decide +kernel⟩
theorem ok__law_by_hand (cc : Ct K mg) (tb : TB K mg base) : Fn PR w mg base (gOf K) 1 (He.fAd K ("_law_by_hand", none)) 0 [] F__law_by_hand := by
  obtain ⟨fd, Fu⟩ := cc.def_ 43 rfl
  have Sc := sc__law_by_hand
  exact fn_mk (g := gOf K) (N := ["_law_some", "_law_figures"]) (ps := []) Fu Sc (fun cdv A outer s H E hr tk =>
    ts_cons (ts_set 0 Sc.nd (te_lst true (ta_cons (te_str) (ta_cons (te_str) (ta_cons (te_str) (ta_cons (te_str) (ta_cons (te_str) (ta_cons (te_str) (ta_cons (te_str) (ta_cons (te_str) (ta_cons (te_str) (ta_cons (te_str) (ta_cons (te_str) (ta_nil)))))))))))))) (ts_cons (ts_set 0 Sc.nd (te_op or_add (om_add true) (te_var 0) (te_lst false (ta_cons (te_str) (ta_cons (te_str) (ta_cons (te_str) (ta_cons (te_str) (ta_cons (te_str) (ta_cons (te_str) (ta_cons (te_str) (ta_nil))))))))))) (ts_cons (ts_expr (te_bm rfl PySem.F.plainAttrs_list PySem.F.slot_list_append PySem.F.type_list_append mt_append (mm_append) (te_var 0) (ta_cons (te_str) (ta_nil)))) (ts_cons (ts_set 0 Sc.nd (te_op or_add (om_add true) (te_var 0) (te_lst false (ta_cons (te_str) (ta_cons (te_str) (ta_cons (te_str) (ta_cons (te_str) (ta_cons (te_str) (ta_cons (te_str) (ta_nil)))))))))) (ts_cons (ts_set 0 Sc.nd (te_op or_add (om_add true) (te_var 0) (te_lst false (ta_cons (te_str) (ta_cons (te_str) (ta_cons (te_str) (ta_cons (te_str) (ta_cons (te_str) (ta_nil))))))))) (ts_cons (ts_set 0 Sc.nd (te_op or_add (om_add true) (te_var 0) (te_lst false (ta_cons (te_str) (ta_cons (te_str) (ta_cons (te_str) (ta_cons (te_str) (ta_cons (te_str) (ta_nil))))))))) (ts_cons (ts_expr (te_bm rfl PySem.F.plainAttrs_list PySem.F.slot_list_append PySem.F.type_list_append mt_append (mm_append) (te_var 0) (ta_cons (te_str) (ta_nil)))) (ts_cons (ts_set 0 Sc.nd (te_op or_add (om_add true) (te_var 0) (te_lst false (ta_cons (te_str) (ta_cons (te_str) (ta_cons (te_str) (ta_cons (te_str) (ta_cons (te_str) (ta_cons (te_str) (ta_nil)))))))))) (ts_cons (ts_set 0 Sc.nd (te_op or_add (om_add true) (te_var 0) (te_lst false (ta_cons (te_str) (ta_cons (te_str) (ta_cons (te_str) (ta_cons (te_str) (ta_cons (te_str) (ta_cons (te_str) (ta_cons (te_str) (ta_cons (te_str) (ta_cons (te_str) (ta_nil))))))))))))) (ts_cons (ts_set 0 Sc.nd (te_op or_add (om_add true) (te_var 0) (te_lst false (ta_cons (te_str) (ta_cons (te_str) (ta_cons (te_str) (ta_cons (te_str) (ta_cons (te_str) (ta_cons (te_str) (ta_nil)))))))))) (ts_cons (ts_set 0 Sc.nd (te_op or_add (om_add true) (te_var 0) (te_lst false (ta_cons (te_str) (ta_cons (te_str) (ta_cons (te_str) (ta_cons (te_str) (ta_cons (te_str) (ta_cons (te_str) (ta_cons (te_str) (ta_cons (te_str) (ta_nil)))))))))))) (ts_cons (ts_expr (te_bm rfl PySem.F.plainAttrs_list PySem.F.slot_list_append PySem.F.type_list_append mt_append (mm_append) (te_var 0) (ta_cons (te_str) (ta_nil)))) (ts_cons (ts_for (passes_of rfl) rfl (tf_any rfl (te_tup (ta_cons (te_int) (ta_cons (te_int) (ta_nil))))) (pgm_name 1 Sc.nd) (ts_cons (ts_set 0 Sc.nd (te_op or_add (om_add true) (te_var 0) (te_lst false (ta_cons (te_op or_add (om_add false) (te_str) (te_op or_mulS (om_mulS) (te_str) (te_var 1))) (ta_cons (te_op or_add (om_add false) (te_str) (te_op or_mulS (om_mulS) (te_str) (te_var 1))) (ta_cons (te_op or_add (om_add false) (te_str) (te_op or_mulS (om_mulS) (te_str) (te_var 1))) (ta_nil))))))) (ts_one (ts_set 0 Sc.nd (te_op or_add (om_add true) (te_var 0) (te_lst false (ta_cons (te_op or_add (om_add false) (te_str) (te_op or_mulS (om_mulS) (te_str) (te_var 1))) (ta_cons (te_op or_add (om_add false) (te_str) (te_op or_mulS (om_mulS) (te_str) (te_var 1))) (ta_nil))))))))) (ts_one (ts_ret (te_var 0)))))))))))))))) (fun _ _ _ _ _ _ us hl => match us, hl with | [], _ => rfl)
theorem tab_is_row_check (cc : Ct K mg) (tb : TB K mg base) {X : Cx} (h1 : X.prog = PR := by rfl) (h2 : X.w = w := by rfl) (h3 : X.mg = mg := by rfl) (h4 : X.base = base := by rfl) : Tab2 X (gOf K) 1 1 tF_is_row_check tL_is_row_check := by
  refine ⟨fun i m h => ?_, fun i m h => ?_⟩ <;> rw [h1, h2, h3, h4]
  · unfold tF_is_row_check at h
    split at h
    · cases h; exact (ok_is_integer cc tb).mono (by decide)
    · cases h
  · unfold tL_is_row_check at h
    split at h
    · cases h
theorem sc_is_row : FnScope ["thing", "checks", "check", "item"] ["thing", "checks"] (defScope (top 17)) := ⟨rfl, rfl, rfl, by decide +kernel, rfl, by decide +kernel, by decide +kernel⟩
theorem ok_is_row (cc : Ct K mg) (tb : TB K mg base) : Fn PR w mg base (gOf K) 2 (He.fAd K ("is_row", none)) 2 [] F_is_row := by
  obtain ⟨fd, Fu⟩ := cc.def_ 3 rfl
  have Sc := sc_is_row
  exact fn_mk (g := gOf K) (N := ["thing", "checks", "check", "item"]) (ps := ["thing", "checks"]) Fu Sc (fun cdv A outer s H E hr tk =>
    ts_cons (ts_if (PW.pt (tt_or (tt_not (tt_tru rfl (te_callB call_isi cm_isi (by rfl) cc.f_isinstance (by decide +kernel) (ta_cons (te_var 0) (ta_cons (te_ty (by rfl) cc.f_tuple (by decide +kernel)) (ta_nil)))))) (tt_or1 (tt_cmp (or_neS hr) (om_neS) (te_callB call_len cm_len (by rfl) cc.f_len (by decide +kernel) (ta_cons (te_var 0) (ta_nil))) (te_callB call_len cm_len (by rfl) cc.f_len (by decide +kernel) (ta_cons (te_var 1) (ta_nil))))))) (ts_one (ts_ret (te_bl))) (ts_nil)) (ts_one (ts_ret (te_callB (cr_all rfl) cm_all (by rfl) cc.f_all (by decide +kernel) (ta_cons (te_lc false (own := [("check", 2), ("item", 3)]) rfl Sc.nd (tf_zip rfl (by rfl) cc.f_zip (ta_cons (te_var 1) (ta_cons (te_var 0) (ta_nil)))) (blkOk_by (N := ["thing", "checks", "check", "item"]) (sc := defScope (top 17)) (own := [("check", 2), ("item", 3)]) (by decide +kernel)) rfl (fun _ _ _ _ _ => pgc_tup (n := 2) rfl rfl (pnc_cons 2 Sc.nd (pnc_cons 3 Sc.nd (pnc_nil)))) (fun _ _ _ _ _ => tts_nil) (fun _ _ _ _ _ => te_callW rfl (tab_is_row_check cc tb) (hr.mono (by decide)) takes0 (ta_cons (te_var 3) (ta_nil)))) (ta_nil)))))) (fun _ _ _ _ _ _ us hl => match us, hl with | [_, _], _ => rfl)
theorem sc_integer_or_none : FnScope ["word", "found"] ["word"] (defScope (top 23)) := ⟨rfl, rfl, rfl, by decide +kernel, rfl, by decide +kernel, by decide +kernel⟩
theorem ok_integer_or_none (cc : Ct K mg) (tb : TB K mg base) : Fn PR w mg base (gOf K) 2 (He.fAd K ("integer_or_none", none)) 1 [] F_integer_or_none := by
  obtain ⟨fd, Fu⟩ := cc.def_ 6 rfl
  have Sc := sc_integer_or_none
  exact fn_mk (g := gOf K) (N := ["word", "found"]) (ps := ["word"]) Fu Sc (fun cdv A outer s H E hr tk =>
    ts_cons (ts_if (tt_cmp (or_neS hr) (om_neS) (te_sl false rfl (te_var 0) (to_none) (to_some (te_int))) (te_str)) (ts_one (ts_ret (te_call rfl (ok_number_or_none cc tb) (hr.mono (by decide)) tk (by rfl) cc.g_number_or_none (ta_cons (te_var 0) (ta_nil))))) (ts_nil)) (ts_cons (ts_set 1 Sc.nd (te_call rfl (ok_number_or_none cc tb) (hr.mono (by decide)) tk (by rfl) cc.g_number_or_none (ta_cons (te_sl false rfl (te_var 0) (to_some (te_int)) (to_none)) (ta_nil)))) (ts_one (ts_ret (te_if (PW.pt (tt_or (tt_cmp (op_isN) (om_isN) (te_var 1) (te_non)) (tt_or1 (tt_cmp (or_eqS hr) (om_eqS) (te_var 1) (te_int))))) (te_non) (te_un un_neg um_neg (te_var 1))))))) (fun _ _ _ _ _ _ us hl => match us, hl with | [_], _ => rfl)
theorem sc_group_or_none : FnScope ["word", "names", "name"] ["word"] (defScope (top 38)) := ⟨rfl, rfl, rfl, by decide +kernel, rfl, by decide +kernel, by decide +kernel⟩
theorem ok_group_or_none (cc : Ct K mg) (tb : TB K mg base) : Fn PR w mg base (gOf K) 2 (He.fAd K ("group_or_none", none)) 1 [] F_group_or_none := by
  obtain ⟨fd, Fu⟩ := cc.def_ 16 rfl
  have Sc := sc_group_or_none
  exact fn_mk (g := gOf K) (N := ["word", "names", "name"]) (ps := ["word"]) Fu Sc (fun cdv A outer s H E hr tk =>
    ts_cons (ts_set 1 Sc.nd (te_callTy call_tuple_of cm_tup (by rfl) cc.f_tuple (by decide +kernel) (ta_cons (te_bm rfl PySem.F.plainAttrs_str PySem.F.slot_str_split PySem.F.type_str_split mt_split (mm_split false) (te_var 0) (ta_cons (te_str) (ta_nil))) (ta_nil)))) (ts_one (ts_ret (te_if (tt_tru rfl (te_callB (cr_all rfl) cm_all (by rfl) cc.f_all (by decide +kernel) (ta_cons (te_lc false (own := [("name", 2)]) rfl Sc.nd (tf_any rfl (te_var 1)) (blkOk_by (N := ["word", "names", "name"]) (sc := defScope (top 38)) (own := [("name", 2)]) (by decide +kernel)) rfl (fun _ _ _ _ _ => pgc_name 2 Sc.nd) (fun _ _ _ _ _ => tts_nil) (fun _ _ _ _ _ => te_call rfl (ok_is_name cc tb) (hr.mono (by decide)) takes0 (by rfl) cc.g_is_name (ta_cons (te_var 2) (ta_nil)))) (ta_nil)))) (te_var 1) (te_non))))) (fun _ _ _ _ _ _ us hl => match us, hl with | [_], _ => rfl)
theorem sc_cents_or_none : FnScope ["word", "found", "part"] ["word"] (defScope (top 39)) := ⟨rfl, rfl, rfl, by decide +kernel, rfl, by decide +kernel, by decide +kernel⟩
theorem ok_cents_or_none (cc : Ct K mg) (tb : TB K mg base) : Fn PR w mg base (gOf K) 2 (He.fAd K ("cents_or_none", none)) 1 [] F_cents_or_none := by
  obtain ⟨fd, Fu⟩ := cc.def_ 17 rfl
  have Sc := sc_cents_or_none
  exact fn_mk (g := gOf K) (N := ["word", "found", "part"]) (ps := ["word"]) Fu Sc (fun cdv A outer s H E hr tk =>
    ts_cons (ts_set 1 Sc.nd (te_if (tt_cmp (or_neS hr) (om_neS) (te_var 0) (te_gsE (by rfl) cc.k_NOTHING)) (te_callTy call_tuple_of cm_tup (by rfl) cc.f_tuple (by decide +kernel) (ta_cons (te_lc false (own := [("part", 2)]) rfl Sc.nd (tf_any rfl (te_bm rfl PySem.F.plainAttrs_str PySem.F.slot_str_split PySem.F.type_str_split mt_split (mm_split false) (te_var 0) (ta_cons (te_str) (ta_nil)))) (blkOk_by (N := ["word", "found", "part"]) (sc := defScope (top 39)) (own := [("part", 2)]) (by decide +kernel)) rfl (fun _ _ _ _ _ => pgc_name 2 Sc.nd) (fun _ _ _ _ _ => tts_nil) (fun _ _ _ _ _ => te_call rfl (ok_number_or_none cc tb) (hr.mono (by decide)) takes0 (by rfl) cc.g_number_or_none (ta_cons (te_var 2) (ta_nil)))) (ta_nil))) (te_tup (ta_nil)))) (ts_one (ts_ret (te_if (tt_cmp (or_in) (om_in false) (te_non) (te_var 1)) (te_non) (te_var 1))))) (fun _ _ _ _ _ _ us hl => match us, hl with | [_], _ => rfl)
theorem sc__law_charge : FnScope ["_law_source_here", "_law_some"] ["_law_source_here"] (defScope (top 51)) := ⟨rfl, rfl, rfl, by decide +kernel, rfl, by decide +kernel, by decide +kernel⟩
theorem ok__law_charge (cc : Ct K mg) (tb : TB K mg base) : Fn PR w mg base (gOf K) 2 (He.fAd K ("_law_charge", none)) 1 [] F__law_charge := by
  obtain ⟨fd, Fu⟩ := cc.def_ 32 rfl
  have Sc := sc__law_charge
  exact fn_mk (g := gOf K) (N := ["_law_source_here", "_law_some"]) (ps := ["_law_source_here"]) Fu Sc (fun cdv A outer s H E hr tk =>
    ts_cons (ts_set 1 Sc.nd (te_lst false (ta_cons (te_tup (ta_cons (te_int) (ta_cons (te_int) (ta_nil)))) (ta_cons (te_tup (ta_cons (te_int) (ta_cons (te_int) (ta_nil)))) (ta_cons (te_tup (ta_cons (te_int) (ta_cons (te_int) (ta_nil)))) (ta_cons (te_tup (ta_cons (te_int) (ta_cons (te_int) (ta_nil)))) (ta_cons (te_tup (ta_cons (te_int) (ta_cons (te_int) (ta_nil)))) (ta_cons (te_tup (ta_cons (te_int) (ta_cons (te_int) (ta_nil)))) (ta_cons (te_tup (ta_cons (te_int) (ta_cons (te_int) (ta_nil)))) (ta_cons (te_tup (ta_cons (te_int) (ta_cons (te_int) (ta_nil)))) (ta_cons (te_tup (ta_cons (te_int) (ta_cons (te_int) (ta_nil)))) (ta_cons (te_tup (ta_cons (te_int) (ta_cons (te_int) (ta_nil)))) (ta_cons (te_tup (ta_cons (te_int) (ta_cons (te_int) (ta_nil)))) (ta_cons (te_tup (ta_cons (te_int) (ta_cons (te_int) (ta_nil)))) (ta_nil))))))))))))))) (ts_one (ts_ret (te_ix or_ix om_ix (te_var 1) (te_call rfl (ok__law_draw cc tb) (hr.mono (by decide)) tk (by rfl) cc.g__law_draw (ta_cons (te_var 0) (ta_cons (te_int) (ta_nil)))))))) (fun _ _ _ _ _ _ us hl => match us, hl with | [_], _ => rfl)
theorem sc__law_row : FnScope ["_law_deed", "_law_word", "_law_inner", "_law_words", "_law_one", "_law_group", "_law_pair"] ["_law_deed"] (defScope (top 53)) := ⟨rfl, rfl, rfl, by decide +kernel, rfl, by decide +kernel, by decide +kernel⟩
theorem ok__law_row (cc : Ct K mg) (tb : TB K mg base) : Fn PR w mg base (gOf K) 2 (He.fAd K ("_law_row", none)) 1 [] F__law_row := by
  obtain ⟨fd, Fu⟩ := cc.def_ 34 rfl
  have Sc := sc__law_row
  exact fn_mk (g := gOf K) (N := ["_law_deed", "_law_word", "_law_inner", "_law_words", "_law_one", "_law_group", "_law_pair"]) (ps := ["_law_deed"]) Fu Sc (fun cdv A outer s H E hr tk =>
    ts_cons (ts_par 1 2 rfl Sc.nd rfl rfl (by decide) rfl rfl (ta_cons (te_ix or_ix om_ix (te_var 0) (te_int)) (ta_cons (te_ix or_ix om_ix (te_var 0) (te_un un_neg um_neg (te_int))) (ta_nil))) rfl) (ts_cons (ts_if (tt_cmp (or_in) (om_in false) (te_var 1) (te_tup (ta_cons (te_str) (ta_cons (te_str) (ta_cons (te_str) (ta_nil)))))) (ts_one (ts_ret (te_bm rfl PySem.F.plainAttrs_str PySem.F.slot_str_join PySem.F.type_str_join mt_join (mm_join) (te_str) (ta_cons (te_var 0) (ta_nil))))) (ts_nil)) (ts_cons (ts_if (tt_cmp (or_eqS hr) (om_eqS) (te_var 1) (te_str)) (ts_one (ts_ret (te_op or_add (om_add false) (te_str) (te_if (tt_cmp (or_neS hr) (om_neS) (te_var 2) (te_tup (ta_nil))) (te_bm rfl PySem.F.plainAttrs_str PySem.F.slot_str_join PySem.F.type_str_join mt_join (mm_join) (te_str) (ta_cons (te_lc false (own := [("_law_one", 4)]) rfl Sc.nd (tf_any rfl (te_var 2)) (blkOk_by (N := ["_law_deed", "_law_word", "_law_inner", "_law_words", "_law_one", "_law_group", "_law_pair"]) (sc := defScope (top 53)) (own := [("_law_one", 4)]) (by decide +kernel)) rfl (fun _ _ _ _ _ => pgc_name 4 Sc.nd) (fun _ _ _ _ _ => tts_nil) (fun _ _ _ _ _ => te_callTy call_str_int cm_strI (by rfl) cc.f_str (by decide +kernel) (ta_cons (te_var 4) (ta_nil)))) (ta_nil))) (te_str))))) (ts_nil)) (ts_cons (ts_if (tt_cmp (or_eqS hr) (om_eqS) (te_var 1) (te_str)) (ts_one (ts_setLc 3 false (own := [("_law_group", 5)]) rfl Sc.nd (tf_any rfl (te_var 2)) (blkOk_by (N := ["_law_deed", "_law_word", "_law_inner", "_law_words", "_law_one", "_law_group", "_law_pair"]) (sc := defScope (top 53)) (own := [("_law_group", 5)]) (by decide +kernel)) rfl (fun _ _ _ _ _ => pgc_name 5 Sc.nd) (fun _ _ _ _ _ => tts_nil) (fun _ _ _ _ _ => te_bm rfl PySem.F.plainAttrs_str PySem.F.slot_str_join PySem.F.type_str_join mt_join (mm_join) (te_str) (ta_cons (te_var 5) (ta_nil))))) (ts_one (ts_if (tt_cmp (or_eqS hr) (om_eqS) (te_var 1) (te_str)) (ts_one (ts_setLc 3 false (own := [("_law_pair", 6)]) rfl Sc.nd (tf_any rfl (te_var 2)) (blkOk_by (N := ["_law_deed", "_law_word", "_law_inner", "_law_words", "_law_one", "_law_group", "_law_pair"]) (sc := defScope (top 53)) (own := [("_law_pair", 6)]) (by decide +kernel)) rfl (fun _ _ _ _ _ => pgc_name 6 Sc.nd) (fun _ _ _ _ _ => tts_nil) (fun _ _ _ _ _ => te_op or_add (om_add false) (te_op or_add (om_add false) (te_ix or_ix om_ix (te_var 6) (te_int)) (te_str)) (te_call rfl (ok__law_frac_word cc tb) (hr.mono (by decide)) takes0 (by rfl) cc.g__law_frac_word (ta_cons (te_ix or_ix om_ix (te_var 6) (te_int)) (ta_nil)))))) (ts_one (ts_setLc 3 false (own := [("_law_pair", 6)]) rfl Sc.nd (tf_any rfl (te_var 2)) (blkOk_by (N := ["_law_deed", "_law_word", "_law_inner", "_law_words", "_law_one", "_law_group", "_law_pair"]) (sc := defScope (top 53)) (own := [("_law_pair", 6)]) (by decide +kernel)) rfl (fun _ _ _ _ _ => pgc_name 6 Sc.nd) (fun _ _ _ _ _ => tts_nil) (fun _ _ _ _ _ => te_op or_add (om_add false) (te_op or_add (om_add false) (te_ix or_ix om_ix (te_var 6) (te_int)) (te_str)) (te_callTy call_str_int cm_strI (by rfl) cc.f_str (by decide +kernel) (ta_cons (te_ix or_ix om_ix (te_var 6) (te_int)) (ta_nil))))))))) (ts_one (ts_ret (te_bm rfl PySem.F.plainAttrs_str PySem.F.slot_str_join PySem.F.type_str_join mt_join (mm_join) (te_str) (ta_cons (te_op or_add (om_add false) (te_lst false (ta_cons (te_var 1) (ta_nil))) (te_if (tt_cmp (or_neS hr) (om_neS) (te_var 3) (te_lst false (ta_nil))) (te_var 3) (te_lst false (ta_cons (te_str) (ta_nil))))) (ta_nil))))))))) (fun _ _ _ _ _ _ us hl => match us, hl with | [_], _ => rfl)
theorem sc__law_whole_in : FnScope ["_law_word", "_law_found"] ["_law_word"] (defScope (top 55)) := ⟨rfl, rfl, rfl, by decide +kernel, rfl, by decide +kernel, by decide +kernel⟩
theorem ok__law_whole_in (cc : Ct K mg) (tb : TB K mg base) : Fn PR w mg base (gOf K) 2 (He.fAd K ("_law_whole_in", none)) 1 [] F__law_whole_in := by
  obtain ⟨fd, Fu⟩ := cc.def_ 36 rfl
  have Sc := sc__law_whole_in
  exact fn_mk (g := gOf K) (N := ["_law_word", "_law_found"]) (ps := ["_law_word"]) Fu Sc (fun cdv A outer s H E hr tk =>
    ts_cons (ts_if (tt_cmp (or_neS hr) (om_neS) (te_sl false rfl (te_var 0) (to_none) (to_some (te_int))) (te_str)) (ts_one (ts_ret (te_call rfl (ok__law_number_in cc tb) (hr.mono (by decide)) tk (by rfl) cc.g__law_number_in (ta_cons (te_var 0) (ta_nil))))) (ts_nil)) (ts_cons (ts_set 1 Sc.nd (te_call rfl (ok__law_number_in cc tb) (hr.mono (by decide)) tk (by rfl) cc.g__law_number_in (ta_cons (te_sl false rfl (te_var 0) (to_some (te_int)) (to_none)) (ta_nil)))) (ts_one (ts_ret (te_if (PW.pt (tt_or (tt_cmp (op_isN) (om_isN) (te_var 1) (te_non)) (tt_or1 (tt_cmp (or_eqS hr) (om_eqS) (te_var 1) (te_int))))) (te_non) (te_op op_sub (om_sub) (te_int) (te_var 1))))))) (fun _ _ _ _ _ _ us hl => match us, hl with | [_], _ => rfl)
theorem sc__law_frac_in : FnScope ["_law_word", "_law_halves", "_law_some", "_law_half"] ["_law_word"] (defScope (top 56)) := ⟨rfl, rfl, rfl, by decide +kernel, rfl, by decide +kernel, by decide +kernel⟩
theorem ok__law_frac_in (cc : Ct K mg) (tb : TB K mg base) : Fn PR w mg base (gOf K) 2 (He.fAd K ("_law_frac_in", none)) 1 [] F__law_frac_in := by
  obtain ⟨fd, Fu⟩ := cc.def_ 37 rfl
  have Sc := sc__law_frac_in
  exact fn_mk (g := gOf K) (N := ["_law_word", "_law_halves", "_law_some", "_law_half"]) (ps := ["_law_word"]) Fu Sc (fun cdv A outer s H E hr tk =>
    ts_cons (ts_set 1 Sc.nd (te_bm rfl PySem.F.plainAttrs_str PySem.F.slot_str_split PySem.F.type_str_split mt_split (mm_split false) (te_var 0) (ta_cons (te_str) (ta_nil)))) (ts_cons (ts_setLc 2 false (own := [("_law_half", 3)]) rfl Sc.nd (tf_any rfl (te_var 1)) (blkOk_by (N := ["_law_word", "_law_halves", "_law_some", "_law_half"]) (sc := defScope (top 56)) (own := [("_law_half", 3)]) (by decide +kernel)) rfl (fun _ _ _ _ _ => pgc_name 3 Sc.nd) (fun _ _ _ _ _ => tts_nil) (fun _ _ _ _ _ => te_call rfl (ok__law_number_in cc tb) (hr.mono (by decide)) takes0 (by rfl) cc.g__law_number_in (ta_cons (te_var 3) (ta_nil)))) (ts_cons (ts_if (PW.pt (tt_or (tt_cmp (or_gt) (om_gt) (te_callB call_len cm_len (by rfl) cc.f_len (by decide +kernel) (ta_cons (te_var 2) (ta_nil))) (te_int)) (tt_or1 (tt_cmp (or_in) (om_in false) (te_non) (te_var 2))))) (ts_one (ts_ret (te_non))) (ts_nil)) (ts_cons (ts_if (tt_cmp (or_eqS hr) (om_eqS) (te_callB call_len cm_len (by rfl) cc.f_len (by decide +kernel) (ta_cons (te_var 2) (ta_nil))) (te_int)) (ts_one (ts_ret (te_tup (ta_cons (te_ix or_ix om_ix (te_var 2) (te_int)) (ta_cons (te_int) (ta_nil)))))) (ts_nil)) (ts_one (ts_ret (te_if (PW.pt (tt_and (tt_cmp (or_gt) (om_gt) (te_ix or_ix om_ix (te_var 2) (te_int)) (te_int)) (tt_and1 (tt_cmp (or_eqS hr) (om_eqS) (te_call rfl (ok__law_frac cc tb) (hr.mono (by decide)) tk (by rfl) cc.g__law_frac (ta_cons (te_ix or_ix om_ix (te_var 2) (te_int)) (ta_cons (te_ix or_ix om_ix (te_var 2) (te_int)) (ta_nil)))) (te_tup (ta_cons (te_ix or_ix om_ix (te_var 2) (te_int)) (ta_cons (te_ix or_ix om_ix (te_var 2) (te_int)) (ta_nil)))))))) (te_tup (ta_cons (te_ix or_ix om_ix (te_var 2) (te_int)) (ta_cons (te_ix or_ix om_ix (te_var 2) (te_int)) (ta_nil)))) (te_non)))))))) (fun _ _ _ _ _ _ us hl => match us, hl with | [_], _ => rfl)
theorem sc__law_one_in : FnScope ["_law_sort", "_law_words", "_law_found", "_law_some", "_law_one"] ["_law_sort", "_law_words"] (defScope (top 59)) := ⟨rfl, rfl, rfl, by decide +kernel, rfl, by decide +kernel, by decide +kernel⟩
theorem ok__law_one_in (cc : Ct K mg) (tb : TB K mg base) : Fn PR w mg base (gOf K) 2 (He.fAd K ("_law_one_in", none)) 2 [] F__law_one_in := by
  obtain ⟨fd, Fu⟩ := cc.def_ 40 rfl
  have Sc := sc__law_one_in
  exact fn_mk (g := gOf K) (N := ["_law_sort", "_law_words", "_law_found", "_law_some", "_law_one"]) (ps := ["_law_sort", "_law_words"]) Fu Sc (fun cdv A outer s H E hr tk =>
    ts_cons (ts_if (tt_cmp (or_eqS hr) (om_eqS) (te_var 0) (te_str)) (ts_one (ts_ret (te_if (tt_cmp (or_eqS hr) (om_eqS) (te_var 1) (te_lst false (ta_nil))) (te_tup (ta_cons (te_str) (ta_cons (te_non) (ta_nil)))) (te_tup (ta_cons (te_str) (ta_cons (te_int) (ta_nil))))))) (ts_nil)) (ts_cons (ts_if (tt_cmp (or_eqS hr) (om_eqS) (te_var 1) (te_lst false (ta_nil))) (ts_one (ts_ret (te_tup (ta_cons (te_str) (ta_cons (te_int) (ta_nil)))))) (ts_nil)) (ts_cons (ts_set 2 Sc.nd (te_if (tt_tru rfl (te_call rfl (ok__law_is_name cc tb) (hr.mono (by decide)) tk (by rfl) cc.g__law_is_name (ta_cons (te_ix or_ix om_ix (te_var 1) (te_int)) (ta_nil)))) (te_ix or_ix om_ix (te_var 1) (te_int)) (te_non))) (ts_cons (ts_if (tt_cmp (or_eqS hr) (om_eqS) (te_var 0) (te_str)) (ts_cons (ts_set 3 Sc.nd (te_if (tt_cmp (or_neS hr) (om_neS) (te_ix or_ix om_ix (te_var 1) (te_int)) (te_str)) (te_lc false (own := [("_law_one", 4)]) rfl Sc.nd (tf_any rfl (te_bm rfl PySem.F.plainAttrs_str PySem.F.slot_str_split PySem.F.type_str_split mt_split (mm_split false) (te_ix or_ix om_ix (te_var 1) (te_int)) (ta_cons (te_str) (ta_nil)))) (blkOk_by (N := ["_law_sort", "_law_words", "_law_found", "_law_some", "_law_one"]) (sc := defScope (top 59)) (own := [("_law_one", 4)]) (by decide +kernel)) rfl (fun _ _ _ _ _ => pgc_name 4 Sc.nd) (fun _ _ _ _ _ => tts_nil) (fun _ _ _ _ _ => te_call rfl (ok__law_number_in cc tb) (hr.mono (by decide)) takes0 (by rfl) cc.g__law_number_in (ta_cons (te_var 4) (ta_nil)))) (te_lst false (ta_nil)))) (ts_one (ts_set 2 Sc.nd (te_if (tt_cmp (or_in) (om_in false) (te_non) (te_var 3)) (te_non) (te_callTy call_tuple_of cm_tup (by rfl) cc.f_tuple (by decide +kernel) (ta_cons (te_var 3) (ta_nil))))))) (ts_nil)) (ts_cons (ts_if (tt_cmp (op_isN) (om_isN) (te_var 2) (te_non)) (ts_one (ts_ret (te_tup (ta_cons (te_str) (ta_cons (te_int) (ta_nil)))))) (ts_nil)) (ts_one (ts_ret (te_if (tt_cmp (or_eqS hr) (om_eqS) (te_callB call_len cm_len (by rfl) cc.f_len (by decide +kernel) (ta_cons (te_var 1) (ta_nil))) (te_int)) (te_tup (ta_cons (te_str) (ta_cons (te_var 2) (ta_nil)))) (te_tup (ta_cons (te_str) (ta_cons (te_int) (ta_nil)))))))))))) (fun _ _ _ _ _ _ us hl => match us, hl with | [_, _], _ => rfl)
theorem sc__law_bent_row : FnScope ["_law_source_here", "_law_page", "_law_words", "_law_chars", "_law_at", "_law_spot", "_law_some", "_law_word", "_law_char", "_law_lots"] ["_law_source_here", "_law_page"] (defScope (top 63)) := ⟨rfl, rfl, rfl, by decide +kernel, rfl, by decide +kernel, by decide +kernel⟩
theorem ok__law_bent_row (cc : Ct K mg) (tb : TB K mg base) : Fn PR w mg base (gOf K) 2 (He.fAd K ("_law_bent_row", none)) 2 [] F__law_bent_row := by
  obtain ⟨fd, Fu⟩ := cc.def_ 44 rfl
  have Sc := sc__law_bent_row
  exact fn_mk (g := gOf K) (N := ["_law_source_here", "_law_page", "_law_words", "_law_chars", "_law_at", "_law_spot", "_law_some", "_law_word", "_law_char", "_law_lots"]) (ps := ["_law_source_here", "_law_page"]) Fu Sc (fun cdv A outer s H E hr tk =>
    ts_cons (ts_par 2 3 rfl Sc.nd rfl rfl (by decide) rfl rfl (ta_cons (te_bm rfl PySem.F.plainAttrs_str PySem.F.slot_str_split PySem.F.type_str_split mt_split (mm_split false) (te_var 1) (ta_cons (te_str) (ta_nil))) (ta_cons (te_str) (ta_nil))) rfl) (ts_cons (ts_par 4 5 rfl Sc.nd rfl rfl (by decide) rfl rfl (ta_cons (te_call rfl (ok__law_draw cc tb) (hr.mono (by decide)) tk (by rfl) cc.g__law_draw (ta_cons (te_var 0) (ta_cons (te_callB call_len cm_len (by rfl) cc.f_len (by decide +kernel) (ta_cons (te_var 2) (ta_nil))) (ta_nil)))) (ta_cons (te_call rfl (ok__law_draw cc tb) (hr.mono (by decide)) tk (by rfl) cc.g__law_draw (ta_cons (te_var 0) (ta_cons (te_op or_add (om_add false) (te_callB call_len cm_len (by rfl) cc.f_len (by decide +kernel) (ta_cons (te_var 1) (ta_nil))) (te_int)) (ta_nil)))) (ta_nil))) rfl) (ts_cons (ts_set 6 Sc.nd (te_lst false (ta_cons (te_str) (ta_cons (te_str) (ta_cons (te_str) (ta_cons (te_str) (ta_cons (te_str) (ta_cons (te_str) (ta_cons (te_str) (ta_cons (te_str) (ta_cons (te_str) (ta_cons (te_str) (ta_cons (te_str) (ta_cons (te_str) (ta_cons (te_str) (ta_cons (te_str) (ta_nil))))))))))))))))) (ts_cons (ts_par 7 8 rfl Sc.nd rfl rfl (by decide) rfl rfl (ta_cons (te_ix or_ix om_ix (te_var 6) (te_call rfl (ok__law_draw cc tb) (hr.mono (by decide)) tk (by rfl) cc.g__law_draw (ta_cons (te_var 0) (ta_cons (te_int) (ta_nil))))) (ta_cons (te_ix or_ix om_ix (te_var 3) (te_call rfl (ok__law_draw cc tb) (hr.mono (by decide)) tk (by rfl) cc.g__law_draw (ta_cons (te_var 0) (ta_cons (te_int) (ta_nil))))) (ta_nil))) rfl) (ts_cons (ts_set 9 Sc.nd (te_lst false (ta_cons (te_bm rfl PySem.F.plainAttrs_str PySem.F.slot_str_join PySem.F.type_str_join mt_join (mm_join) (te_str) (ta_cons (te_op or_add (om_add false) (te_sl false rfl (te_var 2) (to_none) (to_some (te_var 4))) (te_sl false rfl (te_var 2) (to_some (te_op or_add (om_add false) (te_var 4) (te_int))) (to_none))) (ta_nil))) (ta_cons (te_bm rfl PySem.F.plainAttrs_str PySem.F.slot_str_join PySem.F.type_str_join mt_join (mm_join) (te_str) (ta_cons (te_op or_add (om_add false) (te_sl false rfl (te_var 2) (to_none) (to_some (te_op or_add (om_add false) (te_var 4) (te_int)))) (te_sl false rfl (te_var 2) (to_some (te_var 4)) (to_none))) (ta_nil))) (ta_nil))))) (ts_cons (ts_set 9 Sc.nd (te_op or_add (om_add false) (te_var 9) (te_lst false (ta_cons (te_bm rfl PySem.F.plainAttrs_str PySem.F.slot_str_join PySem.F.type_str_join mt_join (mm_join) (te_str) (ta_cons (te_op or_add (om_add false) (te_op or_add (om_add false) (te_sl false rfl (te_var 2) (to_none) (to_some (te_var 4))) (te_lst false (ta_cons (te_var 7) (ta_nil)))) (te_sl false rfl (te_var 2) (to_some (te_op or_add (om_add false) (te_var 4) (te_int))) (to_none))) (ta_nil))) (ta_cons (te_bm rfl PySem.F.plainAttrs_str PySem.F.slot_str_join PySem.F.type_str_join mt_join (mm_join) (te_str) (ta_cons (te_op or_add (om_add false) (te_op or_add (om_add false) (te_sl false rfl (te_var 2) (to_none) (to_some (te_var 4))) (te_lst false (ta_cons (te_var 7) (ta_nil)))) (te_sl false rfl (te_var 2) (to_some (te_var 4)) (to_none))) (ta_nil))) (ta_nil)))))) (ts_cons (ts_set 9 Sc.nd (te_op or_add (om_add false) (te_var 9) (te_lst false (ta_cons (te_op or_add (om_add false) (te_op or_add (om_add false) (te_sl false rfl (te_var 1) (to_none) (to_some (te_var 5))) (te_var 8)) (te_sl false rfl (te_var 1) (to_some (te_var 5)) (to_none))) (ta_cons (te_op or_add (om_add false) (te_sl false rfl (te_var 1) (to_none) (to_some (te_var 5))) (te_sl false rfl (te_var 1) (to_some (te_op or_add (om_add false) (te_var 5) (te_int))) (to_none))) (ta_nil)))))) (ts_one (ts_ret (te_ix or_ix om_ix (te_op or_add (om_add false) (te_var 9) (te_lst false (ta_cons (te_op or_add (om_add false) (te_op or_add (om_add false) (te_sl false rfl (te_var 1) (to_none) (to_some (te_var 5))) (te_var 8)) (te_sl false rfl (te_var 1) (to_some (te_op or_add (om_add false) (te_var 5) (te_int))) (to_none))) (ta_nil)))) (te_call rfl (ok__law_draw cc tb) (hr.mono (by decide)) tk (by rfl) cc.g__law_draw (ta_cons (te_var 0) (ta_cons (te_int) (ta_nil)))))))))))))) (fun _ _ _ _ _ _ us hl => match us, hl with | [_, _], _ => rfl)
theorem sc__law_said : FnScope ["_law_ask", "_law_found", "_law_e"] ["_law_ask"] (defScope (top 49)) := ⟨rfl, rfl, rfl, by decide +kernel, rfl, by decide +kernel, by decide +kernel⟩
theorem fu__law_said (cc : Ct K mg) : ∃ fd, FunD K "_law_said" "_law_said" (defArgs (top 49)) (defBody (top 49)) (defScope (top 49)) [] [] (He.fAd K ("_law_said", none)) fd := cc.def_ 47 rfl
theorem b__law_said (cc : Ct K mg) (tb : TB K mg base) {q : Str} {cdg : Value} {A : Around} {outer : List PySem.Env} {s : Shared} {H : Hp} {f c : Addr} {ds : List D} {vs : List L2.V} {ask : PH → Res D} (hr : Room 2 (A.deeper (PyProof.Rows.envOfC "_law_said" (defScope (top 49)) s.heap.objs.size (He.fAd K ("_law_said", none)) cdg)))
    (act : ∀ (W : WX) (pn : List (Addr × Obj)) (xe : Value → Shared → Prop) (p1 p2 : Pos), Takes ((cxOf C8.CX0 PR w K mg base ["_law_ask", "_law_found", "_law_e"] "_law_said" (defScope (top 49)) (He.fAd K ("_law_said", none)) cdg A outer s H C8.E0).tr pn xe) W → PE ((cxOf C8.CX0 PR w K mg base ["_law_ask", "_law_found", "_law_e"] "_law_said" (defScope (top 49)) (He.fAd K ("_law_said", none)) cdg A outer s H C8.E0).tr pn xe) (.Call (.Name "_law_ask" p1) [] [] p2) (T (gOf K) W (mAsk 0 f c q ds vs ask))) :
    PSs (cxOf C8.CX0 PR w K mg base ["_law_ask", "_law_found", "_law_e"] "_law_said" (defScope (top 49)) (He.fAd K ("_law_said", none)) cdg A outer s H C8.E0).nox (defBody (top 49)) (TM (gOf K) (fun _ _ _ _ => False) (m__law_said q f c ds vs ask)) := by
  have Sc := sc__law_said
  have tk := @L2.takes0
  exact ts_cons (ts_set 1 Sc.nd (te_non)) (ts_cons (ts_try (cau := cau_CentError) 2 1 rfl rfl rfl rfl Sc.nd ⟨by rfl, by decide, .inl cc.g_CentError⟩ tk cc.cau_CentError (fun W2 pn xe tk2 pp => ts_one (ts_ret (te_tup (ta_cons (te_str) (ta_cons (act _ _ _ _ _ tk2) (ta_nil))))))) (ts_one (ts_ret (te_call rfl (ok__law_error cc tb) (hr.mono (by decide)) tk (by rfl) cc.g__law_error (ta_cons (te_var 1) (ta_nil))))))
theorem hR__law_said (q : Str) (f c : Addr) (ds : List D) (vs : List L2.V) (ask : PH → Res D) (π : PH) : runB 3 (m__law_said q f c ds vs ask) [.clo f c q ds vs] π = R__law_said ask π := by
  have e1 : mAsk 0 f c q ds vs ask [some (.clo f c q ds vs), some .non, none] π = ask π := mAsk_of rfl
  have e2 : mAsk 0 0 0 "" [] [] ask [some (.clo 0 0 "" [] []), some .non, none] π = ask π := mAsk_of rfl
  unfold R__law_said runB m__law_said
  simp only [sThen, sSet, sTry, sRet, mC, mTup, mArgs, mCons, mNil, mVar, Res.sb, Res.bind, SRes.then_, List.map, List.length, List.replicate, List.append, List.set, List.cons_append, List.nil_append, Nat.reduceSub, Nat.reduceAdd, e1, e2]
  cases ask π with
  | ok d π' =>
    simp only [Res.bind, Res.sb, SRes.then_, when_]
    cases fitsB 2 <;> rfl
  | stuck => rfl
  | exc x π' =>
    simp only [Res.bind, Res.sb, SRes.then_]
    cases cau_CentError x.c with
    | none => rfl
    | some b =>
      cases b with
      | false => rfl
      | true =>
        simp only [sRet, mArgs, mCons, mVar, mNil, Res.bind, Res.sb, List.set, List.getElem?_cons_succ, List.getElem?_cons_zero]
        generalize fCall 1 [] F__law_error [.exv x.c x.fs] π' = r
        cases r <;> rfl
theorem sc_lam0 : FnScope ["word"] ["word"] (lamTab 0).scope := ⟨rfl, rfl, rfl, by decide +kernel, rfl, by decide +kernel, by decide +kernel⟩
theorem ok_lam0 (cc : Ct K mg) (tb : TB K mg base) : Lam PR w mg base (gOf K) 2 0 1 F_lam0 := by
  have Sc := sc_lam0
  exact lam_mk (g := gOf K) (i := 0) (N := ["word"]) (ps := ["word"]) Sc (fun cdv f A outer s H E hr tk =>
    te_if (tt_tru rfl (te_call rfl (ok_is_name cc tb) (hr.mono (by decide)) tk (by rfl) cc.g_is_name (ta_cons (te_var 0) (ta_nil)))) (te_var 0) (te_non)) (fun _ _ _ us hl => match us, hl with | [_], _ => rfl)
theorem sc_is_fraction : FnScope ["thing", "over", "under"] ["thing"] (defScope (top 18)) := ⟨rfl, rfl, rfl, by decide +kernel, rfl, by decide +kernel, by decide +kernel⟩
theorem ok_is_fraction (cc : Ct K mg) (tb : TB K mg base) : Fn PR w mg base (gOf K) 3 (He.fAd K ("is_fraction", none)) 1 [] F_is_fraction := by
  obtain ⟨fd, Fu⟩ := cc.def_ 4 rfl
  have Sc := sc_is_fraction
  exact fn_mk (g := gOf K) (N := ["thing", "over", "under"]) (ps := ["thing"]) Fu Sc (fun cdv A outer s H E hr tk =>
    ts_cons (ts_if (tt_not (tt_tru rfl (te_call rfl (ok_is_row cc tb) (hr.mono (by decide)) tk (by rfl) cc.g_is_row (ta_cons (te_var 0) (ta_cons (te_tup (ta_cons (te_gf (g := gOf K) (k := 0) (by rfl) cc.g_is_integer) (ta_cons (te_gf (g := gOf K) (k := 0) (by rfl) cc.g_is_integer) (ta_nil)))) (ta_nil)))))) (ts_one (ts_ret (te_bl))) (ts_nil)) (ts_cons (ts_unp rfl rfl (te_var 0) (pns_cons 1 Sc.nd (pns_cons 2 Sc.nd (pns_nil)))) (ts_one (ts_ret (te_andV rfl (te_cmp (or_gt) (om_gt) (te_var 2) (te_int)) (te_one (te_cmp (or_eqS hr) (om_eqS) (te_call rfl (ok_common_divisor cc tb) (hr.mono (by decide)) tk (by rfl) cc.g_common_divisor (ta_cons (te_var 1) (ta_cons (te_var 2) (ta_nil)))) (te_int)))))))) (fun _ _ _ _ _ _ us hl => match us, hl with | [_], _ => rfl)
theorem sc_change_or_none : FnScope ["word", "found"] ["word"] (defScope (top 36)) := ⟨rfl, rfl, rfl, by decide +kernel, rfl, by decide +kernel, by decide +kernel⟩
theorem ok_change_or_none (cc : Ct K mg) (tb : TB K mg base) : Fn PR w mg base (gOf K) 3 (He.fAd K ("change_or_none", none)) 1 [] F_change_or_none := by
  obtain ⟨fd, Fu⟩ := cc.def_ 14 rfl
  have Sc := sc_change_or_none
  exact fn_mk (g := gOf K) (N := ["word", "found"]) (ps := ["word"]) Fu Sc (fun cdv A outer s H E hr tk =>
    ts_cons (ts_set 1 Sc.nd (te_call rfl (ok_integer_or_none cc tb) (hr.mono (by decide)) tk (by rfl) cc.g_integer_or_none (ta_cons (te_var 0) (ta_nil)))) (ts_one (ts_ret (te_if (tt_cmp (or_eqS hr) (om_eqS) (te_var 1) (te_int)) (te_non) (te_var 1))))) (fun _ _ _ _ _ _ us hl => match us, hl with | [_], _ => rfl)
theorem tab_StepReader_only_value_of (cc : Ct K mg) (tb : TB K mg base) {X : Cx} (h1 : X.prog = PR := by rfl) (h2 : X.w = w := by rfl) (h3 : X.mg = mg := by rfl) (h4 : X.base = base := by rfl) : Tab2 X (gOf K) 2 1 tF_StepReader_only_value_of tL_StepReader_only_value_of := by
  refine ⟨fun i m h => ?_, fun i m h => ?_⟩ <;> rw [h1, h2, h3, h4]
  · unfold tF_StepReader_only_value_of at h
    split at h
    · cases h; exact (ok_cents_or_none cc tb).mono (by decide)
    · cases h
  · unfold tL_StepReader_only_value_of at h
    split at h
    · cases h; exact (ok_lam0 cc tb).mono (by decide)
    · cases h
theorem sc_StepReader_only : FnScope ["self", "value_of", "value"] ["self", "value_of"] (defScope (mtop 40 2)) := ⟨rfl, rfl, rfl, by decide +kernel, rfl, by decide +kernel, by decide +kernel⟩
theorem ok_StepReader_only (cc : Ct K mg) (tb : TB K mg base) : Fn PR w mg base (gOf K) 3 (He.fAd K ("StepReader", some "only")) 2 [] F_StepReader_only := by
  obtain ⟨fd, Fu⟩ := cc.def_ 20 rfl
  have Sc := sc_StepReader_only
  exact fn_mk (g := gOf K) (N := ["self", "value_of", "value"]) (ps := ["self", "value_of"]) Fu Sc (fun cdv A outer s H E hr tk =>
    ts_cons (ts_set 2 Sc.nd (te_if (tt_cmp (or_gt) (om_gt) (te_callB call_len cm_len (by rfl) cc.f_len (by decide +kernel) (ta_cons (te_fld (c := 10) rfl cc.c_StepReader cc.n_StepReader_words (te_var 0)) (ta_nil))) (te_int)) (te_callW rfl (tab_StepReader_only_value_of cc tb) (hr.mono (by decide)) tk (ta_cons (te_ix or_ix om_ix (te_fld (c := 10) rfl cc.c_StepReader cc.n_StepReader_words (te_var 0)) (te_int)) (ta_nil))) (te_non))) (ts_cons (ts_expr (te_meth (c := 10) rfl cc.c_StepReader cc.m_StepReader_require (ok_StepReader_require cc tb) (hr.mono (by decide)) tk (te_var 0) (ta_cons (te_cmp (op_notN) (om_notN) (te_var 2) (te_non)) (ta_cons (te_int) (ta_nil))))) (ts_cons (ts_expr (te_meth (c := 10) rfl cc.c_StepReader cc.m_StepReader_require (ok_StepReader_require cc tb) (hr.mono (by decide)) tk (te_var 0) (ta_cons (te_cmp (or_eqS hr) (om_eqS) (te_callB call_len cm_len (by rfl) cc.f_len (by decide +kernel) (ta_cons (te_fld (c := 10) rfl cc.c_StepReader cc.n_StepReader_words (te_var 0)) (ta_nil))) (te_int)) (ta_cons (te_int) (ta_nil))))) (ts_one (ts_ret (te_var 2)))))) (fun _ _ _ _ _ _ us hl => match us, hl with | [_, _], _ => rfl)
theorem sc__law_pair_in : FnScope ["_law_word", "_law_sort", "_law_halves", "_law_worth"] ["_law_word", "_law_sort"] (defScope (top 57)) := ⟨rfl, rfl, rfl, by decide +kernel, rfl, by decide +kernel, by decide +kernel⟩
theorem ok__law_pair_in (cc : Ct K mg) (tb : TB K mg base) : Fn PR w mg base (gOf K) 3 (He.fAd K ("_law_pair_in", none)) 2 [] F__law_pair_in := by
  obtain ⟨fd, Fu⟩ := cc.def_ 38 rfl
  have Sc := sc__law_pair_in
  exact fn_mk (g := gOf K) (N := ["_law_word", "_law_sort", "_law_halves", "_law_worth"]) (ps := ["_law_word", "_law_sort"]) Fu Sc (fun cdv A outer s H E hr tk =>
    ts_cons (ts_set 2 Sc.nd (te_bm rfl PySem.F.plainAttrs_str PySem.F.slot_str_split PySem.F.type_str_split mt_split (mm_split false) (te_var 0) (ta_cons (te_str) (ta_nil)))) (ts_cons (ts_if (PW.pt (tt_or (tt_cmp (or_neS hr) (om_neS) (te_callB call_len cm_len (by rfl) cc.f_len (by decide +kernel) (ta_cons (te_var 2) (ta_nil))) (te_int)) (tt_or1 (tt_not (tt_tru rfl (te_call rfl (ok__law_is_name cc tb) (hr.mono (by decide)) tk (by rfl) cc.g__law_is_name (ta_cons (te_ix or_ix om_ix (te_var 2) (te_int)) (ta_nil)))))))) (ts_one (ts_ret (te_non))) (ts_nil)) (ts_cons (ts_set 3 Sc.nd (te_if (tt_cmp (or_eqS hr) (om_eqS) (te_var 1) (te_str)) (te_call rfl (ok__law_frac_in cc tb) (hr.mono (by decide)) tk (by rfl) cc.g__law_frac_in (ta_cons (te_ix or_ix om_ix (te_var 2) (te_int)) (ta_nil))) (te_call rfl (ok__law_whole_in cc tb) (hr.mono (by decide)) tk (by rfl) cc.g__law_whole_in (ta_cons (te_ix or_ix om_ix (te_var 2) (te_int)) (ta_nil))))) (ts_one (ts_ret (te_if (PW.pt (tt_or (tt_cmp (op_isN) (om_isN) (te_var 3) (te_non)) (tt_or1 (tt_cmp (or_eqS hr) (om_eqS) (te_var 3) (te_int))))) (te_non) (te_tup (ta_cons (te_ix or_ix om_ix (te_var 2) (te_int)) (ta_cons (te_var 3) (ta_nil)))))))))) (fun _ _ _ _ _ _ us hl => match us, hl with | [_, _], _ => rfl)
theorem sc__law_steps : FnScope ["_law_source_here", "_law_found", "_law_pool_here", "_law_k", "_law_some", "_law_label"] ["_law_source_here"] (defScope (top 64)) := ⟨rfl, rfl, rfl, by decide +kernel, rfl, by decide +kernel, by decide +kernel⟩
theorem ok__law_steps (cc : Ct K mg) (tb : TB K mg base) : Fn PR w mg base (gOf K) 3 (He.fAd K ("_law_steps", none)) 1 [] F__law_steps := by
  obtain ⟨fd, Fu⟩ := cc.def_ 45 rfl
  have Sc := sc__law_steps
  exact fn_mk (g := gOf K) (N := ["_law_source_here", "_law_found", "_law_pool_here", "_law_k", "_law_some", "_law_label"]) (ps := ["_law_source_here"]) Fu Sc (fun cdv A outer s H E hr tk =>
    ts_cons (ts_par 1 2 rfl Sc.nd rfl rfl (by decide) rfl rfl (ta_cons (te_lst true (ta_nil)) (ta_cons (te_call0 rfl (ok__law_pool cc tb) (hr.mono (by decide)) tk (by rfl) cc.g__law_pool) (ta_nil))) rfl) (ts_cons (ts_for (passes_of rfl) rfl (tf_rng1 (by rfl) cc.f_range (ta_cons (te_int) (ta_nil))) (pgm_name 3 Sc.nd) (ts_cons (ts_set 4 Sc.nd (te_callB cr_sortedS (cm_sortT false) (by rfl) cc.f_sorted (by decide +kernel) (ta_cons (te_sl false rfl (te_op or_add (om_add false) (te_var 2) (te_var 2)) (to_some (te_var 3)) (to_some (te_op or_add (om_add false) (te_op or_add (om_add false) (te_var 3) (te_int)) (te_call rfl (ok__law_draw cc tb) (hr.mono (by decide)) tk (by rfl) cc.g__law_draw (ta_cons (te_var 0) (ta_cons (te_int) (ta_nil))))))) (ta_nil)))) (ts_cons (ts_set 1 Sc.nd (te_op or_add (om_add true) (te_var 1) (te_lst false (ta_cons (te_tup (ta_cons (te_str) (ta_cons (te_ix or_ix om_ix (te_var 2) (te_call rfl (ok__law_draw cc tb) (hr.mono (by decide)) tk (by rfl) cc.g__law_draw (ta_cons (te_var 0) (ta_cons (te_int) (ta_nil))))) (ta_nil)))) (ta_cons (te_tup (ta_cons (te_str) (ta_cons (te_ix or_ix om_ix (te_var 2) (te_call rfl (ok__law_draw cc tb) (hr.mono (by decide)) tk (by rfl) cc.g__law_draw (ta_cons (te_var 0) (ta_cons (te_int) (ta_nil))))) (ta_nil)))) (ta_cons (te_tup (ta_cons (te_str) (ta_nil))) (ta_nil))))))) (ts_cons (ts_expr (te_bm rfl PySem.F.plainAttrs_list PySem.F.slot_list_append PySem.F.type_list_append mt_append (mm_append) (te_var 1) (ta_cons (te_tup (ta_cons (te_str) (ta_cons (te_callTy call_tuple_of cm_tup (by rfl) cc.f_tuple (by decide +kernel) (ta_cons (te_lc false (own := [("_law_label", 5)]) rfl Sc.nd (tf_any rfl (te_var 4)) (blkOk_by (N := ["_law_source_here", "_law_found", "_law_pool_here", "_law_k", "_law_some", "_law_label"]) (sc := defScope (top 64)) (own := [("_law_label", 5)]) (by decide +kernel)) rfl (fun _ _ _ _ _ => pgc_name 5 Sc.nd) (fun _ _ _ _ _ => tts_nil) (fun _ _ _ _ _ => te_tup (ta_cons (te_var 5) (ta_cons (te_call rfl (ok__law_charge cc tb) (hr.mono (by decide)) takes0 (by rfl) cc.g__law_charge (ta_cons (te_var 0) (ta_nil))) (ta_nil))))) (ta_nil))) (ta_nil)))) (ta_nil)))) (ts_cons (ts_expr (te_bm rfl PySem.F.plainAttrs_list PySem.F.slot_list_append PySem.F.type_list_append mt_append (mm_append) (te_var 1) (ta_cons (te_tup (ta_cons (te_str) (ta_cons (te_callTy call_tuple_of cm_tup (by rfl) cc.f_tuple (by decide +kernel) (ta_cons (te_lc false (own := [("_law_label", 5)]) rfl Sc.nd (tf_any rfl (te_var 4)) (blkOk_by (N := ["_law_source_here", "_law_found", "_law_pool_here", "_law_k", "_law_some", "_law_label"]) (sc := defScope (top 64)) (own := [("_law_label", 5)]) (by decide +kernel)) rfl (fun _ _ _ _ _ => pgc_name 5 Sc.nd) (fun _ _ _ _ _ => tts_nil) (fun _ _ _ _ _ => te_tup (ta_cons (te_var 5) (ta_cons (te_ix or_ix om_ix (te_lst false (ta_cons (te_int) (ta_cons (te_un un_neg um_neg (te_int)) (ta_cons (te_int) (ta_cons (te_un un_neg um_neg (te_op op_pow (om_pow) (te_int) (te_int))) (ta_nil)))))) (te_call rfl (ok__law_draw cc tb) (hr.mono (by decide)) takes0 (by rfl) cc.g__law_draw (ta_cons (te_var 0) (ta_cons (te_int) (ta_nil))))) (ta_nil))))) (ta_nil))) (ta_nil)))) (ta_nil)))) (ts_cons (ts_expr (te_bm rfl PySem.F.plainAttrs_list PySem.F.slot_list_append PySem.F.type_list_append mt_append (mm_append) (te_var 1) (ta_cons (te_tup (ta_cons (te_str) (ta_cons (te_callTy call_tuple_of cm_tup (by rfl) cc.f_tuple (by decide +kernel) (ta_cons (te_lc false (own := [("_law_label", 5)]) rfl Sc.nd (tf_any rfl (te_var 4)) (blkOk_by (N := ["_law_source_here", "_law_found", "_law_pool_here", "_law_k", "_law_some", "_law_label"]) (sc := defScope (top 64)) (own := [("_law_label", 5)]) (by decide +kernel)) rfl (fun _ _ _ _ _ => pgc_name 5 Sc.nd) (fun _ _ _ _ _ => tts_nil) (fun _ _ _ _ _ => te_call rfl (ok__law_draw cc tb) (hr.mono (by decide)) takes0 (by rfl) cc.g__law_draw (ta_cons (te_var 0) (ta_cons (te_int) (ta_nil))))) (ta_nil))) (ta_nil)))) (ta_nil)))) (ts_one (ts_expr (te_bm rfl PySem.F.plainAttrs_list PySem.F.slot_list_append PySem.F.type_list_append mt_append (mm_append) (te_var 1) (ta_cons (te_tup (ta_cons (te_str) (ta_cons (te_tup (ta_cons (te_callTy call_tuple_of cm_tup (by rfl) cc.f_tuple (by decide +kernel) (ta_cons (te_var 4) (ta_nil))) (ta_cons (te_tup (ta_cons (te_str) (ta_cons (te_str) (ta_nil)))) (ta_nil)))) (ta_nil)))) (ta_nil))))))))))) (ts_one (ts_ret (te_op or_add (om_add false) (te_var 1) (te_lst false (ta_cons (te_tup (ta_cons (te_str) (ta_cons (te_tup (ta_nil)) (ta_nil)))) (ta_cons (te_tup (ta_cons (te_str) (ta_cons (te_tup (ta_nil)) (ta_nil)))) (ta_cons (te_tup (ta_cons (te_str) (ta_cons (te_tup (ta_nil)) (ta_nil)))) (ta_cons (te_tup (ta_cons (te_str) (ta_cons (te_tup (ta_cons (te_tup (ta_cons (te_str) (ta_cons (te_tup (ta_cons (te_op or_add (om_add false) (te_op op_pow (om_pow) (te_int) (te_int)) (te_int)) (ta_cons (te_op op_pow (om_pow) (te_int) (te_int)) (ta_nil)))) (ta_nil)))) (ta_nil))) (ta_nil)))) (ta_nil))))))))))) (fun _ _ _ _ _ _ us hl => match us, hl with | [_], _ => rfl)
theorem sc_fraction_or_none : FnScope ["word", "first", "slash", "rest", "over", "under", "found"] ["word"] (defScope (top 24)) := ⟨rfl, rfl, rfl, by decide +kernel, rfl, by decide +kernel, by decide +kernel⟩
theorem ok_fraction_or_none (cc : Ct K mg) (tb : TB K mg base) : Fn PR w mg base (gOf K) 4 (He.fAd K ("fraction_or_none", none)) 1 [] F_fraction_or_none := by
  obtain ⟨fd, Fu⟩ := cc.def_ 7 rfl
  have Sc := sc_fraction_or_none
  exact fn_mk (g := gOf K) (N := ["word", "first", "slash", "rest", "over", "under", "found"]) (ps := ["word"]) Fu Sc (fun cdv A outer s H E hr tk =>
    ts_cons (ts_unp rfl rfl (te_bm rfl PySem.F.plainAttrs_str PySem.F.slot_str_partition PySem.F.type_str_partition mt_partition (mm_partition) (te_var 0) (ta_cons (te_str) (ta_nil))) (pns_cons 1 Sc.nd (pns_cons 2 Sc.nd (pns_cons 3 Sc.nd (pns_nil))))) (ts_cons (ts_par 4 5 rfl Sc.nd rfl rfl (by decide) rfl rfl (ta_cons (te_call rfl (ok_integer_or_none cc tb) (hr.mono (by decide)) tk (by rfl) cc.g_integer_or_none (ta_cons (te_var 1) (ta_nil))) (ta_cons (te_if (tt_cmp (or_neS hr) (om_neS) (te_var 2) (te_str)) (te_call rfl (ok_number_or_none cc tb) (hr.mono (by decide)) tk (by rfl) cc.g_number_or_none (ta_cons (te_var 3) (ta_nil))) (te_int)) (ta_nil))) rfl) (ts_cons (ts_if (PW.pt (tt_or (tt_cmp (op_isN) (om_isN) (te_var 4) (te_non)) (tt_or (tt_cmp (op_isN) (om_isN) (te_var 5) (te_non)) (tt_or1 (PW.pt (tt_and (tt_cmp (or_neS hr) (om_neS) (te_var 2) (te_str)) (tt_and1 (tt_cmp (or_eqS hr) (om_eqS) (te_var 5) (te_int))))))))) (ts_one (ts_ret (te_non))) (ts_nil)) (ts_cons (ts_set 6 Sc.nd (te_tup (ta_cons (te_var 4) (ta_cons (te_var 5) (ta_nil))))) (ts_one (ts_ret (te_if (tt_tru rfl (te_call rfl (ok_is_fraction cc tb) (hr.mono (by decide)) tk (by rfl) cc.g_is_fraction (ta_cons (te_var 6) (ta_nil)))) (te_var 6) (te_non)))))))) (fun _ _ _ _ _ _ us hl => match us, hl with | [_], _ => rfl)
theorem sc_fraction_text : FnScope ["fraction", "over", "under"] ["fraction"] (defScope (top 29)) := ⟨rfl, rfl, rfl, by decide +kernel, rfl, by decide +kernel, by decide +kernel⟩
theorem ok_fraction_text (cc : Ct K mg) (tb : TB K mg base) : Fn PR w mg base (gOf K) 4 (He.fAd K ("fraction_text", none)) 1 [] F_fraction_text := by
  obtain ⟨fd, Fu⟩ := cc.def_ 10 rfl
  have Sc := sc_fraction_text
  exact fn_mk (g := gOf K) (N := ["fraction", "over", "under"]) (ps := ["fraction"]) Fu Sc (fun cdv A outer s H E hr tk =>
    ts_cons (ts_unp rfl rfl (te_var 0) (pns_cons 1 Sc.nd (pns_cons 2 Sc.nd (pns_nil)))) (ts_one (ts_ret (te_if (tt_cmp (or_eqS hr) (om_eqS) (te_var 2) (te_int)) (te_call rfl (ok_integer_text cc tb 2) (hr.mono (by decide)) tk (by rfl) cc.g_integer_text (ta_cons (te_var 1) (ta_nil))) (te_js (.cons (te_fmt (te_call rfl (ok_integer_text cc tb 2) (hr.mono (by decide)) tk (by rfl) cc.g_integer_text (ta_cons (te_var 1) (ta_nil)))) (.cons (te_str) (.cons (te_fmt (te_call rfl (ok_integer_text cc tb 2) (hr.mono (by decide)) tk (by rfl) cc.g_integer_text (ta_cons (te_var 2) (ta_nil)))) (.nil))))))))) (fun _ _ _ _ _ _ us hl => match us, hl with | [_], _ => rfl)
theorem sc__law_list_in : FnScope ["_law_sort", "_law_words", "_law_found", "_law_k", "_law_piece", "_law_label"] ["_law_sort", "_law_words"] (defScope (top 58)) := ⟨rfl, rfl, rfl, by decide +kernel, rfl, by decide +kernel, by decide +kernel⟩
theorem ok__law_list_in (cc : Ct K mg) (tb : TB K mg base) : Fn PR w mg base (gOf K) 4 (He.fAd K ("_law_list_in", none)) 2 [] F__law_list_in := by
  obtain ⟨fd, Fu⟩ := cc.def_ 39 rfl
  have Sc := sc__law_list_in
  exact fn_mk (g := gOf K) (N := ["_law_sort", "_law_words", "_law_found", "_law_k", "_law_piece", "_law_label"]) (ps := ["_law_sort", "_law_words"]) Fu Sc (fun cdv A outer s H E hr tk =>
    ts_cons (ts_set 2 Sc.nd (te_lst true (ta_nil))) (ts_cons (ts_if (PW.pt (tt_or (tt_cmp (or_eqS hr) (om_eqS) (te_var 1) (te_lst false (ta_nil))) (tt_or1 (PW.pt (tt_and (tt_cmp (or_eqS hr) (om_eqS) (te_ix or_ix om_ix (te_var 1) (te_int)) (te_str)) (tt_and1 (tt_cmp (or_neS hr) (om_neS) (te_var 0) (te_str)))))))) (ts_one (ts_ret (te_if (tt_cmp (or_eqS hr) (om_eqS) (te_var 1) (te_lst false (ta_nil))) (te_tup (ta_cons (te_str) (ta_cons (te_int) (ta_nil)))) (te_if (tt_cmp (or_gt) (om_gt) (te_callB call_len cm_len (by rfl) cc.f_len (by decide +kernel) (ta_cons (te_var 1) (ta_nil))) (te_int)) (te_tup (ta_cons (te_str) (ta_cons (te_int) (ta_nil)))) (te_tup (ta_cons (te_str) (ta_cons (te_tup (ta_nil)) (ta_nil)))))))) (ts_nil)) (ts_cons (ts_for (passes_of rfl) rfl (tf_rng1 (by rfl) cc.f_range (ta_cons (te_callB call_len cm_len (by rfl) cc.f_len (by decide +kernel) (ta_cons (te_var 1) (ta_nil))) (ta_nil))) (pgm_name 3 Sc.nd) (ts_cons (ts_if (tt_cmp (or_eqS hr) (om_eqS) (te_var 0) (te_str)) (ts_cons (ts_set 4 Sc.nd (te_callTy call_tuple_of cm_tup (by rfl) cc.f_tuple (by decide +kernel) (ta_cons (te_bm rfl PySem.F.plainAttrs_str PySem.F.slot_str_split PySem.F.type_str_split mt_split (mm_split false) (te_ix or_ix om_ix (te_var 1) (te_var 3)) (ta_cons (te_str) (ta_nil))) (ta_nil)))) (ts_one (ts_set 4 Sc.nd (te_if (tt_cmp (or_neS hr) (om_neS) (te_lc false (own := [("_law_label", 5)]) rfl Sc.nd (tf_any rfl (te_var 4)) (blkOk_by (N := ["_law_sort", "_law_words", "_law_found", "_law_k", "_law_piece", "_law_label"]) (sc := defScope (top 58)) (own := [("_law_label", 5)]) (by decide +kernel)) rfl (fun _ _ _ _ _ => pgc_name 5 Sc.nd) (fun _ _ _ _ _ => tts_one (tt_not (tt_tru rfl (te_call rfl (ok__law_is_name cc tb) (hr.mono (by decide)) takes0 (by rfl) cc.g__law_is_name (ta_cons (te_var 5) (ta_nil)))))) (fun _ _ _ _ _ => te_var 5)) (te_lst false (ta_nil))) (te_non) (te_var 4))))) (ts_cons (ts_set 4 Sc.nd (te_call rfl (ok__law_pair_in cc tb) (hr.mono (by decide)) tk (by rfl) cc.g__law_pair_in (ta_cons (te_ix or_ix om_ix (te_var 1) (te_var 3)) (ta_cons (te_var 0) (ta_nil))))) (ts_one (ts_if (PW.pt (tt_and (tt_cmp (op_notN) (om_notN) (te_var 4) (te_non)) (tt_and (tt_cmp (or_neS hr) (om_neS) (te_var 2) (te_lst false (ta_nil))) (tt_and1 (tt_cmp (or_le) (om_le) (te_ix or_ix om_ix (te_var 4) (te_int)) (te_ix or_ix om_ix (te_ix or_ix om_ix (te_var 2) (te_un un_neg um_neg (te_int))) (te_int))))))) (ts_one (ts_set 4 Sc.nd (te_non))) (ts_nil))))) (ts_cons (ts_if (tt_cmp (op_isN) (om_isN) (te_var 4) (te_non)) (ts_one (ts_ret (te_tup (ta_cons (te_str) (ta_cons (te_op or_add (om_add false) (te_var 3) (te_int)) (ta_nil)))))) (ts_nil)) (ts_one (ts_expr (te_bm rfl PySem.F.plainAttrs_list PySem.F.slot_list_append PySem.F.type_list_append mt_append (mm_append) (te_var 2) (ta_cons (te_var 4) (ta_nil)))))))) (ts_one (ts_ret (te_tup (ta_cons (te_str) (ta_cons (te_callTy call_tuple_of cm_tup (by rfl) cc.f_tuple (by decide +kernel) (ta_cons (te_var 2) (ta_nil))) (ta_nil))))))))) (fun _ _ _ _ _ _ us hl => match us, hl with | [_, _], _ => rfl)
theorem sc_charge_or_none : FnScope ["word", "found"] ["word"] (defScope (top 25)) := ⟨rfl, rfl, rfl, by decide +kernel, rfl, by decide +kernel, by decide +kernel⟩
theorem ok_charge_or_none (cc : Ct K mg) (tb : TB K mg base) : Fn PR w mg base (gOf K) 5 (He.fAd K ("charge_or_none", none)) 1 [] F_charge_or_none := by
  obtain ⟨fd, Fu⟩ := cc.def_ 8 rfl
  have Sc := sc_charge_or_none
  exact fn_mk (g := gOf K) (N := ["word", "found"]) (ps := ["word"]) Fu Sc (fun cdv A outer s H E hr tk =>
    ts_cons (ts_set 1 Sc.nd (te_call rfl (ok_fraction_or_none cc tb) (hr.mono (by decide)) tk (by rfl) cc.g_fraction_or_none (ta_cons (te_var 0) (ta_nil)))) (ts_one (ts_ret (te_if (PW.pt (tt_or (tt_cmp (op_isN) (om_isN) (te_var 1) (te_non)) (tt_or1 (tt_cmp (or_lt) (om_lt) (te_ix or_ix om_ix (te_var 1) (te_int)) (te_int))))) (te_non) (te_var 1))))) (fun _ _ _ _ _ _ us hl => match us, hl with | [_], _ => rfl)
theorem sc_words_of_step : FnScope ["step", "group", "name", "charge", "cents", "change"] ["step"] (defScope (top 32)) := ⟨rfl, rfl, rfl, by decide +kernel, rfl, by decide +kernel, by decide +kernel⟩
theorem ok_words_of_step (cc : Ct K mg) (tb : TB K mg base) : Fn PR w mg base (gOf K) 5 (He.fAd K ("words_of_step", none)) 1 [] F_words_of_step := by
  obtain ⟨fd, Fu⟩ := cc.def_ 11 rfl
  have Sc := sc_words_of_step
  exact fn_mk (g := gOf K) (N := ["step", "group", "name", "charge", "cents", "change"]) (ps := ["step"]) Fu Sc (fun cdv A outer s H E hr tk =>
    ts_one (ts_match (te_ix or_ix om_ix (te_var 0) (te_int)) (csm_cons (ptm_str) (ts_one (ts_ret (te_lst false (ta_nil)))) (csm_cons (ptm_or (pfm_cons ptm_str (pfm_cons ptm_str (pfm_nil)))) (ts_one (ts_ret (te_lst false (ta_cons (te_ix or_ix om_ix (te_var 0) (te_int)) (ta_nil))))) (csm_cons (ptm_str) (ts_one (ts_ret (te_orV rfl (te_lc false (own := [("group", 1)]) rfl Sc.nd (tf_any rfl (te_ix or_ix om_ix (te_var 0) (te_int))) (blkOk_by (N := ["step", "group", "name", "charge", "cents", "change"]) (sc := defScope (top 32)) (own := [("group", 1)]) (by decide +kernel)) rfl (fun _ _ _ _ _ => pgc_name 1 Sc.nd) (fun _ _ _ _ _ => tts_nil) (fun _ _ _ _ _ => te_bm rfl PySem.F.plainAttrs_str PySem.F.slot_str_join PySem.F.type_str_join mt_join (mm_join) (te_str) (ta_cons (te_var 1) (ta_nil)))) (te_one (te_lst false (ta_cons (te_gsE (by rfl) cc.k_NOTHING) (ta_nil))))))) (csm_cons (ptm_str) (ts_one (ts_ret (te_orV rfl (te_lc false (own := [("name", 2), ("charge", 3)]) rfl Sc.nd (tf_any rfl (te_ix or_ix om_ix (te_var 0) (te_int))) (blkOk_by (N := ["step", "group", "name", "charge", "cents", "change"]) (sc := defScope (top 32)) (own := [("name", 2), ("charge", 3)]) (by decide +kernel)) rfl (fun _ _ _ _ _ => pgc_tup (n := 2) rfl rfl (pnc_cons 2 Sc.nd (pnc_cons 3 Sc.nd (pnc_nil)))) (fun _ _ _ _ _ => tts_nil) (fun _ _ _ _ _ => te_js (.cons (te_fmt (te_var 2)) (.cons (te_str) (.cons (te_fmt (te_call rfl (ok_fraction_text cc tb) (hr.mono (by decide)) takes0 (by rfl) cc.g_fraction_text (ta_cons (te_var 3) (ta_nil)))) (.nil)))))) (te_one (te_lst false (ta_cons (te_gsE (by rfl) cc.k_NOTHING) (ta_nil))))))) (csm_cons (ptm_str) (ts_one (ts_ret (te_lst false (ta_cons (te_orV rfl (te_bm rfl PySem.F.plainAttrs_str PySem.F.slot_str_join PySem.F.type_str_join mt_join (mm_join) (te_str) (ta_cons (te_lc false (own := [("cents", 4)]) rfl Sc.nd (tf_any rfl (te_ix or_ix om_ix (te_var 0) (te_int))) (blkOk_by (N := ["step", "group", "name", "charge", "cents", "change"]) (sc := defScope (top 32)) (own := [("cents", 4)]) (by decide +kernel)) rfl (fun _ _ _ _ _ => pgc_name 4 Sc.nd) (fun _ _ _ _ _ => tts_nil) (fun _ _ _ _ _ => te_call rfl (ok_integer_text cc tb 2) (hr.mono (by decide)) takes0 (by rfl) cc.g_integer_text (ta_cons (te_var 4) (ta_nil)))) (ta_nil))) (te_one (te_gsE (by rfl) cc.k_NOTHING))) (ta_nil))))) (csm_any (ts_one (ts_ret (te_lc false (own := [("name", 2), ("change", 5)]) rfl Sc.nd (tf_any rfl (te_ix or_ix om_ix (te_var 0) (te_int))) (blkOk_by (N := ["step", "group", "name", "charge", "cents", "change"]) (sc := defScope (top 32)) (own := [("name", 2), ("change", 5)]) (by decide +kernel)) rfl (fun _ _ _ _ _ => pgc_tup (n := 2) rfl rfl (pnc_cons 2 Sc.nd (pnc_cons 5 Sc.nd (pnc_nil)))) (fun _ _ _ _ _ => tts_nil) (fun _ _ _ _ _ => te_js (.cons (te_fmt (te_var 2)) (.cons (te_str) (.cons (te_fmt (te_call rfl (ok_integer_text cc tb 2) (hr.mono (by decide)) takes0 (by rfl) cc.g_integer_text (ta_cons (te_var 5) (ta_nil)))) (.nil)))))))))))))))) (fun _ _ _ _ _ _ us hl => match us, hl with | [_], _ => rfl)
theorem sc__law_row_due : FnScope ["_law_page", "_law_at", "_law_sort", "_law_words", "_law_found"] ["_law_page", "_law_at"] (defScope (top 60)) := ⟨rfl, rfl, rfl, by decide +kernel, rfl, by decide +kernel, by decide +kernel⟩
theorem ok__law_row_due (cc : Ct K mg) (tb : TB K mg base) : Fn PR w mg base (gOf K) 5 (He.fAd K ("_law_row_due", none)) 2 [] F__law_row_due := by
  obtain ⟨fd, Fu⟩ := cc.def_ 41 rfl
  have Sc := sc__law_row_due
  exact fn_mk (g := gOf K) (N := ["_law_page", "_law_at", "_law_sort", "_law_words", "_law_found"]) (ps := ["_law_page", "_law_at"]) Fu Sc (fun cdv A outer s H E hr tk =>
    ts_cons (ts_par 2 3 rfl Sc.nd rfl rfl (by decide) rfl rfl (ta_cons (te_ix or_ix om_ix (te_bm rfl PySem.F.plainAttrs_str PySem.F.slot_str_split PySem.F.type_str_split mt_split (mm_split false) (te_var 0) (ta_cons (te_str) (ta_nil))) (te_int)) (ta_cons (te_sl false rfl (te_bm rfl PySem.F.plainAttrs_str PySem.F.slot_str_split PySem.F.type_str_split mt_split (mm_split false) (te_var 0) (ta_cons (te_str) (ta_nil))) (to_some (te_int)) (to_none)) (ta_nil))) rfl) (ts_cons (ts_if (tt_cmp (or_in) (om_in false) (te_var 2) (te_tup (ta_cons (te_str) (ta_cons (te_str) (ta_cons (te_str) (ta_nil)))))) (ts_one (ts_set 4 Sc.nd (te_call rfl (ok__law_list_in cc tb) (hr.mono (by decide)) tk (by rfl) cc.g__law_list_in (ta_cons (te_var 2) (ta_cons (te_var 3) (ta_nil)))))) (ts_one (ts_if (tt_cmp (or_in) (om_in false) (te_var 2) (te_tup (ta_cons (te_str) (ta_cons (te_str) (ta_cons (te_str) (ta_cons (te_str) (ta_nil))))))) (ts_one (ts_set 4 Sc.nd (te_call rfl (ok__law_one_in cc tb) (hr.mono (by decide)) tk (by rfl) cc.g__law_one_in (ta_cons (te_var 2) (ta_cons (te_var 3) (ta_nil)))))) (ts_one (ts_set 4 Sc.nd (te_tup (ta_cons (te_str) (ta_cons (te_int) (ta_nil))))))))) (ts_cons (ts_if (tt_cmp (or_eqS hr) (om_eqS) (te_ix or_ix om_ix (te_var 4) (te_int)) (te_str)) (ts_one (ts_ret (te_tup (ta_cons (te_str) (ta_cons (te_str) (ta_cons (te_var 1) (ta_cons (te_ix or_ix om_ix (te_var 4) (te_int)) (ta_nil)))))))) (ts_nil)) (ts_one (ts_ret (te_tup (ta_cons (te_str) (ta_cons (te_if (tt_cmp (or_eqS hr) (om_eqS) (te_var 2) (te_str)) (te_tup (ta_cons (te_var 2) (ta_nil))) (te_tup (ta_cons (te_var 2) (ta_cons (te_ix or_ix om_ix (te_var 4) (te_int)) (ta_nil))))) (ta_nil))))))))) (fun _ _ _ _ _ _ us hl => match us, hl with | [_, _], _ => rfl)
theorem sc_step_row : FnScope ["step"] ["step"] (defScope (top 33)) := ⟨rfl, rfl, rfl, by decide +kernel, rfl, by decide +kernel, by decide +kernel⟩
theorem ok_step_row (cc : Ct K mg) (tb : TB K mg base) : Fn PR w mg base (gOf K) 6 (He.fAd K ("step_row", none)) 1 [] F_step_row := by
  obtain ⟨fd, Fu⟩ := cc.def_ 12 rfl
  have Sc := sc_step_row
  exact fn_mk (g := gOf K) (N := ["step"]) (ps := ["step"]) Fu Sc (fun cdv A outer s H E hr tk =>
    ts_one (ts_ret (te_bm rfl PySem.F.plainAttrs_str PySem.F.slot_str_join PySem.F.type_str_join mt_join (mm_join) (te_str) (ta_cons (te_lst false (ta_cons (te_ix or_ix om_ix (te_var 0) (te_int)) (ta_star rfl (te_call rfl (ok_words_of_step cc tb) (hr.mono (by decide)) tk (by rfl) cc.g_words_of_step (ta_cons (te_var 0) (ta_nil))) (ta_nil)))) (ta_nil))))) (fun _ _ _ _ _ _ us hl => match us, hl with | [_], _ => rfl)
theorem okK_step_row (cc : Ct K mg) (tb : TB K mg base) : FnK PR w mg base (gOf K) 6 (He.fAd K ("step_row", none)) ["step"] F_step_row := by
  obtain ⟨fd, Fu⟩ := cc.def_ 12 rfl
  have Sc := sc_step_row
  exact fn_mkK (g := gOf K) (N := ["step"]) (ps := ["step"]) Fu Sc (fun cdv A outer s H E hr tk =>
    ts_one (ts_ret (te_bm rfl PySem.F.plainAttrs_str PySem.F.slot_str_join PySem.F.type_str_join mt_join (mm_join) (te_str) (ta_cons (te_lst false (ta_cons (te_ix or_ix om_ix (te_var 0) (te_int)) (ta_star rfl (te_call rfl (ok_words_of_step cc tb) (hr.mono (by decide)) tk (by rfl) cc.g_words_of_step (ta_cons (te_var 0) (ta_nil))) (ta_nil)))) (ta_nil))))) (fun _ _ _ _ _ _ us hl => match us, hl with | [_], _ => rfl)
theorem tab_pair_or_none_value_of (cc : Ct K mg) (tb : TB K mg base) {X : Cx} (h1 : X.prog = PR := by rfl) (h2 : X.w = w := by rfl) (h3 : X.mg = mg := by rfl) (h4 : X.base = base := by rfl) : Tab2 X (gOf K) 5 1 tF_pair_or_none_value_of tL_pair_or_none_value_of := by
  refine ⟨fun i m h => ?_, fun i m h => ?_⟩ <;> rw [h1, h2, h3, h4]
  · unfold tF_pair_or_none_value_of at h
    split at h
    · cases h; exact (ok_charge_or_none cc tb).mono (by decide)
    · cases h; exact (ok_change_or_none cc tb).mono (by decide)
    · cases h
  · unfold tL_pair_or_none_value_of at h
    split at h
    · cases h
theorem sc_pair_or_none : FnScope ["word", "value_of", "name", "colon", "rest", "value"] ["word", "value_of"] (defScope (top 37)) := ⟨rfl, rfl, rfl, by decide +kernel, rfl, by decide +kernel, by decide +kernel⟩
theorem ok_pair_or_none (cc : Ct K mg) (tb : TB K mg base) : Fn PR w mg base (gOf K) 6 (He.fAd K ("pair_or_none", none)) 2 [] F_pair_or_none := by
  obtain ⟨fd, Fu⟩ := cc.def_ 15 rfl
  have Sc := sc_pair_or_none
  exact fn_mk (g := gOf K) (N := ["word", "value_of", "name", "colon", "rest", "value"]) (ps := ["word", "value_of"]) Fu Sc (fun cdv A outer s H E hr tk =>
    ts_cons (ts_unp rfl rfl (te_bm rfl PySem.F.plainAttrs_str PySem.F.slot_str_partition PySem.F.type_str_partition mt_partition (mm_partition) (te_var 0) (ta_cons (te_str) (ta_nil))) (pns_cons 2 Sc.nd (pns_cons 3 Sc.nd (pns_cons 4 Sc.nd (pns_nil))))) (ts_cons (ts_set 5 Sc.nd (te_if (PW.pt (tt_and (tt_cmp (or_neS hr) (om_neS) (te_var 3) (te_str)) (tt_and1 (tt_tru rfl (te_call rfl (ok_is_name cc tb) (hr.mono (by decide)) tk (by rfl) cc.g_is_name (ta_cons (te_var 2) (ta_nil))))))) (te_callW rfl (tab_pair_or_none_value_of cc tb) (hr.mono (by decide)) tk (ta_cons (te_var 4) (ta_nil))) (te_non))) (ts_one (ts_ret (te_if (tt_cmp (op_isN) (om_isN) (te_var 5) (te_non)) (te_non) (te_tup (ta_cons (te_var 2) (ta_cons (te_var 5) (ta_nil))))))))) (fun _ _ _ _ _ _ us hl => match us, hl with | [_, _], _ => rfl)
theorem sc__law_log_due : FnScope ["_law_pages_now", "_law_found", "_law_at", "_law_one"] ["_law_pages_now"] (defScope (top 61)) := ⟨rfl, rfl, rfl, by decide +kernel, rfl, by decide +kernel, by decide +kernel⟩
theorem ok__law_log_due (cc : Ct K mg) (tb : TB K mg base) : Fn PR w mg base (gOf K) 6 (He.fAd K ("_law_log_due", none)) 1 [] F__law_log_due := by
  obtain ⟨fd, Fu⟩ := cc.def_ 42 rfl
  have Sc := sc__law_log_due
  exact fn_mk (g := gOf K) (N := ["_law_pages_now", "_law_found", "_law_at", "_law_one"]) (ps := ["_law_pages_now"]) Fu Sc (fun cdv A outer s H E hr tk =>
    ts_cons (ts_set 1 Sc.nd (te_lst true (ta_nil))) (ts_cons (ts_for (passes_of rfl) rfl (tf_rng1 (by rfl) cc.f_range (ta_cons (te_callB call_len cm_len (by rfl) cc.f_len (by decide +kernel) (ta_cons (te_var 0) (ta_nil))) (ta_nil))) (pgm_name 2 Sc.nd) (ts_cons (ts_set 3 Sc.nd (te_call rfl (ok__law_row_due cc tb) (hr.mono (by decide)) tk (by rfl) cc.g__law_row_due (ta_cons (te_ix or_ix om_ix (te_var 0) (te_var 2)) (ta_cons (te_var 2) (ta_nil))))) (ts_cons (ts_if (tt_cmp (or_neS hr) (om_neS) (te_ix or_ix om_ix (te_var 3) (te_int)) (te_str)) (ts_one (ts_ret (te_var 3))) (ts_nil)) (ts_one (ts_expr (te_bm rfl PySem.F.plainAttrs_list PySem.F.slot_list_append PySem.F.type_list_append mt_append (mm_append) (te_var 1) (ta_cons (te_ix or_ix om_ix (te_var 3) (te_int)) (ta_nil)))))))) (ts_one (ts_ret (te_tup (ta_cons (te_str) (ta_cons (te_callTy call_tuple_of cm_tup (by rfl) cc.f_tuple (by decide +kernel) (ta_cons (te_var 1) (ta_nil))) (ta_nil)))))))) (fun _ _ _ _ _ _ us hl => match us, hl with | [_], _ => rfl)
theorem sc_log_rows : FnScope ["log", "step"] ["log"] (defScope (top 34)) := ⟨rfl, rfl, rfl, by decide +kernel, rfl, by decide +kernel, by decide +kernel⟩
theorem ok_log_rows (cc : Ct K mg) (tb : TB K mg base) : Fn PR w mg base (gOf K) 7 (He.fAd K ("log_rows", none)) 1 [] F_log_rows := by
  obtain ⟨fd, Fu⟩ := cc.def_ 13 rfl
  have Sc := sc_log_rows
  exact fn_mk (g := gOf K) (N := ["log", "step"]) (ps := ["log"]) Fu Sc (fun cdv A outer s H E hr tk =>
    ts_one (ts_ret (te_lc true (own := [("step", 1)]) rfl Sc.nd (tf_any rfl (te_var 0)) (blkOk_by (N := ["log", "step"]) (sc := defScope (top 34)) (own := [("step", 1)]) (by decide +kernel)) rfl (fun _ _ _ _ _ => pgc_name 1 Sc.nd) (fun _ _ _ _ _ => tts_nil) (fun _ _ _ _ _ => te_call rfl (ok_step_row cc tb) (hr.mono (by decide)) takes0 (by rfl) cc.g_step_row (ta_cons (te_var 1) (ta_nil)))))) (fun _ _ _ _ _ _ us hl => match us, hl with | [_], _ => rfl)
theorem okK_log_rows (cc : Ct K mg) (tb : TB K mg base) : FnK PR w mg base (gOf K) 7 (He.fAd K ("log_rows", none)) ["log"] F_log_rows := by
  obtain ⟨fd, Fu⟩ := cc.def_ 13 rfl
  have Sc := sc_log_rows
  exact fn_mkK (g := gOf K) (N := ["log", "step"]) (ps := ["log"]) Fu Sc (fun cdv A outer s H E hr tk =>
    ts_one (ts_ret (te_lc true (own := [("step", 1)]) rfl Sc.nd (tf_any rfl (te_var 0)) (blkOk_by (N := ["log", "step"]) (sc := defScope (top 34)) (own := [("step", 1)]) (by decide +kernel)) rfl (fun _ _ _ _ _ => pgc_name 1 Sc.nd) (fun _ _ _ _ _ => tts_nil) (fun _ _ _ _ _ => te_call rfl (ok_step_row cc tb) (hr.mono (by decide)) takes0 (by rfl) cc.g_step_row (ta_cons (te_var 1) (ta_nil)))))) (fun _ _ _ _ _ _ us hl => match us, hl with | [_], _ => rfl)
theorem sc_lam1 : FnScope ["word"] ["word"] (lamTab 1).scope := ⟨rfl, rfl, rfl, by decide +kernel, rfl, by decide +kernel, by decide +kernel⟩
theorem ok_lam1 (cc : Ct K mg) (tb : TB K mg base) : Lam PR w mg base (gOf K) 7 1 1 F_lam1 := by
  have Sc := sc_lam1
  exact lam_mk (g := gOf K) (i := 1) (N := ["word"]) (ps := ["word"]) Sc (fun cdv f A outer s H E hr tk =>
    te_call rfl (ok_pair_or_none cc tb) (hr.mono (by decide)) tk (by rfl) cc.g_pair_or_none (ta_cons (te_var 0) (ta_cons (te_gf (g := gOf K) (k := 8) (by rfl) cc.g_charge_or_none) (ta_nil)))) (fun _ _ _ us hl => match us, hl with | [_], _ => rfl)
theorem sc_lam2 : FnScope ["word"] ["word"] (lamTab 2).scope := ⟨rfl, rfl, rfl, by decide +kernel, rfl, by decide +kernel, by decide +kernel⟩
theorem ok_lam2 (cc : Ct K mg) (tb : TB K mg base) : Lam PR w mg base (gOf K) 7 2 1 F_lam2 := by
  have Sc := sc_lam2
  exact lam_mk (g := gOf K) (i := 2) (N := ["word"]) (ps := ["word"]) Sc (fun cdv f A outer s H E hr tk =>
    te_call rfl (ok_pair_or_none cc tb) (hr.mono (by decide)) tk (by rfl) cc.g_pair_or_none (ta_cons (te_var 0) (ta_cons (te_gf (g := gOf K) (k := 14) (by rfl) cc.g_change_or_none) (ta_nil)))) (fun _ _ _ us hl => match us, hl with | [_], _ => rfl)
theorem tab_StepReader_several_value_of (cc : Ct K mg) (tb : TB K mg base) {X : Cx} (h1 : X.prog = PR := by rfl) (h2 : X.w = w := by rfl) (h3 : X.mg = mg := by rfl) (h4 : X.base = base := by rfl) : Tab2 X (gOf K) 7 1 tF_StepReader_several_value_of tL_StepReader_several_value_of := by
  refine ⟨fun i m h => ?_, fun i m h => ?_⟩ <;> rw [h1, h2, h3, h4]
  · unfold tF_StepReader_several_value_of at h
    split at h
    · cases h; exact (ok_group_or_none cc tb).mono (by decide)
    · cases h
  · unfold tL_StepReader_several_value_of at h
    split at h
    · cases h; exact (ok_lam1 cc tb).mono (by decide)
    · cases h; exact (ok_lam2 cc tb).mono (by decide)
    · cases h
theorem sc_StepReader_several : FnScope ["self", "value_of", "is_rising", "found", "place", "word", "value"] ["self", "value_of", "is_rising"] (defScope (mtop 40 3)) := ⟨rfl, rfl, rfl, by decide +kernel, rfl, by decide +kernel, by decide +kernel⟩
theorem ok_StepReader_several (cc : Ct K mg) (tb : TB K mg base) : Fn PR w mg base (gOf K) 8 (He.fAd K ("StepReader", some "several")) 3 [] F_StepReader_several := by
  obtain ⟨fd, Fu⟩ := cc.def_ 21 rfl
  have Sc := sc_StepReader_several
  exact fn_mk (g := gOf K) (N := ["self", "value_of", "is_rising", "found", "place", "word", "value"]) (ps := ["self", "value_of", "is_rising"]) Fu Sc (fun cdv A outer s H E hr tk =>
    ts_cons (ts_expr (te_meth (c := 10) rfl cc.c_StepReader cc.m_StepReader_require (ok_StepReader_require cc tb) (hr.mono (by decide)) tk (te_var 0) (ta_cons (te_cmp (or_gt) (om_gt) (te_callB call_len cm_len (by rfl) cc.f_len (by decide +kernel) (ta_cons (te_fld (c := 10) rfl cc.c_StepReader cc.n_StepReader_words (te_var 0)) (ta_nil))) (te_int)) (ta_cons (te_int) (ta_nil))))) (ts_cons (ts_set 3 Sc.nd (te_lst true (ta_nil))) (ts_cons (ts_for (passes_of rfl) rfl (tf_enu2 rfl (by rfl) cc.f_enumerate (ta_cons (te_sl false rfl (te_fld (c := 10) rfl cc.c_StepReader cc.n_StepReader_words (te_var 0)) (to_some (te_int)) (to_none)) (ta_cons (te_int) (ta_nil)))) (pgm_tup (n := 2) rfl rfl (pns_cons 4 Sc.nd (pns_cons 5 Sc.nd (pns_nil)))) (ts_cons (ts_set 6 Sc.nd (te_callW rfl (tab_StepReader_several_value_of cc tb) (hr.mono (by decide)) tk (ta_cons (te_var 5) (ta_nil)))) (ts_cons (ts_expr (te_meth (c := 10) rfl cc.c_StepReader cc.m_StepReader_require (ok_StepReader_require cc tb) (hr.mono (by decide)) tk (te_var 0) (ta_cons (te_cmp (op_notN) (om_notN) (te_var 6) (te_non)) (ta_cons (te_var 4) (ta_nil))))) (ts_cons (ts_expr (te_meth (c := 10) rfl cc.c_StepReader cc.m_StepReader_require (ok_StepReader_require cc tb) (hr.mono (by decide)) tk (te_var 0) (ta_cons (te_orV rfl (te_notV rfl (te_var 2)) (te_orV rfl (te_cmp (or_eqS hr) (om_eqS) (te_var 3) (te_lst false (ta_nil))) (te_one (te_cmp (or_lt) (om_lt) (te_ix or_ix om_ix (te_ix or_ix om_ix (te_var 3) (te_un un_neg um_neg (te_int))) (te_int)) (te_ix or_ix om_ix (te_var 6) (te_int)))))) (ta_cons (te_var 4) (ta_nil))))) (ts_one (ts_expr (te_bm rfl PySem.F.plainAttrs_list PySem.F.slot_list_append PySem.F.type_list_append mt_append (mm_append) (te_var 3) (ta_cons (te_var 6) (ta_nil))))))))) (ts_one (ts_ret (te_callTy call_tuple_of cm_tup (by rfl) cc.f_tuple (by decide +kernel) (ta_cons (te_var 3) (ta_nil)))))))) (fun _ _ _ _ _ _ us hl => match us, hl with | [_, _, _], _ => rfl)
theorem sc_StepReader_none_or_several : FnScope ["self", "value_of", "is_rising"] ["self", "value_of", "is_rising"] (defScope (mtop 40 4)) := ⟨rfl, rfl, rfl, by decide +kernel, rfl, by decide +kernel, by decide +kernel⟩
theorem ok_StepReader_none_or_several (cc : Ct K mg) (tb : TB K mg base) : Fn PR w mg base (gOf K) 9 (He.fAd K ("StepReader", some "none_or_several")) 3 [] F_StepReader_none_or_several := by
  obtain ⟨fd, Fu⟩ := cc.def_ 22 rfl
  have Sc := sc_StepReader_none_or_several
  exact fn_mk (g := gOf K) (N := ["self", "value_of", "is_rising"]) (ps := ["self", "value_of", "is_rising"]) Fu Sc (fun cdv A outer s H E hr tk =>
    ts_cons (ts_if (tt_cmp (or_eqS hr) (om_eqS) (te_sl false rfl (te_fld (c := 10) rfl cc.c_StepReader cc.n_StepReader_words (te_var 0)) (to_some (te_int)) (to_some (te_int))) (te_lst false (ta_cons (te_gsE (by rfl) cc.k_NOTHING) (ta_nil)))) (ts_cons (ts_expr (te_meth (c := 10) rfl cc.c_StepReader cc.m_StepReader_require (ok_StepReader_require cc tb) (hr.mono (by decide)) tk (te_var 0) (ta_cons (te_cmp (or_eqS hr) (om_eqS) (te_callB call_len cm_len (by rfl) cc.f_len (by decide +kernel) (ta_cons (te_fld (c := 10) rfl cc.c_StepReader cc.n_StepReader_words (te_var 0)) (ta_nil))) (te_int)) (ta_cons (te_int) (ta_nil))))) (ts_one (ts_ret (te_tup (ta_nil))))) (ts_nil)) (ts_one (ts_ret (te_meth (c := 10) rfl cc.c_StepReader cc.m_StepReader_several (ok_StepReader_several cc tb) (hr.mono (by decide)) tk (te_var 0) (ta_cons (te_var 1) (ta_cons (te_var 2) (ta_nil))))))) (fun _ _ _ _ _ _ us hl => match us, hl with | [_, _, _], _ => rfl)
theorem sc_StepReader_step_written : FnScope ["self", "first"] ["self"] (defScope (mtop 40 5)) := ⟨rfl, rfl, rfl, by decide +kernel, rfl, by decide +kernel, by decide +kernel⟩
theorem ok_StepReader_step_written (cc : Ct K mg) (tb : TB K mg base) : Fn PR w mg base (gOf K) 10 (He.fAd K ("StepReader", some "step_written")) 1 [] F_StepReader_step_written := by
  obtain ⟨fd, Fu⟩ := cc.def_ 23 rfl
  have Sc := sc_StepReader_step_written
  exact fn_mkT (g := gOf K) (at_ := ("StepReader", some "step_written")) (N := ["self", "first"]) (ps := ["self"]) Fu Sc (fun cdv A outer s H E hr tk hcode =>
    ts_cons (ts_set 1 Sc.nd (te_ix or_ix om_ix (te_fld (c := 10) rfl cc.c_StepReader cc.n_StepReader_words (te_var 0)) (te_int))) (ts_one (ts_match (te_var 1) (csm_cons (ptm_str) (ts_cons (ts_expr (te_meth (c := 10) rfl cc.c_StepReader cc.m_StepReader_require (ok_StepReader_require cc tb) (hr.mono (by decide)) tk (te_var 0) (ta_cons (te_cmp (or_eqS hr) (om_eqS) (te_callB call_len cm_len (by rfl) cc.f_len (by decide +kernel) (ta_cons (te_fld (c := 10) rfl cc.c_StepReader cc.n_StepReader_words (te_var 0)) (ta_nil))) (te_int)) (ta_cons (te_int) (ta_nil))))) (ts_one (ts_ret (te_tup (ta_cons (te_var 1) (ta_nil)))))) (csm_cons (ptm_or (pfm_cons ptm_str (pfm_cons ptm_str (pfm_nil)))) (ts_one (ts_ret (te_tup (ta_cons (te_var 1) (ta_cons (te_meth (c := 10) rfl cc.c_StepReader cc.m_StepReader_only (ok_StepReader_only cc tb) (hr.mono (by decide)) tk (te_var 0) (ta_cons (te_lam 0 0 ⟨_, hcode, tb _ tf_mem0⟩ rfl) (ta_nil))) (ta_nil)))))) (csm_cons (ptm_str) (ts_one (ts_ret (te_tup (ta_cons (te_var 1) (ta_cons (te_meth (c := 10) rfl cc.c_StepReader cc.m_StepReader_only (ok_StepReader_only cc tb) (hr.mono (by decide)) tk (te_var 0) (ta_cons (te_gf (g := gOf K) (k := 17) (by rfl) cc.g_cents_or_none) (ta_nil))) (ta_nil)))))) (csm_cons (ptm_str) (ts_one (ts_ret (te_tup (ta_cons (te_var 1) (ta_cons (te_meth (c := 10) rfl cc.c_StepReader cc.m_StepReader_none_or_several (ok_StepReader_none_or_several cc tb) (hr.mono (by decide)) tk (te_var 0) (ta_cons (te_gf (g := gOf K) (k := 16) (by rfl) cc.g_group_or_none) (ta_cons (te_bl) (ta_nil)))) (ta_nil)))))) (csm_cons (ptm_str) (ts_one (ts_ret (te_tup (ta_cons (te_var 1) (ta_cons (te_meth (c := 10) rfl cc.c_StepReader cc.m_StepReader_none_or_several (ok_StepReader_none_or_several cc tb) (hr.mono (by decide)) tk (te_var 0) (ta_cons (te_lam 0 1 ⟨_, hcode, tb _ tf_mem0⟩ rfl) (ta_cons (te_bl) (ta_nil)))) (ta_nil)))))) (csm_cons (ptm_str) (ts_one (ts_ret (te_tup (ta_cons (te_var 1) (ta_cons (te_meth (c := 10) rfl cc.c_StepReader cc.m_StepReader_several (ok_StepReader_several cc tb) (hr.mono (by decide)) tk (te_var 0) (ta_cons (te_lam 0 2 ⟨_, hcode, tb _ tf_mem0⟩ rfl) (ta_cons (te_bl) (ta_nil)))) (ta_nil)))))) (csm_any (ts_one (ts_raise2 (c := 8) rfl rfl (cc.s_InvalidText) cc.g_InvalidText hr tk (ta_cons (te_fld (c := 10) rfl cc.c_StepReader cc.n_StepReader_row_held (te_var 0)) (ta_cons (te_int) (ta_nil))) (by rfl))))))))))))) (fun _ _ _ _ _ _ us hl => match us, hl with | [_], _ => rfl)
theorem sc_read_step : FnScope ["text"] ["text"] (defScope (top 41)) := ⟨rfl, rfl, rfl, by decide +kernel, rfl, by decide +kernel, by decide +kernel⟩
theorem ok_read_step (cc : Ct K mg) (tb : TB K mg base) : Fn PR w mg base (gOf K) 11 (He.fAd K ("read_step", none)) 1 [] F_read_step := by
  obtain ⟨fd, Fu⟩ := cc.def_ 24 rfl
  have Sc := sc_read_step
  exact fn_mk (g := gOf K) (N := ["text"]) (ps := ["text"]) Fu Sc (fun cdv A outer s H E hr tk =>
    ts_one (ts_ret (te_meth0 (c := 10) rfl cc.c_StepReader cc.m_StepReader_step_written (ok_StepReader_step_written cc tb) (hr.mono (by decide)) tk (te_makeF (c := 10) rfl cc.mk_StepReader (ok_StepReader___init__ cc tb) (hr.mono (by decide)) tk (by rfl) cc.g_StepReader (ta_cons (te_int) (ta_cons (te_bm rfl PySem.F.plainAttrs_str PySem.F.slot_str_split PySem.F.type_str_split mt_split (mm_split false) (te_var 0) (ta_cons (te_str) (ta_nil))) (ta_nil))))))) (fun _ _ _ _ _ _ us hl => match us, hl with | [_], _ => rfl)
theorem okK_read_step (cc : Ct K mg) (tb : TB K mg base) : FnK PR w mg base (gOf K) 11 (He.fAd K ("read_step", none)) ["text"] F_read_step := by
  obtain ⟨fd, Fu⟩ := cc.def_ 24 rfl
  have Sc := sc_read_step
  exact fn_mkK (g := gOf K) (N := ["text"]) (ps := ["text"]) Fu Sc (fun cdv A outer s H E hr tk =>
    ts_one (ts_ret (te_meth0 (c := 10) rfl cc.c_StepReader cc.m_StepReader_step_written (ok_StepReader_step_written cc tb) (hr.mono (by decide)) tk (te_makeF (c := 10) rfl cc.mk_StepReader (ok_StepReader___init__ cc tb) (hr.mono (by decide)) tk (by rfl) cc.g_StepReader (ta_cons (te_int) (ta_cons (te_bm rfl PySem.F.plainAttrs_str PySem.F.slot_str_split PySem.F.type_str_split mt_split (mm_split false) (te_var 0) (ta_cons (te_str) (ta_nil))) (ta_nil))))))) (fun _ _ _ _ _ _ us hl => match us, hl with | [_], _ => rfl)
theorem sc_read_log : FnScope ["rows", "row", "text"] ["rows"] (defScope (top 42)) := ⟨rfl, rfl, rfl, by decide +kernel, rfl, by decide +kernel, by decide +kernel⟩
theorem ok_read_log (cc : Ct K mg) (tb : TB K mg base) : Fn PR w mg base (gOf K) 11 (He.fAd K ("read_log", none)) 1 [] F_read_log := by
  obtain ⟨fd, Fu⟩ := cc.def_ 25 rfl
  have Sc := sc_read_log
  exact fn_mk (g := gOf K) (N := ["rows", "row", "text"]) (ps := ["rows"]) Fu Sc (fun cdv A outer s H E hr tk =>
    ts_one (ts_ret (te_callTy call_tuple_of cm_tup (by rfl) cc.f_tuple (by decide +kernel) (ta_cons (te_lcX false (own := [("row", 1), ("text", 2)]) rfl rfl tk rfl Sc.nd (tf_enu1 rfl (by rfl) cc.f_enumerate (ta_cons (te_var 0) (ta_nil))) (blkOk_by (N := ["rows", "row", "text"]) (sc := defScope (top 42)) (own := [("row", 1), ("text", 2)]) (by decide +kernel)) rfl (fun _ _ _ _ _ => pgc_tup (n := 2) rfl rfl (pnc_cons 1 Sc.nd (pnc_cons 2 Sc.nd (pnc_nil)))) (fun _ _ _ _ _ => tts_nil) (fun _ _ _ _ _ W2 pn xe tk2 => te_meth0 (c := 10) rfl cc.c_StepReader cc.m_StepReader_step_written (ok_StepReader_step_written cc tb) (hr.mono (by decide)) tk2 (te_makeF (c := 10) rfl cc.mk_StepReader (ok_StepReader___init__ cc tb) (hr.mono (by decide)) tk2 (by rfl) cc.g_StepReader (ta_cons (te_var 1) (ta_cons (te_bm rfl PySem.F.plainAttrs_str PySem.F.slot_str_split PySem.F.type_str_split mt_split (mm_split false) (te_var 2) (ta_cons (te_str) (ta_nil))) (ta_nil)))))) (ta_nil))))) (fun _ _ _ _ _ _ us hl => match us, hl with | [_], _ => rfl)
theorem okK_read_log (cc : Ct K mg) (tb : TB K mg base) : FnK PR w mg base (gOf K) 11 (He.fAd K ("read_log", none)) ["rows"] F_read_log := by
  obtain ⟨fd, Fu⟩ := cc.def_ 25 rfl
  have Sc := sc_read_log
  exact fn_mkK (g := gOf K) (N := ["rows", "row", "text"]) (ps := ["rows"]) Fu Sc (fun cdv A outer s H E hr tk =>
    ts_one (ts_ret (te_callTy call_tuple_of cm_tup (by rfl) cc.f_tuple (by decide +kernel) (ta_cons (te_lcX false (own := [("row", 1), ("text", 2)]) rfl rfl tk rfl Sc.nd (tf_enu1 rfl (by rfl) cc.f_enumerate (ta_cons (te_var 0) (ta_nil))) (blkOk_by (N := ["rows", "row", "text"]) (sc := defScope (top 42)) (own := [("row", 1), ("text", 2)]) (by decide +kernel)) rfl (fun _ _ _ _ _ => pgc_tup (n := 2) rfl rfl (pnc_cons 1 Sc.nd (pnc_cons 2 Sc.nd (pnc_nil)))) (fun _ _ _ _ _ => tts_nil) (fun _ _ _ _ _ W2 pn xe tk2 => te_meth0 (c := 10) rfl cc.c_StepReader cc.m_StepReader_step_written (ok_StepReader_step_written cc tb) (hr.mono (by decide)) tk2 (te_makeF (c := 10) rfl cc.mk_StepReader (ok_StepReader___init__ cc tb) (hr.mono (by decide)) tk2 (by rfl) cc.g_StepReader (ta_cons (te_var 1) (ta_cons (te_bm rfl PySem.F.plainAttrs_str PySem.F.slot_str_split PySem.F.type_str_split mt_split (mm_split false) (te_var 2) (ta_cons (te_str) (ta_nil))) (ta_nil)))))) (ta_nil))))) (fun _ _ _ _ _ _ us hl => match us, hl with | [_], _ => rfl)
theorem sc_law : FnScope ["_law_script", "_law_source_here", "_law_lot", "_law_due", "_law_saved", "_law_k", "_law_lap", "_law_bent", "_law_page", "_law_found", "_law_pages_now", "_law_at", "_law_kept", "_law_deed"] ["_law_script"] (defScope (top 65)) := ⟨rfl, rfl, rfl, by decide +kernel, rfl, by decide +kernel, by decide +kernel⟩
theorem b_law (cc : Ct K mg) (tb : TB K mg base) {s : Shared} {H : Hp} {E : XK} {cdv : Value} (hr : Room 13 (callerA.deeper (PyProof.Rows.envOfC "law" (defScope (top 65)) s.heap.objs.size (He.fAd K ("law", none)) cdv))) (tk : Takes (cxOf (L2.CX PR w) PR w K mg base ["_law_script", "_law_source_here", "_law_lot", "_law_due", "_law_saved", "_law_k", "_law_lap", "_law_bent", "_law_page", "_law_found", "_law_pages_now", "_law_at", "_law_kept", "_law_deed"] "law" (defScope (top 65)) (He.fAd K ("law", none)) cdv callerA [] s H E) (fun cls d _ H' => E cls d H')) (hcode : cdv = .ref (He.codeOf K ("law", none))) :
    PSs (cxOf (L2.CX PR w) PR w K mg base ["_law_script", "_law_source_here", "_law_lot", "_law_due", "_law_saved", "_law_k", "_law_lap", "_law_bent", "_law_page", "_law_found", "_law_pages_now", "_law_at", "_law_kept", "_law_deed"] "law" (defScope (top 65)) (He.fAd K ("law", none)) cdv callerA [] s H E) (defBody (top 65)) (TM (gOf K) (fun cls d _ H' => E cls d H') m_law) := by
  have Sc := sc_law
  obtain ⟨fdS__law_said, FuS__law_said⟩ := fu__law_said cc
  have hgd : (cxOf (L2.CX PR w) PR w K mg base ["_law_script", "_law_source_here", "_law_lot", "_law_due", "_law_saved", "_law_k", "_law_lap", "_law_bent", "_law_page", "_law_found", "_law_pages_now", "_law_at", "_law_kept", "_law_deed"] "law" (defScope (top 65)) (He.fAd K ("law", none)) cdv callerA [] s H E).A.guards = some [] := rfl
  exact ts_cons (ts_set 1 Sc.nd (te_call rfl (ok__law_source cc tb) (hr.mono (by decide)) tk (by rfl) cc.g__law_source (ta_cons (te_var 0) (ta_nil)))) (ts_cons (ts_set 2 Sc.nd (te_call rfl (ok__law_steps cc tb) (hr.mono (by decide)) tk (by rfl) cc.g__law_steps (ta_cons (te_var 1) (ta_nil)))) (ts_cons (ts_par 3 4 rfl Sc.nd rfl rfl (by decide) rfl rfl (ta_cons (te_lc false (own := [("_law_deed", 13)]) rfl Sc.nd (tf_any rfl (te_var 2)) (blkOk_by (N := ["_law_script", "_law_source_here", "_law_lot", "_law_due", "_law_saved", "_law_k", "_law_lap", "_law_bent", "_law_page", "_law_found", "_law_pages_now", "_law_at", "_law_kept", "_law_deed"]) (sc := defScope (top 65)) (own := [("_law_deed", 13)]) (by decide +kernel)) rfl (fun _ _ _ _ _ => pgc_name 13 Sc.nd) (fun _ _ _ _ _ => tts_nil) (fun _ _ _ _ _ => te_call rfl (ok__law_row cc tb) (hr.mono (by decide)) takes0 (by rfl) cc.g__law_row (ta_cons (te_var 13) (ta_nil)))) (ta_cons (te_callB (call_reprD hr hgd) cm_repr (by rfl) cc.f_repr (by decide +kernel) (ta_cons (te_var 2) (ta_nil))) (ta_nil))) rfl) (ts_cons (ts_for (passes_of rfl) rfl (tf_rng1 (by rfl) cc.f_range (ta_cons (te_callB call_len cm_len (by rfl) cc.f_len (by decide +kernel) (ta_cons (te_var 2) (ta_nil))) (ta_nil))) (pgm_name 5 Sc.nd) (ts_cons (ts_if (PW.pt (tt_or (tt_cmp (or_neS hr) (om_neS) (te_lst false (ta_cons (te_call rfl (ok_step_row cc tb) (hr.mono (by decide)) tk (by rfl) cc.g_step_row (ta_cons (te_ix or_ix om_ix (te_var 2) (te_var 5)) (ta_nil))) (ta_cons (te_callK rfl (okK_step_row cc tb) (hr.mono (by decide)) tk (by rfl) cc.g_step_row (tk_cons (te_ix or_ix om_ix (te_var 2) (te_var 5)) (tk_nil))) (ta_nil)))) (te_lst false (ta_cons (te_ix or_ix om_ix (te_var 3) (te_var 5)) (ta_cons (te_ix or_ix om_ix (te_var 3) (te_var 5)) (ta_nil))))) (tt_or1 (tt_cmp (or_neS hr) (om_neS) (te_callB (call_reprD hr hgd) cm_repr (by rfl) cc.f_repr (by decide +kernel) (ta_cons (te_call rfl (ok_read_step cc tb) (hr.mono (by decide)) tk (by rfl) cc.g_read_step (ta_cons (te_ix or_ix om_ix (te_var 3) (te_var 5)) (ta_nil))) (ta_nil))) (te_callB (call_reprD hr hgd) cm_repr (by rfl) cc.f_repr (by decide +kernel) (ta_cons (te_ix or_ix om_ix (te_var 2) (te_var 5)) (ta_nil))))))) (ts_one (ts_ret (te_bl))) (ts_nil)) (ts_one (ts_for (passes_of rfl) rfl (tf_rng1 (by rfl) cc.f_range (ta_cons (te_int) (ta_nil))) (pgm_name 6 Sc.nd) (ts_cons (ts_set 7 Sc.nd (te_call rfl (ok__law_bent_row cc tb) (hr.mono (by decide)) tk (by rfl) cc.g__law_bent_row (ta_cons (te_var 1) (ta_cons (te_ix or_ix om_ix (te_var 3) (te_var 5)) (ta_nil))))) (ts_cons (ts_set 7 Sc.nd (te_if (tt_cmp (or_eqS hr) (om_eqS) (te_var 6) (te_int)) (te_call rfl (ok__law_bent_row cc tb) (hr.mono (by decide)) tk (by rfl) cc.g__law_bent_row (ta_cons (te_var 1) (ta_cons (te_var 7) (ta_nil)))) (te_var 7))) (ts_one (ts_if (tt_cmp (or_neS hr) (om_neS) (te_callB (call_reprD hr hgd) cm_repr (by rfl) cc.f_repr (by decide +kernel) (ta_cons (te_said (k := 11) (ms := m__law_said "law.<locals>.<lambda>") 1 [7] 14 rfl (by rfl) cc.g__law_said FuS__law_said (FuS__law_said.bindsN fun _ _ _ _ _ _ us hl => match us, hl with | [_], _ => rfl) sc__law_said ⟨_, hcode, tb _ tf_mem1⟩ (LamX.lamS_by (sc := defScope (top 65)) (by decide +kernel)) (hr.mono (by decide)) rfl (fun A outer s H E f c' hr tk => te_callK rfl (okK_read_step cc tb) (hr.mono (by decide)) tk (by rfl) cc.g_read_step (tk_cons (te_var 7) (tk_nil))) (fun cdg s H f c ds vs ask hr act => b__law_said cc tb (hr.mono (by decide)) act) (hR__law_said "law.<locals>.<lambda>")) (ta_nil))) (te_callB (call_reprD hr hgd) cm_repr (by rfl) cc.f_repr (by decide +kernel) (ta_cons (te_call rfl (ok__law_row_due cc tb) (hr.mono (by decide)) tk (by rfl) cc.g__law_row_due (ta_cons (te_var 7) (ta_cons (te_int) (ta_nil)))) (ta_nil)))) (ts_one (ts_ret (te_bl))) (ts_nil))))))))) (ts_cons (ts_for (passes_of rfl) rfl (tf_any rfl (te_call0 rfl (ok__law_by_hand cc tb) (hr.mono (by decide)) tk (by rfl) cc.g__law_by_hand)) (pgm_name 8 Sc.nd) (ts_one (ts_if (tt_cmp (or_neS hr) (om_neS) (te_callB (call_reprD hr hgd) cm_repr (by rfl) cc.f_repr (by decide +kernel) (ta_cons (te_said (k := 11) (ms := m__law_said "law.<locals>.<lambda>") 1 [8] 14 rfl (by rfl) cc.g__law_said FuS__law_said (FuS__law_said.bindsN fun _ _ _ _ _ _ us hl => match us, hl with | [_], _ => rfl) sc__law_said ⟨_, hcode, tb _ tf_mem1⟩ (LamX.lamS_by (sc := defScope (top 65)) (by decide +kernel)) (hr.mono (by decide)) rfl (fun A outer s H E f c' hr tk => te_call rfl (ok_read_step cc tb) (hr.mono (by decide)) tk (by rfl) cc.g_read_step (ta_cons (te_var 8) (ta_nil))) (fun cdg s H f c ds vs ask hr act => b__law_said cc tb (hr.mono (by decide)) act) (hR__law_said "law.<locals>.<lambda>")) (ta_nil))) (te_callB (call_reprD hr hgd) cm_repr (by rfl) cc.f_repr (by decide +kernel) (ta_cons (te_call rfl (ok__law_row_due cc tb) (hr.mono (by decide)) tk (by rfl) cc.g__law_row_due (ta_cons (te_var 8) (ta_cons (te_int) (ta_nil)))) (ta_nil)))) (ts_one (ts_ret (te_bl))) (ts_nil)))) (ts_cons (ts_set 9 Sc.nd (te_call rfl (ok_log_rows cc tb) (hr.mono (by decide)) tk (by rfl) cc.g_log_rows (ta_cons (te_callTy call_tuple_of cm_tup (by rfl) cc.f_tuple (by decide +kernel) (ta_cons (te_var 2) (ta_nil))) (ta_nil)))) (ts_cons (ts_expr (te_bm rfl PySem.F.plainAttrs_list PySem.F.slot_list_append PySem.F.type_list_append mt_append (mm_append) (te_var 9) (ta_cons (te_str) (ta_nil)))) (ts_cons (ts_if (PW.pt (tt_or (tt_cmp (or_neS hr) (om_neS) (te_callK rfl (okK_log_rows cc tb) (hr.mono (by decide)) tk (by rfl) cc.g_log_rows (tk_cons (te_callTy call_tuple_of cm_tup (by rfl) cc.f_tuple (by decide +kernel) (ta_cons (te_var 2) (ta_nil))) (tk_nil))) (te_var 3)) (tt_or (tt_cmp (or_neS hr) (om_neS) (te_callB (call_reprD hr hgd) cm_repr (by rfl) cc.f_repr (by decide +kernel) (ta_cons (te_callK rfl (okK_read_log cc tb) (hr.mono (by decide)) tk (by rfl) cc.g_read_log (tk_cons (te_var 3) (tk_nil))) (ta_nil))) (te_callB (call_reprD hr hgd) cm_repr (by rfl) cc.f_repr (by decide +kernel) (ta_cons (te_callTy call_tuple_of cm_tup (by rfl) cc.f_tuple (by decide +kernel) (ta_cons (te_var 2) (ta_nil))) (ta_nil)))) (tt_or1 (tt_cmp (or_neS hr) (om_neS) (te_callB (call_reprD hr hgd) cm_repr (by rfl) cc.f_repr (by decide +kernel) (ta_cons (te_var 2) (ta_nil))) (te_var 4)))))) (ts_one (ts_ret (te_bl))) (ts_nil)) (ts_cons (ts_for (passes_of rfl) rfl (tf_rng1 (by rfl) cc.f_range (ta_cons (te_int) (ta_nil))) (pgm_name 6 Sc.nd) (ts_cons (ts_unp rfl rfl (te_tup (ta_cons (te_callTy call_list_of (cm_lst true) (by rfl) cc.f_list (by decide +kernel) (ta_cons (te_var 3) (ta_nil))) (ta_cons (te_call rfl (ok__law_draw cc tb) (hr.mono (by decide)) tk (by rfl) cc.g__law_draw (ta_cons (te_var 1) (ta_cons (te_callB call_len cm_len (by rfl) cc.f_len (by decide +kernel) (ta_cons (te_var 3) (ta_nil))) (ta_nil)))) (ta_nil)))) (pns_cons 10 Sc.nd (pns_cons 11 Sc.nd (pns_nil)))) (ts_cons (ts_put (te_var 10) (te_var 11) (te_call rfl (ok__law_bent_row cc tb) (hr.mono (by decide)) tk (by rfl) cc.g__law_bent_row (ta_cons (te_var 1) (ta_cons (te_ix or_ix om_ix (te_var 10) (te_var 11)) (ta_nil))))) (ts_cons (ts_set 12 Sc.nd (te_callTy call_list_of (cm_lst false) (by rfl) cc.f_list (by decide +kernel) (ta_cons (te_var 10) (ta_nil)))) (ts_one (ts_if (PW.pt (tt_or (tt_cmp (or_neS hr) (om_neS) (te_callB (call_reprD hr hgd) cm_repr (by rfl) cc.f_repr (by decide +kernel) (ta_cons (te_said (k := 11) (ms := m__law_said "law.<locals>.<lambda>") 1 [10] 14 rfl (by rfl) cc.g__law_said FuS__law_said (FuS__law_said.bindsN fun _ _ _ _ _ _ us hl => match us, hl with | [_], _ => rfl) sc__law_said ⟨_, hcode, tb _ tf_mem1⟩ (LamX.lamS_by (sc := defScope (top 65)) (by decide +kernel)) (hr.mono (by decide)) rfl (fun A outer s H E f c' hr tk => te_call rfl (ok_read_log cc tb) (hr.mono (by decide)) tk (by rfl) cc.g_read_log (ta_cons (te_var 10) (ta_nil))) (fun cdg s H f c ds vs ask hr act => b__law_said cc tb (hr.mono (by decide)) act) (hR__law_said "law.<locals>.<lambda>")) (ta_nil))) (te_callB (call_reprD hr hgd) cm_repr (by rfl) cc.f_repr (by decide +kernel) (ta_cons (te_call rfl (ok__law_log_due cc tb) (hr.mono (by decide)) tk (by rfl) cc.g__law_log_due (ta_cons (te_var 10) (ta_nil))) (ta_nil)))) (tt_or1 (tt_cmp (or_neS hr) (om_neS) (te_var 10) (te_var 12))))) (ts_one (ts_ret (te_bl))) (ts_nil))))))) (ts_one (ts_ret (te_andV rfl (te_cmp (or_eqS hr) (om_eqS) (te_call rfl (ok_read_log cc tb) (hr.mono (by decide)) tk (by rfl) cc.g_read_log (ta_cons (te_lst false (ta_nil)) (ta_nil))) (te_tup (ta_nil))) (te_one (te_cmp (or_eqS hr) (om_eqS) (te_call rfl (ok_log_rows cc tb) (hr.mono (by decide)) tk (by rfl) cc.g_log_rows (ta_cons (te_tup (ta_nil)) (ta_nil))) (te_lst false (ta_nil)))))))))))))))
end
end LW

set_option Elab.async false
set_option linter.all false
set_option maxRecDepth 100000
set_option maxHeartbeats 2000000
/-! Plain Lean about mirrors: comprehensions whose items are told alone. -/
namespace LW
open PySem L2 MI

theorem lcLoop_fix {xs : List D} {set : SetD} {tt : M Bool} {te : M D} {δ : MI.Env} {π : PH} (p : D → Bool) (f : D → D)
    (h : ∀ d ∈ xs, ∃ δ1, set d δ = some δ1 ∧ tt δ1 π = .ok (p d) π ∧ (p d = true → te δ1 π = .ok (f d) π)) :
    ∀ (k i : Nat) (acc : List D), i + k = xs.length → acc.length + k ≤ sizeLine → lcLoop (.fix xs) set tt te δ k i acc π = .ok (acc ++ ((xs.drop i).filter p).map f) π := by
  intro k
  induction k with
  | zero =>
    intro i acc hi hz
    have e : xs.drop i = [] := List.drop_eq_nil_of_le (by omega)
    rw [e]
    unfold lcLoop
    rw [if_pos (show Src.fin π (.fix xs) = true from rfl)]
    simp
  | succ k ih =>
    intro i acc hi hz
    have hlt : i < xs.length := by omega
    have hg : Src.get π i (.fix xs) = some xs[i] := List.getElem?_eq_getElem hlt
    obtain ⟨δ1, h1, h2, h3⟩ := h xs[i] (List.getElem_mem hlt)
    have hd : xs.drop i = xs[i] :: xs.drop (i + 1) := (List.drop_eq_getElem_cons hlt)
    unfold lcLoop
    rw [hg]
    dsimp only
    rw [h1]
    dsimp only
    rw [h2]
    dsimp only
    cases hp : p xs[i] with
    | false =>
      rw [if_neg (by simp), ih (i + 1) acc (by omega) (by omega), hd, List.filter_cons, if_neg (by rw [hp]; simp)]
    | true =>
      rw [if_pos rfl, h3 hp]
      dsimp only
      rw [if_pos (by omega), ih (i + 1) (acc ++ [f xs[i]]) (by omega) (by simp; omega), hd, List.filter_cons, if_pos hp, List.map_cons, List.append_assoc]
      rfl
theorem mLc_fix {reg : Bool} {is : List Nat} {src : M Src} {xs : List D} {set : SetD} {tt : M Bool} {te : M D} {δ : MI.Env} {π π1 : PH} (p : D → Bool) (f : D → D) (hs : src δ π = .ok (.fix xs) π1) (hz : xs.length ≤ sizeLine)
    (h : ∀ d ∈ xs, ∃ δ1, set d (wipeE δ is) = some δ1 ∧ tt δ1 π1 = .ok (p d) π1 ∧ (p d = true → te δ1 π1 = .ok (f d) π1)) :
    mLc reg is src set tt te δ π = alloc reg ((xs.filter p).map f) π1 := by
  unfold mLc
  rw [hs]
  show (lcLoop (.fix xs) set tt te (wipeE δ is) xs.length 0 [] π1).bind _ = _
  rw [lcLoop_fix p f h xs.length 0 [] (by simp) (by simpa using hz)]
  simp [Res.bind]
section
variable {β β' : Type} {b : β} {π : PH} {δ δ1 : MI.Env} {d e : D}
theorem bind_ok (k : β → PH → Res β') : (Res.ok b π).bind k = k b π := rfl
theorem bind_exc (x : Xc) (k : β → PH → Res β') : (Res.exc x π : Res β).bind k = .exc x π := rfl
theorem sb_ok (k : β → PH → SRes) : (Res.ok b π).sb δ k = k b π := rfl
theorem sb_exc (x : Xc) (k : β → PH → SRes) : (Res.exc x π : Res β).sb δ k = .exc x δ π := rfl
theorem then_nx (m : MS) : (SRes.nx δ π).then_ m = m δ π := rfl
theorem then_ret (m : MS) : (SRes.ret d π).then_ m = .ret d π := rfl
theorem then_exc (x : Xc) (m : MS) : (SRes.exc x δ π).then_ m = .exc x δ π := rfl
theorem when_true (r : Res β) : when_ true r = r := rfl
theorem opt_some (b : β) (k : β → Res β') : opt (some b) k = k b := rfl
theorem fTru_bl (c : Bool) : fTru (.bl c) π = .ok c π := rfl
theorem fB_bl (c : Bool) : fB (.bl c) π = .ok c π := rfl
theorem fLe_int (i j : Int) : fLe (.int i) (.int j) π = .ok (.bl (decide (i ≤ j))) π := rfl
theorem fIsi_str (s : Str) : fIsi [.str s, .ty "str"] π = .ok (.bl true) π := rfl
theorem fLen_str {s : Str} (h : s.length ≤ sizeLine) : fLen [.str s] π = .ok (.int s.length) π := by
  show when_ (fitsB s.length) _ = _
  rw [show fitsB s.length = true from decide_eq_true h]
  rfl
end
end LW

set_option Elab.async false
set_option linter.all false
set_option maxRecDepth 100000
set_option maxHeartbeats 4000000
namespace LW
open PySem L2 MI

def letter (c : Nat) : Bool := decide (97 ≤ c ∧ c ≤ 122)
def isName (s : Str) : Bool := decide (1 ≤ s.length) && decide (s.length ≤ 8) && s.cps.toList.all letter
theorem letters_mem (c : Nat) : decide (c ∈ ("abcdefghijklmnopqrstuvwxyz" : Str).cps.toList) = letter c := by
  have e : ("abcdefghijklmnopqrstuvwxyz" : Str).cps.toList = (List.range 26).map (· + 97) := by decide +kernel
  rw [e]
  unfold letter
  rw [decide_eq_decide, List.mem_map]
  constructor
  · rintro ⟨a, ha, rfl⟩
    have := List.mem_range.mp ha
    omega
  · rintro ⟨h1, h2⟩
    exact ⟨c - 97, List.mem_range.mpr (by omega), by omega⟩
theorem blsOf_map (l : List Nat) (p : Nat → Bool) (f : D → D) (hf : ∀ c, f (.str ⟨#[c]⟩) = .bl (p c)) : blsOf (((l.map fun c => D.str ⟨#[c]⟩).filter fun _ => true).map f) = some (l.map p) := by
  induction l with
  | nil => rfl
  | cons a l ih =>
    simp only [List.map_cons, List.filter_cons_of_pos, hf, blsOf]
    rw [ih]
    rfl
theorem fIn_char (c : Nat) (z : Str) (neg : Bool) (π : PH) : fIn neg (.str ⟨#[c]⟩) (.str z) π = .ok (.bl (decide (c ∈ z.cps.toList) != neg)) π := by
  unfold fIn
  exact if_pos rfl
theorem size_len (s : Str) : s.cps.size = s.length := rfl
theorem is_name_ok (s : Str) (π : PH) (hz : s.length ≤ sizeLine) : F_is_name [.str s] π = .ok (.bl (isName s)) π := by
  have h0 : fitsB s.length = true := decide_eq_true hz
  have ec : mLc false [1] (mUn fSrc (mVar 0)) (setN 1) mYes (mOp (fIn false) (mVar 1) (mC (.str "abcdefghijklmnopqrstuvwxyz"))) [some (.str s), none] π = .ok (.lst (((s.cps.toList.map fun c => D.str ⟨#[c]⟩).filter fun _ => true).map fun d => match d with | .str z => .bl (letter (z.cps.toList.headD 0)) | _ => .non)) π := by
    refine mLc_fix (xs := s.cps.toList.map fun c => D.str ⟨#[c]⟩) (fun _ => true) _ rfl (by rw [List.length_map, Array.length_toList]; exact hz) fun d hd => ?_
    obtain ⟨c, _, rfl⟩ := List.mem_map.mp hd
    refine ⟨_, rfl, rfl, fun _ => ?_⟩
    have e : mOp (fIn false) (mVar 1) (mC (.str "abcdefghijklmnopqrstuvwxyz")) [some (.str s), some (.str ⟨#[c]⟩)] π = fIn false (.str ⟨#[c]⟩) (.str "abcdefghijklmnopqrstuvwxyz") π := rfl
    refine e.trans ?_
    rw [fIn_char, letters_mem]
    simp
  have eb : blsOf (((s.cps.toList.map fun c => D.str ⟨#[c]⟩).filter fun _ => true).map fun d => match d with | .str z => .bl (letter (z.cps.toList.headD 0)) | _ => .non) = some (s.cps.toList.map letter) := blsOf_map _ _ _ fun c => rfl
  unfold F_is_name runB m_is_name isName
  simp only [sThen, sIf, sRet, sNx, mOr, mNot, mTru, mB, mChain, mArgs, mCons, mNil, mUn, mC, mVar, List.map_cons, List.map_nil, List.length_cons, List.length_nil, List.replicate, List.append, List.cons_append, List.nil_append, Nat.reduceAdd, Nat.reduceSub, List.getElem?_cons_zero, List.getElem?_cons_succ, bind_ok, sb_ok, fIsi_str, fLen_str hz, fTru_bl, fB_bl, fLe_int, Bool.not_true, Bool.false_eq_true, if_false]
  by_cases h1 : (1 : Int) ≤ s.length
  · have h1' : 1 ≤ s.length := by omega
    simp only [h1, h1', decide_true, if_true, bind_ok, fLe_int, fB_bl]
    by_cases h2 : (s.length : Int) ≤ 8
    · have h2' : s.length ≤ 8 := by omega
      simp only [h2, h2', decide_true, Bool.not_true, Bool.false_eq_true, if_false, bind_ok, sb_ok, then_nx, sRet, mArgs, mCons, mNil, ec, fAll, lsOf, opt_some, eb, List.all_map, Bool.true_and]
      rfl
    · have h2' : ¬ s.length ≤ 8 := by omega
      simp only [h2, h2', decide_false, Bool.not_false, if_true, bind_ok, sb_ok, then_ret, Bool.and_false, Bool.false_and]
  · have h1' : ¬ 1 ≤ s.length := by omega
    simp only [h1, h1', decide_false, Bool.false_eq_true, if_false, fB_bl, Bool.not_false, if_true, bind_ok, sb_ok, then_ret, Bool.false_and]
end LW

set_option Elab.async false
set_option linter.all false
set_option maxRecDepth 100000
set_option maxHeartbeats 4000000
namespace LW
open PySem L2 MI

def digit (c : Nat) : Bool := decide (48 ≤ c ∧ c ≤ 57)
theorem digits_mem (c : Nat) : decide (c ∈ ("0123456789" : Str).cps.toList) = digit c := by
  have e : ("0123456789" : Str).cps.toList = (List.range 10).map (· + 48) := by decide +kernel
  rw [e]
  unfold digit
  rw [decide_eq_decide, List.mem_map]
  constructor
  · rintro ⟨a, ha, rfl⟩
    have := List.mem_range.mp ha
    omega
  · rintro ⟨h1, h2⟩
    exact ⟨c - 48, List.mem_range.mpr (by omega), by omega⟩
end LW

set_option Elab.async false
set_option linter.all false
set_option maxRecDepth 100000
set_option maxHeartbeats 4000000
namespace LW
open PySem L2 MI
/-- a word of digits -/
def numWord (s : Str) : Bool := decide (1 ≤ s.length) && decide (s.length ≤ 60) && s.cps.toList.all digit
def numIn (s : Str) : Option Int := if numWord s = true then (if s == "0" || s.cps.toList.headD 0 != 48 then PySem.intText? s else none) else none
def optD : Option Int → D
  | some i => .int i
  | none => .non
theorem all_digits (s : Str) (π : PH) (hz : s.length ≤ sizeLine) : mArgs fAll (mCons (mLc false [1] (mUn fSrc (mVar 0)) (setN 1) (mYes) (mOp (fIn false) (mVar 1) (mC (.str "0123456789")))) (mNil)) [some (.str s), none] π = .ok (.bl (s.cps.toList.all digit)) π := by
  have ec : mLc false [1] (mUn fSrc (mVar 0)) (setN 1) mYes (mOp (fIn false) (mVar 1) (mC (.str "0123456789"))) [some (.str s), none] π = .ok (.lst (((s.cps.toList.map fun c => D.str ⟨#[c]⟩).filter fun _ => true).map fun d => match d with | .str z => .bl (digit (z.cps.toList.headD 0)) | _ => .non)) π := by
    refine mLc_fix (xs := s.cps.toList.map fun c => D.str ⟨#[c]⟩) (fun _ => true) _ rfl (by rw [List.length_map, Array.length_toList]; exact hz) fun d hd => ?_
    obtain ⟨c, _, rfl⟩ := List.mem_map.mp hd
    refine ⟨_, rfl, rfl, fun _ => ?_⟩
    have e : mOp (fIn false) (mVar 1) (mC (.str "0123456789")) [some (.str s), some (.str ⟨#[c]⟩)] π = fIn false (.str ⟨#[c]⟩) (.str "0123456789") π := rfl
    refine e.trans ?_
    rw [fIn_char, digits_mem]
    simp
  have eb : blsOf (((s.cps.toList.map fun c => D.str ⟨#[c]⟩).filter fun _ => true).map fun d => match d with | .str z => .bl (digit (z.cps.toList.headD 0)) | _ => .non) = some (s.cps.toList.map digit) := blsOf_map _ _ _ fun c => rfl
  simp only [runB, sThen, sIf, sRet, sSet, sExpr, sNx, mOr, mAnd, mNot, mTru, mB, mIf, mChain, mArgs, mCons, mNil, mUn, mOp, mC, mVar, List.map_cons, List.map_nil, List.length_cons, List.length_nil, List.replicate, List.append, List.cons_append, List.nil_append, Nat.reduceAdd, Nat.reduceSub, List.getElem?_cons_zero, List.getElem?_cons_succ, List.set_cons_zero, List.set_cons_succ, bind_ok, bind_exc, sb_ok, sb_exc, then_nx, then_ret, then_exc, when_true, opt_some, fIsi_str, fTru_bl, fB_bl, fLe_int, Bool.not_true, Bool.not_false, Bool.false_eq_true, if_false, if_true, decide_true, decide_false, ec, fAll, lsOf, eb, List.all_map]
  rfl
theorem chain_len (lo hi : Int) (s : Str) (δ : MI.Env) (π : PH) (h0 : δ[0]? = some (some (.str s))) (hz : s.length ≤ sizeLine) : mB (mChain (fLe) (fLe) (mC (.int lo)) (mArgs fLen (mCons (mVar 0) (mNil))) (mC (.int hi))) δ π = .ok (decide (lo ≤ s.length) && decide ((s.length : Int) ≤ hi)) π := by
  simp only [runB, sThen, sIf, sRet, sSet, sExpr, sNx, mOr, mAnd, mNot, mTru, mB, mIf, mChain, mArgs, mCons, mNil, mUn, mOp, mC, mVar, List.map_cons, List.map_nil, List.length_cons, List.length_nil, List.replicate, List.append, List.cons_append, List.nil_append, Nat.reduceAdd, Nat.reduceSub, List.getElem?_cons_zero, List.getElem?_cons_succ, List.set_cons_zero, List.set_cons_succ, bind_ok, bind_exc, sb_ok, sb_exc, then_nx, then_ret, then_exc, when_true, opt_some, fIsi_str, fTru_bl, fB_bl, fLe_int, Bool.not_true, Bool.not_false, Bool.false_eq_true, if_false, if_true, decide_true, decide_false, h0, fLen_str hz]
  by_cases h1 : lo ≤ s.length
  · simp only [runB, sThen, sIf, sRet, sSet, sExpr, sNx, mOr, mAnd, mNot, mTru, mB, mIf, mChain, mArgs, mCons, mNil, mUn, mOp, mC, mVar, List.map_cons, List.map_nil, List.length_cons, List.length_nil, List.replicate, List.append, List.cons_append, List.nil_append, Nat.reduceAdd, Nat.reduceSub, List.getElem?_cons_zero, List.getElem?_cons_succ, List.set_cons_zero, List.set_cons_succ, bind_ok, bind_exc, sb_ok, sb_exc, then_nx, then_ret, then_exc, when_true, opt_some, fIsi_str, fTru_bl, fB_bl, fLe_int, Bool.not_true, Bool.not_false, Bool.false_eq_true, if_false, if_true, decide_true, decide_false, h1, Bool.true_and]
  · simp only [runB, sThen, sIf, sRet, sSet, sExpr, sNx, mOr, mAnd, mNot, mTru, mB, mIf, mChain, mArgs, mCons, mNil, mUn, mOp, mC, mVar, List.map_cons, List.map_nil, List.length_cons, List.length_nil, List.replicate, List.append, List.cons_append, List.nil_append, Nat.reduceAdd, Nat.reduceSub, List.getElem?_cons_zero, List.getElem?_cons_succ, List.set_cons_zero, List.set_cons_succ, bind_ok, bind_exc, sb_ok, sb_exc, then_nx, then_ret, then_exc, when_true, opt_some, fIsi_str, fTru_bl, fB_bl, fLe_int, Bool.not_true, Bool.not_false, Bool.false_eq_true, if_false, if_true, decide_true, decide_false, h1, Bool.false_and]
end LW

set_option Elab.async false
set_option linter.all false
set_option maxRecDepth 100000
set_option maxHeartbeats 4000000
namespace LW
open PySem L2 MI PySem.NumText
theorem step_digit {c : Nat} (h : digit c = true) (ds : Array Nat) (b : Bool) : NumText.step 10 (ds, b) c = some (ds.push (c - 48), true) := by
  unfold digit at h
  have h := of_decide_eq_true h
  unfold NumText.step
  have hc : c = 48 ∨ c = 49 ∨ c = 50 ∨ c = 51 ∨ c = 52 ∨ c = 53 ∨ c = 54 ∨ c = 55 ∨ c = 56 ∨ c = 57 := by omega
  rcases hc with rfl | rfl | rfl | rfl | rfl | rfl | rfl | rfl | rfl | rfl <;> rfl
theorem fold_digits : ∀ (l : List Nat) (ds : Array Nat) (b : Bool), l.all digit = true → l ≠ [] → l.foldlM (NumText.step 10) (ds, b) = some (ds ++ (l.map (· - 48)).toArray, true)
  | [c], ds, b, h, _ => by
    simp only [List.all_cons, List.all_nil, Bool.and_true] at h
    rw [List.foldlM_cons, step_digit h]
    simp
  | c :: d :: l, ds, b, h, _ => by
    have h1 : digit c = true := by simp only [List.all_cons, Bool.and_eq_true] at h; exact h.1
    have h2 : (d :: l).all digit = true := by simp only [List.all_cons, Bool.and_eq_true] at h ⊢; exact h.2
    rw [List.foldlM_cons, step_digit h1]
    have ih := fold_digits (d :: l) (ds.push (c - 48)) true h2 (by simp)
    show (d :: l).foldlM (NumText.step 10) (ds.push (c - 48), true) = _
    rw [ih]
    simp
theorem digit_blank {c : Nat} (h : digit c = true) : blank c = false := by
  unfold digit at h
  have h := of_decide_eq_true h
  unfold blank
  have e1 : (c == 32) = false := by rw [beq_eq_false_iff_ne]; omega
  rw [e1]
  simp only [Bool.false_or, Bool.and_eq_false_iff, decide_eq_false_iff_not]
  omega
theorem drop_digits {l : List Nat} (h : l.all digit = true) : l.dropWhile blank = l := by
  cases l with
  | nil => rfl
  | cons c l =>
    simp only [List.all_cons, Bool.and_eq_true] at h
    rw [List.dropWhile_cons, digit_blank h.1]
    rfl
theorem sign_digits {l : List Nat} (h : l.all digit = true) : sign l = (false, l) := by
  cases l with
  | nil => rfl
  | cons c l =>
    simp only [List.all_cons, Bool.and_eq_true] at h
    have h1 := h.1
    unfold digit at h1
    have h1 := of_decide_eq_true h1
    unfold sign
    split
    · rename_i e; cases e; omega
    · rename_i e; cases e; omega
    · rfl
theorem core_digits {l : List Nat} (h : l.all digit = true) : core l = l := by
  unfold core
  rw [drop_digits h, sign_digits h]
  show (l.reverse.dropWhile blank).reverse = l
  rw [drop_digits (by rw [List.all_reverse]; exact h), List.reverse_reverse]
/-- a word of digits is a number -/
theorem intText_digits {s : Str} (h : s.cps.toList.all digit = true) (h1 : 1 ≤ s.length) (h2 : s.length ≤ 640) : ∃ n : Nat, PySem.intText? s = some (n : Int) := by
  have lt : ∀ c, digit c = true → 48 ≤ c ∧ c ≤ 57 := fun c e => of_decide_eq_true e
  have e0 : s.cps.all (fun c => decide (c < 128)) = true := by
    rw [← Array.all_toList]
    exact List.all_eq_true.mpr fun c hc => decide_eq_true (by have := lt c (List.all_eq_true.mp h c hc); omega)
  have e1 : PySem.numTextOf s = s.cps.toList := if_pos e0
  have e2 : PySem.numSeenOf s = s.cps.toList := by
    show (PySem.numTextOf s).takeWhile _ = _
    rw [e1]
    have tw : ∀ l : List Nat, (∀ c ∈ l, c ≠ 0) → l.takeWhile (· != 0) = l := fun l => by
      induction l with
      | nil => intro _; rfl
      | cons c l ih =>
        intro hl
        rw [List.takeWhile_cons, if_pos (by simpa using hl c List.mem_cons_self), ih fun d hd => hl d (List.mem_cons_of_mem _ hd)]
    exact tw _ fun c hc => by
      have := lt c (List.all_eq_true.mp h c hc)
      omega
  have ne : s.cps.toList ≠ [] := fun e => by
    have z : s.cps.toList.length = s.length := Array.length_toList
    rw [e] at z
    simp at z; omega
  have e3 : digits? 10 s.cps.toList = some ((#[] : Array Nat) ++ (s.cps.toList.map (· - 48)).toArray) := by
    unfold digits?
    rw [fold_digits _ _ _ h ne]
    rfl
  unfold PySem.intText?
  rw [e1, e2, core_digits h, e3, drop_digits h, sign_digits h]
  simp only [beq_self_eq_true, if_true]
  rw [if_pos (by have z : s.cps.size = s.length := rfl; simp; omega)]
  exact ⟨_, rfl⟩
end LW

set_option Elab.async false
set_option linter.all false
set_option maxRecDepth 100000
set_option maxHeartbeats 4000000
namespace LW
open PySem L2 MI
theorem fEqS_str (a b : Str) (neg : Bool) (π : PH) : fEqS neg (.str a) (.str b) π = .ok (.bl ((a == b) != neg)) π := rfl
theorem numWord_some {s : Str} (h : numWord s = true) : ∃ n : Nat, PySem.intText? s = some (n : Int) := by
  unfold numWord at h
  simp only [Bool.and_eq_true, decide_eq_true_eq] at h
  exact intText_digits h.2 h.1.1 (by omega)
theorem fIntS_num {s : Str} (h : numWord s = true) (π : PH) : fIntS [.str s] π = .ok (optD (PySem.intText? s)) π := by
  obtain ⟨n, e⟩ := numWord_some h
  unfold numWord at h
  simp only [Bool.and_eq_true, decide_eq_true_eq] at h
  show when_ (decide (s.length ≤ 640)) (opt (PySem.intText? s) fun n => Res.ok (D.int n) π) = _
  rw [e, show decide (s.length ≤ 640) = true from decide_eq_true (by omega)]
  rfl
theorem fIx_head {s : Str} (h1 : 1 ≤ s.length) (hz : s.length ≤ sizeLine) (π : PH) : fIx (.str s) (.int 0) π = .ok (.str ⟨#[s.cps.toList.headD 0]⟩) π := by
  have hne : s.cps.toList ≠ [] := fun e => by
    have z : s.cps.toList.length = s.length := Array.length_toList
    rw [e] at z
    simp at z; omega
  show when_ (fitsB s.length) (opt (atI s.cps.toList 0) fun c => Res.ok (D.str ⟨#[c]⟩) π) = _
  rw [show fitsB s.length = true from decide_eq_true hz]
  cases e : s.cps.toList with
  | nil => exact absurd e hne
  | cons c l => 
    have : atI (c :: l) (0 : Int) = some c := by unfold atI ixN; simp
    rw [this]
    rfl
/-- the end of both readings of a number -/
theorem num_end {s : Str} (h : numWord s = true) (hz : s.length ≤ sizeLine) (δ : MI.Env) (π : PH) (h0 : δ[0]? = some (some (.str s))) : mIf (mOr (mB (mOp (fEqS false) (mVar 0) (mC (.str "0")))) (mB (mOp (fEqS true) (mOp fIx (mVar 0) (mC (.int 0))) (mC (.str "0"))))) (mArgs fIntS (mCons (mVar 0) (mNil))) (mC .non) δ π = .ok (optD (numIn s)) π := by
  have h1 : 1 ≤ s.length := by
    unfold numWord at h
    simp only [Bool.and_eq_true, decide_eq_true_eq] at h
    exact h.1.1
  have ez : ((⟨#[s.cps.toList.headD 0]⟩ : Str) == ("0" : Str)) = (s.cps.toList.headD 0 == 48) := by
    have e0 : ("0" : Str) = ⟨#[48]⟩ := by decide +kernel
    rw [e0]
    by_cases hc : s.cps.toList.headD 0 = 48
    · rw [hc]; rfl
    · have z1 : ((⟨#[s.cps.toList.headD 0]⟩ : Str) == ⟨#[48]⟩) = false := by
        rw [beq_eq_false_iff_ne]
        intro e
        injection e with e
        simp at e
        exact hc (by simpa using e)
      rw [z1, beq_eq_false_iff_ne.mpr hc]
  unfold numIn
  rw [if_pos h]
  simp only [runB, sThen, sIf, sRet, sSet, sExpr, sNx, mOr, mAnd, mNot, mTru, mB, mIf, mChain, mArgs, mCons, mNil, mUn, mOp, mC, mVar, List.map_cons, List.map_nil, List.length_cons, List.length_nil, List.replicate, List.append, List.cons_append, List.nil_append, Nat.reduceAdd, Nat.reduceSub, List.getElem?_cons_zero, List.getElem?_cons_succ, List.set_cons_zero, List.set_cons_succ, bind_ok, bind_exc, sb_ok, sb_exc, then_nx, then_ret, then_exc, when_true, opt_some, fIsi_str, fTru_bl, fB_bl, fLe_int, Bool.not_true, Bool.not_false, Bool.false_eq_true, if_false, if_true, decide_true, decide_false, h0, fEqS_str, fIx_head h1 hz, fIntS_num h, ez]
  cases e1 : (s == "0") with
  | true => simp [fIntS_num h, bind_ok]
  | false =>
    cases e2 : (s.cps.toList.headD 0 == 48) with
    | true => simp_all [optD, bne, bind_ok]
    | false => simp_all [optD, bne, fIntS_num h, bind_ok]
section
variable {β : Type} {δ : MI.Env} {π : PH}
theorem mTru_ap (m : M D) : mTru m δ π = (m δ π).bind fun d π1 => fTru d π1 := rfl
theorem mOr_ap (a b : M Bool) : mOr a b δ π = (a δ π).bind fun c π1 => if c = true then .ok true π1 else b δ π1 := rfl
theorem mNot_ap (a : M Bool) : mNot a δ π = (a δ π).bind fun c π1 => .ok (!c) π1 := rfl
theorem sThen_ap (a b : MS) : sThen a b δ π = (a δ π).then_ b := rfl
theorem sIf_ap (c : M Bool) (a b : MS) : sIf c a b δ π = (c δ π).sb δ fun k π1 => if k = true then a δ π1 else b δ π1 := rfl
theorem sRet_ap (m : M D) : sRet m δ π = (m δ π).sb δ fun d π1 => .ret d π1 := rfl
theorem sNx_ap : sNx δ π = .nx δ π := rfl
theorem mC_ap (d : D) : mC d δ π = .ok d π := rfl
end
theorem number_or_none_ok (s : Str) (π : PH) (hz : s.length ≤ sizeLine) : F_number_or_none [.str s] π = .ok (optD (numIn s)) π := by
  unfold F_number_or_none runB m_number_or_none
  have e1 := chain_len 1 60 s [some (.str s), none] π rfl hz
  have e2 := all_digits s π hz
  have ew : ((decide ((1 : Int) ≤ s.length) && decide ((s.length : Int) ≤ 60)) && s.cps.toList.all digit) = numWord s := by
    unfold numWord
    congr 2 <;> exact decide_eq_decide.mpr (by omega)
  simp only [List.map_cons, List.map_nil, List.length_cons, List.length_nil, List.replicate, List.cons_append, List.nil_append, Nat.reduceAdd, Nat.reduceSub, sThen_ap, sIf_ap, mOr_ap, mNot_ap, mTru_ap, e1, e2, bind_ok, fTru_bl]
  by_cases hw : numWord s = true
  · have e3 := num_end hw hz [some (.str s), none] π rfl
    rw [hw, Bool.and_eq_true] at ew
    simp only [ew.1, ew.2, Bool.not_true, Bool.false_eq_true, if_false, sb_ok, then_nx, sNx_ap, sRet_ap, e3]
  · have hn : numIn s = none := if_neg hw
    have hw' : numWord s = false := by simpa using hw
    rw [hw', Bool.and_eq_false_iff] at ew
    rw [hn]
    rcases ew with e | e
    · simp only [e, Bool.not_false, if_true, sb_ok, sRet_ap, mC_ap, then_ret, optD]
    · cases e4 : (decide ((1 : Int) ≤ s.length) && decide ((s.length : Int) ≤ 60)) <;> simp [e, sb_ok, sRet_ap, mC_ap, then_ret, optD]
end LW

set_option Elab.async false
set_option linter.all false
set_option maxRecDepth 100000
set_option maxHeartbeats 4000000
namespace LW
open PySem L2 MI
theorem mB_ap {δ : MI.Env} {π : PH} (m : M D) : mB m δ π = (m δ π).bind fun d π1 => fB d π1 := rfl
theorem mOp_ap {δ : MI.Env} {π : PH} (f : D → D → PH → Res D) (a b : M D) : mOp f a b δ π = (a δ π).bind fun d π1 => (b δ π1).bind fun e π2 => f d e π2 := rfl
/-- signs that are no digits -/
theorem no_digits (s : Str) (π : PH) (hz : s.length ≤ sizeLine) : mLc false [1] (mUn fSrc (mVar 0)) (setN 1) (mB (mOp (fIn true) (mVar 1) (mC (.str "0123456789")))) (mVar 1) [some (.str s), none] π = .ok (.lst ((s.cps.toList.filter fun c => !digit c).map fun c => D.str ⟨#[c]⟩)) π := by
  have e := mLc_fix (reg := false) (is := [1]) (src := mUn fSrc (mVar 0)) (xs := s.cps.toList.map fun c => D.str ⟨#[c]⟩) (set := setN 1) (tt := mB (mOp (fIn true) (mVar 1) (mC (.str "0123456789")))) (te := mVar 1) (δ := [some (.str s), none]) (π := π) (π1 := π)
    (fun d => match d with | .str z => !(digit (z.cps.toList.headD 0)) | _ => false) (fun d => d) rfl (by rw [List.length_map, Array.length_toList]; exact hz) (fun d hd => by
      obtain ⟨c, _, rfl⟩ := List.mem_map.mp hd
      refine ⟨_, rfl, ?_, fun _ => rfl⟩
      have e : mOp (fIn true) (mVar 1) (mC (.str "0123456789")) [some (.str s), some (.str ⟨#[c]⟩)] π = fIn true (.str ⟨#[c]⟩) (.str "0123456789") π := rfl
      refine (mB_ap _).trans ?_
      refine (congrArg (fun r : Res D => r.bind fun d π1 => fB d π1) e).trans ?_
      rw [fIn_char, digits_mem]
      show Res.ok _ _ = Res.ok _ _
      simp)
  rw [e]
  show Res.ok (D.lst _) π = _
  congr 2
  rw [List.map_id']
  generalize s.cps.toList = l
  induction l with
  | nil => rfl
  | cons c l ih =>
    rw [List.map_cons, List.filter_cons, List.filter_cons]
    show (if (!digit c) = true then _ else _) = _
    cases hd : digit c <;> simp [hd] <;> simpa using ih
end LW

set_option Elab.async false
set_option linter.all false
set_option maxRecDepth 100000
set_option maxHeartbeats 4000000
namespace LW
open PySem L2 MI
/-- signs below 128 -/
def asc (s : Str) : Prop := ∀ c ∈ s.cps.toList, c < 128
theorem pds_chars : ∀ l : List Nat, pds (l.map fun c => D.str ⟨#[c]⟩) = some (l.map fun c => PyData.str ⟨#[c]⟩)
  | [] => by simp [pds]
  | c :: l => by
    rw [List.map_cons, List.map_cons]
    simp only [pds, pd, pds_chars l]
theorem can_chars : ∀ l : List Nat, (∀ c ∈ l, c < 128) → PyData.canLayAll0 (l.map fun c => PyData.str ⟨#[c]⟩) = true
  | [], _ => by simp [PyData.canLayAll0]
  | c :: l, h => by
    rw [List.map_cons]
    simp only [PyData.canLayAll0, PyData.canLay0, can_chars l fun d hd => h d (List.mem_cons_of_mem _ hd), Bool.and_true]
    have := h c List.mem_cons_self
    simp [PyData.strOk]; omega
theorem dep_chars : ∀ l : List Nat, PyData.depthAll (l.map fun c => PyData.str ⟨#[c]⟩) = 0
  | [] => by simp [PyData.depthAll]
  | c :: l => by
    rw [List.map_cons]
    simp [PyData.depthAll, PyData.depth, dep_chars l]
/-- a list of signs, is it another list than []? -/
theorem ne_nil_chars (l : List Nat) (h : ∀ c ∈ l, c < 128) (π : PH) : fEqS true (.lst (l.map fun c => D.str ⟨#[c]⟩)) (.lst []) π = .ok (.bl (!l.isEmpty)) π := by
  have e1 : pdH π (.lst (l.map fun c => D.str ⟨#[c]⟩)) = some (.list (l.map fun c => PyData.str ⟨#[c]⟩)) := by
    show pd _ = _
    simp only [pd, pds_chars, Option.map_some]
  have e2 : pdH π (.lst []) = some (.list []) := by
    show pd _ = _
    simp only [pd, pds, Option.map_some]
  have s1 : SeqAt.shaped (.list (l.map fun c => PyData.str ⟨#[c]⟩)) = true := by
    unfold SeqAt.shaped
    simp [PyData.canLay0, can_chars l h, PyData.depth, dep_chars]
  have s2 : SeqAt.shaped (.list []) = true := by decide
  show opt (eqD π _ _) _ = _
  unfold eqD
  rw [e1, e2]
  dsimp only
  rw [if_pos ⟨s1, s2⟩]
  cases l with
  | nil => rfl
  | cons c l => rfl
end LW

set_option Elab.async false
set_option linter.all false
set_option maxRecDepth 100000
set_option maxHeartbeats 4000000
namespace LW
open PySem L2 MI
theorem filter_digits (l : List Nat) : (!(l.filter fun c => !digit c).isEmpty) = !(l.all digit) := by
  induction l with
  | nil => rfl
  | cons c l ih =>
    rw [List.filter_cons, List.all_cons]
    cases digit c with
    | true => simpa using ih
    | false => rfl
theorem law_number_in_ok (s : Str) (π : PH) (hz : s.length ≤ sizeLine) (ha : asc s) : F__law_number_in [.str s] π = .ok (optD (numIn s)) π := by
  unfold F__law_number_in runB m__law_number_in
  have e1 := chain_len 1 60 s [some (.str s), none] π rfl hz
  have e2 := no_digits s π hz
  have e0 : mLst false mNil [some (.str s), none] π = .ok (.lst []) π := rfl
  have e4 := ne_nil_chars (s.cps.toList.filter fun c => !digit c) (fun c hc => ha c (List.mem_filter.mp hc).1) π
  rw [filter_digits] at e4
  have ew : ((decide ((1 : Int) ≤ s.length) && decide ((s.length : Int) ≤ 60)) && s.cps.toList.all digit) = numWord s := by
    unfold numWord
    congr 2 <;> exact decide_eq_decide.mpr (by omega)
  have e5 : mB (mOp (fEqS true) (mLc false [1] (mUn fSrc (mVar 0)) (setN 1) (mB (mOp (fIn true) (mVar 1) (mC (.str "0123456789")))) (mVar 1)) (mLst false (mNil))) [some (.str s), none] π = .ok (!(s.cps.toList.all digit)) π := by
    rw [mB_ap, mOp_ap, e2, bind_ok, e0, bind_ok, e4]
    rfl
  simp only [List.map_cons, List.map_nil, List.length_cons, List.length_nil, List.replicate, List.cons_append, List.nil_append, Nat.reduceAdd, Nat.reduceSub, sThen_ap, sIf_ap, mOr_ap, mNot_ap, e1, e5, bind_ok]
  by_cases hw : numWord s = true
  · have e3 := num_end hw hz [some (.str s), none] π rfl
    rw [hw, Bool.and_eq_true] at ew
    simp only [ew.1, ew.2, Bool.not_true, Bool.false_eq_true, if_false, sb_ok, then_nx, sNx_ap, sRet_ap, e3]
  · have hn : numIn s = none := if_neg hw
    have hw' : numWord s = false := by simpa using hw
    rw [hw', Bool.and_eq_false_iff] at ew
    rw [hn]
    rcases ew with e | e
    · simp only [e, Bool.not_false, if_true, sb_ok, sRet_ap, mC_ap, then_ret, optD]
    · cases e4 : (decide ((1 : Int) ≤ s.length) && decide ((s.length : Int) ≤ 60)) <;> simp [e, sb_ok, sRet_ap, mC_ap, then_ret, optD]
end LW

set_option Elab.async false
set_option linter.all false
set_option maxRecDepth 100000
set_option maxHeartbeats 4000000
namespace LW
open PySem L2 MI
def negO : Option Int → Option Int
  | none => none
  | some i => if i = 0 then none else some (-i)
def wholeIn (s : Str) : Option Int := if (cutS s none (some 1)) == "-" then negO (numIn (cutS s (some 1) none)) else numIn s
theorem fSl_str (s : Str) (lo hi : Option Int) (π : PH) (hz : s.length ≤ sizeLine) : fSl false lo hi (.str s) π = .ok (.str (cutS s lo hi)) π := by
  show when_ (fitsB s.length) _ = _
  rw [show fitsB s.length = true from decide_eq_true hz]
  rfl
theorem fIsN_optD (o : Option Int) (π : PH) : fIsN false (optD o) .non π = .ok (.bl o.isNone) π := by
  cases o <;> rfl
theorem neg_end (o : Option Int) (δ : MI.Env) (π : PH) (h1 : δ[1]? = some (some (optD o))) : mIf (mOr (mB (mOp (fIsN false) (mVar 1) (mC .non))) (mB (mOp (fEqS false) (mVar 1) (mC (.int 0))))) (mC .non) (mUn fNeg (mVar 1)) δ π = .ok (optD (negO o)) π := by
  cases o with
  | none => simp only [runB, sThen, sIf, sRet, sSet, sExpr, sNx, mOr, mAnd, mNot, mTru, mB, mIf, mChain, mArgs, mCons, mNil, mUn, mOp, mC, mVar, List.map_cons, List.map_nil, List.length_cons, List.length_nil, List.replicate, List.append, List.cons_append, List.nil_append, Nat.reduceAdd, Nat.reduceSub, List.getElem?_cons_zero, List.getElem?_cons_succ, List.set_cons_zero, List.set_cons_succ, bind_ok, bind_exc, sb_ok, sb_exc, then_nx, then_ret, then_exc, when_true, opt_some, fIsi_str, fTru_bl, fB_bl, fLe_int, Bool.not_true, Bool.not_false, Bool.false_eq_true, if_false, if_true, decide_true, decide_false, h1, optD]; rfl
  | some i =>
    have e : fEqS false (.int i) (.int 0) π = .ok (.bl (decide (i = 0))) π := by
      show Res.ok (D.bl ((i == 0) != false)) π = _
      by_cases h : i = 0
      · subst h; rfl
      · simp [h]
    have e2 : fIsN false (.int i) .non π = .ok (.bl false) π := rfl
    simp only [runB, sThen, sIf, sRet, sSet, sExpr, sNx, mOr, mAnd, mNot, mTru, mB, mIf, mChain, mArgs, mCons, mNil, mUn, mOp, mC, mVar, List.map_cons, List.map_nil, List.length_cons, List.length_nil, List.replicate, List.append, List.cons_append, List.nil_append, Nat.reduceAdd, Nat.reduceSub, List.getElem?_cons_zero, List.getElem?_cons_succ, List.set_cons_zero, List.set_cons_succ, bind_ok, bind_exc, sb_ok, sb_exc, then_nx, then_ret, then_exc, when_true, opt_some, fIsi_str, fTru_bl, fB_bl, fLe_int, Bool.not_true, Bool.not_false, Bool.false_eq_true, if_false, if_true, decide_true, decide_false, h1, optD, e2, e]
    by_cases h : i = 0
    · simp only [runB, sThen, sIf, sRet, sSet, sExpr, sNx, mOr, mAnd, mNot, mTru, mB, mIf, mChain, mArgs, mCons, mNil, mUn, mOp, mC, mVar, List.map_cons, List.map_nil, List.length_cons, List.length_nil, List.replicate, List.append, List.cons_append, List.nil_append, Nat.reduceAdd, Nat.reduceSub, List.getElem?_cons_zero, List.getElem?_cons_succ, List.set_cons_zero, List.set_cons_succ, bind_ok, bind_exc, sb_ok, sb_exc, then_nx, then_ret, then_exc, when_true, opt_some, fIsi_str, fTru_bl, fB_bl, fLe_int, Bool.not_true, Bool.not_false, Bool.false_eq_true, if_false, if_true, decide_true, decide_false, h, negO]
    · simp only [runB, sThen, sIf, sRet, sSet, sExpr, sNx, mOr, mAnd, mNot, mTru, mB, mIf, mChain, mArgs, mCons, mNil, mUn, mOp, mC, mVar, List.map_cons, List.map_nil, List.length_cons, List.length_nil, List.replicate, List.append, List.cons_append, List.nil_append, Nat.reduceAdd, Nat.reduceSub, List.getElem?_cons_zero, List.getElem?_cons_succ, List.set_cons_zero, List.set_cons_succ, bind_ok, bind_exc, sb_ok, sb_exc, then_nx, then_ret, then_exc, when_true, opt_some, fIsi_str, fTru_bl, fB_bl, fLe_int, Bool.not_true, Bool.not_false, Bool.false_eq_true, if_false, if_true, decide_true, decide_false, h, negO]
      rfl
end LW

set_option Elab.async false
set_option linter.all false
set_option maxRecDepth 100000
set_option maxHeartbeats 4000000
namespace LW
open PySem L2 MI
theorem cutS_len (s : Str) (lo hi : Option Int) : (cutS s lo hi).length ≤ s.length := by
  show (cutS s lo hi).cps.size ≤ s.cps.size
  unfold cutS
  have e : s.cps.toList.length = s.cps.size := Array.length_toList
  simp only [List.size_toArray, List.length_take, List.length_drop]
  omega
theorem cutS_asc {s : Str} (h : asc s) (lo hi : Option Int) : asc (cutS s lo hi) := by
  intro c hc
  unfold cutS at hc
  exact h c (List.mem_of_mem_drop (List.mem_of_mem_take (by simpa using hc)))
theorem mSl_to {δ : MI.Env} {π : PH} (h0 : δ[0]? = some (some (.str s))) (hz : s.length ≤ sizeLine) : mSl false (mVar 0) mNoPart (mPart (mC (.int 1))) δ π = .ok (.str (cutS s none (some 1))) π := by
  have e : mVar 0 δ π = .ok (.str s) π := by unfold mVar; rw [h0]
  unfold mSl
  rw [e, bind_ok]
  exact fSl_str s none (some 1) π hz
theorem mSl_from {δ : MI.Env} {π : PH} (h0 : δ[0]? = some (some (.str s))) (hz : s.length ≤ sizeLine) : mSl false (mVar 0) (mPart (mC (.int 1))) mNoPart δ π = .ok (.str (cutS s (some 1) none)) π := by
  have e : mVar 0 δ π = .ok (.str s) π := by unfold mVar; rw [h0]
  unfold mSl
  rw [e, bind_ok]
  exact fSl_str s (some 1) none π hz
end LW

set_option Elab.async false
set_option linter.all false
set_option maxRecDepth 100000
set_option maxHeartbeats 4000000
namespace LW
open PySem L2 MI
theorem mArgs_ap {β : Type} {δ : MI.Env} {π : PH} (f : List D → PH → Res β) (m : M (List D)) : mArgs f m δ π = (m δ π).bind fun d π1 => f d π1 := rfl
theorem mCons_ap {δ : MI.Env} {π : PH} (a : M D) (m : M (List D)) : mCons a m δ π = (a δ π).bind fun d π1 => (m δ π1).bind fun ds π2 => .ok (d :: ds) π2 := rfl
theorem mNil_ap {δ : MI.Env} {π : PH} : mNil δ π = .ok [] π := rfl
theorem sSet_ap {δ : MI.Env} {π : PH} (i : Nat) (m : M D) : sSet i m δ π = (m δ π).sb δ fun d π1 => .nx (δ.set i (some d)) π1 := rfl
theorem fCall_1 (m : Fun_) (d : D) (π : PH) : fCall 1 [] m [d] π = m [d] π := rfl
theorem integer_or_none_ok (s : Str) (π : PH) (hz : s.length ≤ sizeLine) : F_integer_or_none [.str s] π = .ok (optD (wholeIn s)) π := by
  unfold F_integer_or_none runB m_integer_or_none wholeIn
  have e1 := mSl_to (s := s) (δ := [some (.str s), none]) (π := π) rfl hz
  have e2 := mSl_from (s := s) (δ := [some (.str s), none]) (π := π) rfl hz
  have n1 := number_or_none_ok s π hz
  have n2 := number_or_none_ok (cutS s (some 1) none) π (Nat.le_trans (cutS_len _ _ _) hz)
  have e3 := neg_end (numIn (cutS s (some 1) none)) [some (.str s), some (optD (numIn (cutS s (some 1) none)))] π rfl
  have v0 : mVar 0 [some (D.str s), none] π = .ok (.str s) π := rfl
  simp only [List.map_cons, List.map_nil, List.length_cons, List.length_nil, List.replicate, List.cons_append, List.nil_append, Nat.reduceAdd, Nat.reduceSub, sThen_ap, sIf_ap, mB_ap, mOp_ap, mC_ap, e1, bind_ok, fEqS_str, fB_bl, sb_ok]
  cases hc : (cutS s none (some 1) == ("-" : Str)) with
  | true =>
    simp only [bne_self_eq_false, Bool.false_eq_true, if_false, Bool.bne_true, Bool.not_true, if_true, sNx_ap, then_nx, sThen_ap, sSet_ap, mArgs_ap, mCons_ap, mNil_ap, e2, bind_ok, fCall_1, n2, sb_ok, List.set_cons_succ, List.set_cons_zero, sRet_ap, e3]
  | false =>
    simp only [Bool.bne_true, Bool.not_false, if_true, sRet_ap, mArgs_ap, mCons_ap, mNil_ap, v0, bind_ok, fCall_1, n1, sb_ok, then_ret, Bool.false_eq_true, if_false]
end LW

set_option Elab.async false
set_option linter.all false
set_option maxRecDepth 100000
set_option maxHeartbeats 4000000
namespace LW
open PySem L2 MI
theorem sub_end (o : Option Int) (δ : MI.Env) (π : PH) (h1 : δ[1]? = some (some (optD o))) : mIf (mOr (mB (mOp (fIsN false) (mVar 1) (mC .non))) (mB (mOp (fEqS false) (mVar 1) (mC (.int 0))))) (mC .non) (mOp (fSub) (mC (.int 0)) (mVar 1)) δ π = .ok (optD (negO o)) π := by
  cases o with
  | none => simp only [runB, sThen, sIf, sRet, sSet, sExpr, sNx, mOr, mAnd, mNot, mTru, mB, mIf, mChain, mArgs, mCons, mNil, mUn, mOp, mC, mVar, List.map_cons, List.map_nil, List.length_cons, List.length_nil, List.replicate, List.append, List.cons_append, List.nil_append, Nat.reduceAdd, Nat.reduceSub, List.getElem?_cons_zero, List.getElem?_cons_succ, List.set_cons_zero, List.set_cons_succ, bind_ok, bind_exc, sb_ok, sb_exc, then_nx, then_ret, then_exc, when_true, opt_some, fIsi_str, fTru_bl, fB_bl, fLe_int, Bool.not_true, Bool.not_false, Bool.false_eq_true, if_false, if_true, decide_true, decide_false, h1, optD]; rfl
  | some i =>
    have e : fEqS false (.int i) (.int 0) π = .ok (.bl (decide (i = 0))) π := by
      show Res.ok (D.bl ((i == 0) != false)) π = _
      by_cases h : i = 0
      · subst h; rfl
      · simp [h]
    have e2 : fIsN false (.int i) .non π = .ok (.bl false) π := rfl
    have e3 : fSub (.int 0) (.int i) π = .ok (.int (-i)) π := by
      show Res.ok (D.int (0 - i)) π = _
      rw [Int.zero_sub]
    simp only [runB, sThen, sIf, sRet, sSet, sExpr, sNx, mOr, mAnd, mNot, mTru, mB, mIf, mChain, mArgs, mCons, mNil, mUn, mOp, mC, mVar, List.map_cons, List.map_nil, List.length_cons, List.length_nil, List.replicate, List.append, List.cons_append, List.nil_append, Nat.reduceAdd, Nat.reduceSub, List.getElem?_cons_zero, List.getElem?_cons_succ, List.set_cons_zero, List.set_cons_succ, bind_ok, bind_exc, sb_ok, sb_exc, then_nx, then_ret, then_exc, when_true, opt_some, fIsi_str, fTru_bl, fB_bl, fLe_int, Bool.not_true, Bool.not_false, Bool.false_eq_true, if_false, if_true, decide_true, decide_false, h1, optD, e2, e]
    by_cases h : i = 0
    · simp only [runB, sThen, sIf, sRet, sSet, sExpr, sNx, mOr, mAnd, mNot, mTru, mB, mIf, mChain, mArgs, mCons, mNil, mUn, mOp, mC, mVar, List.map_cons, List.map_nil, List.length_cons, List.length_nil, List.replicate, List.append, List.cons_append, List.nil_append, Nat.reduceAdd, Nat.reduceSub, List.getElem?_cons_zero, List.getElem?_cons_succ, List.set_cons_zero, List.set_cons_succ, bind_ok, bind_exc, sb_ok, sb_exc, then_nx, then_ret, then_exc, when_true, opt_some, fIsi_str, fTru_bl, fB_bl, fLe_int, Bool.not_true, Bool.not_false, Bool.false_eq_true, if_false, if_true, decide_true, decide_false, h, negO]
    · simp only [runB, sThen, sIf, sRet, sSet, sExpr, sNx, mOr, mAnd, mNot, mTru, mB, mIf, mChain, mArgs, mCons, mNil, mUn, mOp, mC, mVar, List.map_cons, List.map_nil, List.length_cons, List.length_nil, List.replicate, List.append, List.cons_append, List.nil_append, Nat.reduceAdd, Nat.reduceSub, List.getElem?_cons_zero, List.getElem?_cons_succ, List.set_cons_zero, List.set_cons_succ, bind_ok, bind_exc, sb_ok, sb_exc, then_nx, then_ret, then_exc, when_true, opt_some, fIsi_str, fTru_bl, fB_bl, fLe_int, Bool.not_true, Bool.not_false, Bool.false_eq_true, if_false, if_true, decide_true, decide_false, h, negO, e3]
theorem law_whole_in_ok (s : Str) (π : PH) (hz : s.length ≤ sizeLine) (ha : asc s) : F__law_whole_in [.str s] π = .ok (optD (wholeIn s)) π := by
  unfold F__law_whole_in runB m__law_whole_in wholeIn
  have e1 := mSl_to (s := s) (δ := [some (.str s), none]) (π := π) rfl hz
  have e2 := mSl_from (s := s) (δ := [some (.str s), none]) (π := π) rfl hz
  have n1 := law_number_in_ok s π hz ha
  have n2 := law_number_in_ok (cutS s (some 1) none) π (Nat.le_trans (cutS_len _ _ _) hz) (cutS_asc ha _ _)
  have e3 := sub_end (numIn (cutS s (some 1) none)) [some (.str s), some (optD (numIn (cutS s (some 1) none)))] π rfl
  have v0 : mVar 0 [some (D.str s), none] π = .ok (.str s) π := rfl
  simp only [List.map_cons, List.map_nil, List.length_cons, List.length_nil, List.replicate, List.cons_append, List.nil_append, Nat.reduceAdd, Nat.reduceSub, sThen_ap, sIf_ap, mB_ap, mOp_ap, mC_ap, e1, bind_ok, fEqS_str, fB_bl, sb_ok]
  cases hc : (cutS s none (some 1) == ("-" : Str)) with
  | true =>
    simp only [bne_self_eq_false, Bool.false_eq_true, if_false, Bool.bne_true, Bool.not_true, if_true, sNx_ap, then_nx, sThen_ap, sSet_ap, mArgs_ap, mCons_ap, mNil_ap, e2, bind_ok, fCall_1, n2, sb_ok, List.set_cons_succ, List.set_cons_zero, sRet_ap, e3]
  | false =>
    simp only [Bool.bne_true, Bool.not_false, if_true, sRet_ap, mArgs_ap, mCons_ap, mNil_ap, v0, bind_ok, fCall_1, n1, sb_ok, then_ret, Bool.false_eq_true, if_false]
end LW

set_option Elab.async false
set_option linter.all false
set_option maxRecDepth 100000
set_option maxHeartbeats 4000000
/-! Plain Lean about mirrors: one step of each word, applied. -/
namespace LW
open PySem L2 MI
theorem bind_cg {β β' : Type} {r r' : Res β} {k : β → PH → Res β'} (h : r = r') : r.bind k = r'.bind k := by rw [h]
theorem sb_cg {β : Type} {δ : MI.Env} {r r' : Res β} {k : β → PH → SRes} (h : r = r') : r.sb δ k = r'.sb δ k := by rw [h]
theorem then_cg {r r' : SRes} {m : MS} (h : r = r') : r.then_ m = r'.then_ m := by rw [h]
theorem opt_cg {β β' : Type} {o o' : Option β} {k : β → Res β'} (h : o = o') : opt o k = opt o' k := by rw [h]
theorem when_cg {β : Type} {b b' : Bool} {r : Res β} (h : b = b') : when_ b r = when_ b' r := by rw [h]
theorem itb_cg {β : Type} {b b' : Bool} {x y : β} (h : b = b') : (if b = true then x else y) = if b' = true then x else y := by rw [h]
section
variable {β : Type} {δ : MI.Env} {π : PH}
theorem mVar_ap (i : Nat) : mVar i δ π = match δ[i]? with | some (some d) => .ok d π | _ => .stuck := rfl
theorem mUn_ap (f : D → PH → Res β) (m : M D) : mUn f m δ π = (m δ π).bind fun d π1 => f d π1 := rfl
theorem mAnd_ap (a b : M Bool) : mAnd a b δ π = (a δ π).bind fun c π1 => if c = true then b δ π1 else .ok false π1 := rfl
theorem mIf_ap (c : M Bool) (a b : M β) : mIf c a b δ π = (c δ π).bind fun c π1 => if c = true then a δ π1 else b δ π1 := rfl
theorem mAndV_ap (a b : M D) : mAndV a b δ π = (a δ π).bind fun d π1 => opt (truD π1 d) fun k => if k = true then b δ π1 else .ok d π1 := rfl
theorem mOrV_ap (a b : M D) : mOrV a b δ π = (a δ π).bind fun d π1 => opt (truD π1 d) fun k => if k = true then .ok d π1 else b δ π1 := rfl
theorem mNotV_ap (a : M D) : mNotV a δ π = (a δ π).bind fun d π1 => opt (truD π1 d) fun k => .ok (.bl (!k)) π1 := rfl
theorem mChain_ap (f f' : D → D → PH → Res D) (a b c : M D) : mChain f f' a b c δ π = (a δ π).bind fun x π1 => (b δ π1).bind fun y π2 => (f x y π2).bind fun z π3 => match z with
  | .bl k => if k = true then (c δ π3).bind fun w π4 => f' y w π4 else .ok (.bl false) π3
  | _ => .stuck := rfl
theorem mSl_ap (reg : Bool) (m : M D) (l u : M (Option Int)) : mSl reg m l u δ π = (m δ π).bind fun d π1 => (l δ π1).bind fun lo π2 => (u δ π2).bind fun hi π3 => fSl reg lo hi d π3 := rfl
theorem mNoPart_ap : mNoPart δ π = .ok none π := rfl
theorem mPart_ap (m : M D) : mPart m δ π = (m δ π).bind fun d π1 => fPart d π1 := rfl
theorem fPart_int (i : Int) : fPart (.int i) π = .ok (some i) π := rfl
theorem mTup_ap (m : M (List D)) : mTup m δ π = (m δ π).bind fun ds π1 => when_ (fitsB ds.length) (.ok (.tup ds) π1) := rfl
theorem mLst_ap (reg : Bool) (m : M (List D)) : mLst reg m δ π = (m δ π).bind fun ds π1 => when_ (fitsB ds.length) (alloc reg ds π1) := rfl
theorem alloc_f (xs : List D) : alloc false xs π = .ok (.lst xs) π := rfl
theorem alloc_t (xs : List D) : alloc true xs π = .ok (.ref π.length) (π ++ [.lst xs]) := rfl
theorem mBM_ap (T : String) (f : D → List D → PH → Res D) (mo : M D) (ms : M (List D)) : mBM T f mo ms δ π = (mo δ π).bind fun d π1 => if tyB T π1 d = true then (ms δ π1).bind fun ds π2 => f d ds π2 else .stuck := rfl
theorem tyB_str (s : Str) : tyB "str" π (.str s) = true := rfl
theorem tyB_lst (s : List D) : tyB "list" π (.lst s) = true := rfl
theorem mStar_ap (ma : M D) (mr : M (List D)) : mStar ma mr δ π = (ma δ π).bind fun d π1 => opt (sqOf π1 d) fun xs => (mr δ π1).bind fun ds π2 => .ok (xs ++ ds) π2 := rfl
theorem mMeth_ap (c : Nat) (mn : Str) (n : Nat) (dd : List D) (m : Fun_) (mo : M D) (ms : M (List D)) : mMeth c mn n dd m mo ms δ π = (mo δ π).bind fun d π1 => (fRecv c mn d π1).bind fun d π2 => (ms δ π2).bind fun ds π3 => fCall n dd m (d :: ds) π3 := rfl
theorem mCallW_ap (tab lt : Nat → Option Fun_) (n : Nat) (mf : M D) (ms : M (List D)) : mCallW tab lt n mf ms δ π = (mf δ π).bind fun fd π1 => match fd with
  | .fn i => opt (tab i) fun m => mArgs (fCall n [] m) ms δ π1
  | .lam i => opt (lt i) fun m => mArgs (fCall n [] m) ms δ π1
  | _ => .stuck := rfl
theorem sExpr_ap (m : M D) : sExpr m δ π = (m δ π).sb δ fun _ π1 => .nx δ π1 := rfl
theorem sPar_ap (i j : Nat) (m : M (List D)) : sPar i j m δ π = (m δ π).sb δ fun ds π1 => match ds with
  | [d, e] => .nx ((δ.set i (some d)).set j (some e)) π1
  | _ => .stuck := rfl
theorem sUnp_ap (is : List Nat) (m : M D) : sUnp is m δ π = (m δ π).sb δ fun d π1 => match d with
  | .tup ds => match setAll δ is ds with
    | some δ' => .nx δ' π1
    | none => .stuck
  | _ => .stuck := rfl
theorem setAll_nil : setAll δ [] [] = some δ := rfl
theorem setAll_cons (i : Nat) (is : List Nat) (d : D) (ds : List D) : setAll δ (i :: is) (d :: ds) = setAll (δ.set i (some d)) is ds := rfl
theorem sMatch_ap (m : M D) (cs : List (Option (List Str) × MS)) : sMatch m cs δ π = (m δ π).sb δ fun d π1 => match d with
  | .str s => pick s cs δ π1
  | _ => .stuck := rfl
theorem sFor_ap (src : M Src) (set : SetD) (body : MS) : sFor src set body δ π = (src δ π).sb δ fun s π1 => forLoop s set body s.len 0 δ π1 := rfl
theorem mSrcA_ap (f : List D → PH → Res Src) (m : M (List D)) : mSrcA f m δ π = (m δ π).bind fun d π1 => f d π1 := rfl
theorem sRaise2_ap (c : Nat) (a b : Str) (ms : M (List D)) : sRaise2 c a b ms δ π = (ms δ π).sb δ fun ds π1 => match ds with
  | [d, e] => .exc ⟨c, [(a, d), (b, e)]⟩ δ π1
  | _ => .stuck := rfl
theorem sPut_ap (mo mi mv : M D) : sPut mo mi mv δ π = (mv δ π).sb δ fun v π1 => (mo δ π1).sb δ fun o π2 => (mi δ π2).sb δ fun i π3 => match fPut o i v π3 with
  | some π4 => .nx δ π4
  | none => .stuck := rfl
theorem sFldPut_ap (c : Nat) (f : Str) (mo mv : M D) : sFldPut c f mo mv δ π = (mv δ π).sb δ fun v π1 => (mo δ π1).sb δ fun o π2 => match fFldPut c f o v π2 with
  | some π3 => .nx δ π3
  | none => .stuck := rfl
theorem mYes_ap : mYes δ π = .ok true π := rfl
theorem mLam_ap (t k : Nat) (q : Str) : mLam t k q δ π = match π[t]? with
  | some (.tbl q') => when_ (decide (q' = q)) (.ok (.lam k) π)
  | _ => .stuck := rfl
theorem fCall_0 (m : Fun_) : fCall 0 [] m [] π = m [] π := rfl
theorem fCall_2 (m : Fun_) (d e : D) : fCall 2 [] m [d, e] π = m [d, e] π := rfl
theorem fCall_3 (m : Fun_) (d e f : D) : fCall 3 [] m [d, e, f] π = m [d, e, f] π := rfl
theorem fCall_4 (m : Fun_) (d e f g : D) : fCall 4 [] m [d, e, f, g] π = m [d, e, f, g] π := rfl
theorem fIsN_non (neg : Bool) : fIsN neg .non .non π = .ok (.bl (true != neg)) π := rfl
theorem fIsN_int (neg : Bool) (i : Int) : fIsN neg (.int i) .non π = .ok (.bl (false != neg)) π := rfl
theorem fIsN_tup (neg : Bool) (i : List D) : fIsN neg (.tup i) .non π = .ok (.bl (false != neg)) π := rfl
theorem fIsN_str (neg : Bool) (i : Str) : fIsN neg (.str i) .non π = .ok (.bl (false != neg)) π := rfl
theorem fEqS_int (a b : Int) (neg : Bool) : fEqS neg (.int a) (.int b) π = .ok (.bl ((a == b) != neg)) π := rfl
theorem fEqS_non (neg : Bool) : fEqS neg .non .non π = .ok (.bl (true != neg)) π := rfl
theorem fEqS_non_int (neg : Bool) (i : Int) : fEqS neg .non (.int i) π = .ok (.bl (false != neg)) π := rfl
theorem fGt_int (i j : Int) : fGt (.int i) (.int j) π = .ok (.bl (decide (j < i))) π := rfl
theorem fLt_int (i j : Int) : fLt (.int i) (.int j) π = .ok (.bl (decide (i < j))) π := rfl
theorem fGe_int (i j : Int) : fGe (.int i) (.int j) π = .ok (.bl (decide (j ≤ i))) π := rfl
theorem fLt_str (a b : Str) : fLt (.str a) (.str b) π = .ok (.bl (ltS a b)) π := rfl
theorem fLe_str (a b : Str) : fLe (.str a) (.str b) π = .ok (.bl (!ltS b a)) π := rfl
theorem fLen_lst (l : List D) : fLen [.lst l] π = .ok (.int l.length) π := rfl
theorem fLen_frz (l : List D) : fLen [.frz l] π = .ok (.int l.length) π := rfl
theorem fLen_tup (l : List D) : fLen [.tup l] π = .ok (.int l.length) π := rfl
theorem fTup_lst (l : List D) : fTup [.lst l] π = .ok (.tup l) π := rfl
theorem fNeg_int (i : Int) : fNeg (.int i) π = .ok (.int (-i)) π := rfl
theorem fSub_int (i j : Int) : fSub (.int i) (.int j) π = .ok (.int (i - j)) π := rfl
theorem fAdd_int (r : Bool) (i j : Int) : fAdd r (.int i) (.int j) π = .ok (.int (i + j)) π := rfl
theorem fAbs_int (i : Int) : fAbs [.int i] π = .ok (.int (if i < 0 then -i else i)) π := rfl
theorem fMod_pos (i j : Int) (h : 0 < j) : fMod (.int i) (.int j) π = .ok (.int (i % j)) π := by
  show when_ (decide (0 < j)) _ = _
  rw [decide_eq_true h]; rfl
theorem fDiv_pos (i j : Int) (h : 0 < j) (h2 : j.natAbs.log2 < 9000) : fDiv (.int i) (.int j) π = .ok (.int (i / j)) π := by
  show when_ (decide (0 < j) && decide (j.natAbs.log2 < 9000)) _ = _
  rw [decide_eq_true h, decide_eq_true h2]; rfl
theorem fIx_lst (l : List D) (i : Int) : fIx (.lst l) (.int i) π = opt (atI l i) fun e => .ok e π := rfl
theorem fIx_tup (l : List D) (i : Int) : fIx (.tup l) (.int i) π = opt (atI l i) fun e => .ok e π := rfl
theorem fSl_lst (l : List D) (lo hi : Option Int) (reg : Bool) : fSl reg lo hi (.lst l) π = alloc reg (cut l lo hi) π := rfl
theorem fSl_tup (l : List D) (lo hi : Option Int) (reg : Bool) : fSl reg lo hi (.tup l) π = .ok (.tup (cut l lo hi)) π := rfl
theorem atI_0 {β : Type} (a : β) (l : List β) : atI (a :: l) 0 = some a := by unfold atI ixN; simp
theorem atI_n {β : Type} (l : List β) (i : Nat) : atI l (i : Int) = l[i]? := by
  unfold atI ixN
  by_cases h : (i : Int) < (l.length : Int)
  · rw [if_pos (by omega), if_pos h]; simp
  · rw [if_pos (by omega), if_neg h]
    exact (List.getElem?_eq_none (by omega)).symm
theorem atI_1 {β : Type} (a b : β) (l : List β) : atI (a :: b :: l) 1 = some b := (atI_n _ 1).trans rfl
theorem atI_last {β : Type} (l : List β) (a : β) : atI (l ++ [a]) (-1) = some a := by
  unfold atI ixN
  rw [if_neg (by omega), if_pos (by rw [List.length_append]; simp only [List.length_cons, List.length_nil]; omega)]
  show (l ++ [a])[(-1 + (((l ++ [a]).length : Nat) : Int)).toNat]? = some a
  rw [List.length_append, show (-1 + ((l.length + [a].length : Nat) : Int)).toNat = l.length by simp only [List.length_cons, List.length_nil]; omega]
  simp
end
theorem fitsB_0 : fitsB 0 = true := rfl
theorem fitsB_1 : fitsB 1 = true := rfl
theorem fitsB_2 : fitsB 2 = true := rfl
theorem fitsB_3 : fitsB 3 = true := rfl
theorem fitsB_4 : fitsB 4 = true := rfl
theorem fitsB_5 : fitsB 5 = true := rfl
theorem fitsB_6 : fitsB 6 = true := rfl
theorem fitsB_7 : fitsB 7 = true := rfl
theorem fitsB_8 : fitsB 8 = true := rfl
theorem fitsB_9 : fitsB 9 = true := rfl
theorem fitsB_10 : fitsB 10 = true := rfl
theorem fitsB_11 : fitsB 11 = true := rfl
theorem fitsB_12 : fitsB 12 = true := rfl
theorem fitsB_13 : fitsB 13 = true := rfl
theorem fitsB_14 : fitsB 14 = true := rfl
theorem truD_bl (c : Bool) (π : PH) : truD π (.bl c) = some c := rfl

end LW

local macro_rules
  | `(tactic| simp_arith [$ls,*]) => `(tactic| simp -implicitDefEqProofs only [List.map_cons, List.map_nil, List.length_cons, List.length_nil, List.replicate, List.cons_append, List.nil_append, Nat.reduceAdd, Nat.reduceSub, List.getElem?_cons_zero, List.getElem?_cons_succ, List.set_cons_zero, List.set_cons_succ, LW.sThen_ap, LW.sIf_ap, LW.sRet_ap, LW.sNx_ap, LW.sSet_ap, LW.sExpr_ap, LW.sPar_ap, LW.sUnp_ap, LW.setAll_nil, LW.setAll_cons, LW.mC_ap, LW.mVar_ap, LW.mOp_ap, LW.mUn_ap, LW.mArgs_ap, LW.mCons_ap, LW.mNil_ap, LW.mB_ap, LW.mTru_ap, LW.mOr_ap, LW.mAnd_ap, LW.mNot_ap, LW.mIf_ap, LW.mAndV_ap, LW.mOrV_ap, LW.mNotV_ap, LW.mChain_ap, LW.mSl_ap, LW.mNoPart_ap, LW.mPart_ap, LW.fPart_int, LW.mTup_ap, LW.mLst_ap, LW.alloc_f, LW.alloc_t, LW.mBM_ap, LW.tyB_str, LW.tyB_lst, LW.mStar_ap, LW.mMeth_ap, LW.sMatch_ap, LW.sRaise2_ap, LW.mYes_ap, LW.bind_ok, LW.bind_exc, LW.sb_ok, LW.sb_exc, LW.then_nx, LW.then_ret, LW.then_exc, LW.when_true, LW.opt_some, LW.fTru_bl, LW.fB_bl, LW.fLe_int, LW.fCall_0, LW.fCall_1, LW.fCall_2, LW.fCall_3, LW.fCall_4, LW.fIsi_str, LW.fIsN_non, LW.fIsN_int, LW.fIsN_tup, LW.fIsN_str, LW.fEqS_str, LW.fEqS_int, LW.fEqS_non, LW.fEqS_non_int, LW.fGt_int, LW.fLt_int, LW.fGe_int, LW.fLt_str, LW.fLe_str, LW.fLen_lst, LW.fLen_tup, LW.fTup_lst, LW.fNeg_int, LW.fSub_int, LW.fAdd_int, LW.fIx_lst, LW.fIx_tup, LW.fSl_lst, LW.fSl_tup, LW.atI_0, LW.atI_1, LW.truD_bl, LW.fitsB_0, LW.fitsB_1, LW.fitsB_2, LW.fitsB_3, LW.fitsB_4, LW.fitsB_5, LW.fitsB_6, LW.fitsB_7, LW.fitsB_8, LW.fitsB_9, LW.fitsB_10, LW.fitsB_11, LW.fitsB_12, LW.fitsB_13, LW.fitsB_14, Bool.not_true, Bool.not_false, Bool.false_eq_true, ↓reduceIte, Bool.bne_true, Bool.bne_false, Bool.true_bne, Bool.false_bne, $ls,*])


set_option Elab.async false
set_option linter.all false
set_option maxRecDepth 100000
set_option maxHeartbeats 4000000
/-! Texts cut at one sign. -/
namespace LW
open PySem L2 MI TL
abbrev ch (c : Nat) : Str := ⟨#[c]⟩
theorem tl_ch (c : Nat) : tl (ch c) = [c] := rfl
theorem split_cut (c : Nat) (hc : c < 256) (s : Str) : (c ∉ tl s ∧ Txt.split s (ch c) = [s] ∧ Txt.partition s (ch c) = (s, Str.empty, Str.empty)) ∨
    ∃ a b : Str, c ∉ tl a ∧ s = a ++ ch c ++ b ∧ Txt.split s (ch c) = a :: Txt.split b (ch c) ∧ Txt.partition s (ch c) = (a, ch c, b) := by
  have ek : (ch c).cps.all (· < 256) = true := by simp [hc]
  have ks : ∀ x : Str, (Txt.split x (ch c)).map tl = spl [c] 0 [] (tl x) := fun x => split_spl x (ch c) (by simp) (kind_ok ek)
  by_cases h : c ∈ tl s
  · right
    obtain ⟨p, r, e, hp⟩ := List.eq_append_cons_of_mem h
    refine ⟨⟨p.toArray⟩, ⟨r.toArray⟩, hp, ext_tl (by rw [tl_append, tl_append, e, tl_ch]; simp), map_tl_inj ?_, ?_⟩
    · rw [ks, List.map_cons, ks, e]
      exact spl_part1 (S := []) (acc := []) hp
    · have es : s = (⟨p.toArray⟩ : Str) ++ ch c ++ ⟨r.toArray⟩ := ext_tl (by rw [tl_append, tl_append, e, tl_ch]; simp)
      rw [es]
      exact partition_app (S := []) rfl hp
  · left
    refine ⟨h, map_tl_inj ?_, partition_none (S := []) rfl h⟩
    rw [ks]
    exact spl_last1 (S := []) (acc := []) h
theorem cut_len (a b : Str) (c : Nat) : (a ++ ch c ++ b).length = a.length + 1 + b.length := by
  rw [Str.length_append, Str.length_append]; rfl
/-- what holds of all texts, cut -/
theorem split_ind (c : Nat) (hc : c < 256) (P : Str → List Str → Prop) (h1 : ∀ s, c ∉ tl s → P s [s]) (h2 : ∀ a b l, c ∉ tl a → P b l → P (a ++ ch c ++ b) (a :: l)) : ∀ s, P s (Txt.split s (ch c)) := by
  have go : ∀ (n : Nat) (s : Str), s.length ≤ n → P s (Txt.split s (ch c)) := by
    intro n
    induction n with
    | zero =>
      intro s hn
      rcases split_cut c hc s with ⟨a, b, _⟩ | ⟨a, b, h3, h4, h5, _⟩
      · rw [b]; exact h1 s a
      · rw [h4, cut_len] at hn; omega
    | succ n ih =>
      intro s hn
      rcases split_cut c hc s with ⟨a, b, _⟩ | ⟨a, b, h3, h4, h5, _⟩
      · rw [b]; exact h1 s a
      · rw [h5]
        have hb := ih b (by rw [h4, cut_len] at hn; omega)
        have := h2 a b _ h3 hb
        rw [← h4] at this
        exact this
  exact fun s => go s.length s (Nat.le_refl _)
theorem split_len (c : Nat) (hc : c < 256) (s : Str) : ((Txt.split s (ch c)).map (·.length)).sum + (Txt.split s (ch c)).length = s.length + 1 :=
  split_ind c hc (fun s l => (l.map (·.length)).sum + l.length = s.length + 1) (fun s _ => by simp) (fun a b l _ h => by
    rw [cut_len]; simp only [List.map_cons, List.sum_cons, List.length_cons] at h ⊢; omega) s
theorem asc_app {a b : Str} : asc (a ++ b) ↔ asc a ∧ asc b := by
  have e : (a ++ b).cps.toList = a.cps.toList ++ b.cps.toList := tl_append a b
  unfold asc
  rw [e]
  exact ⟨fun h => ⟨fun c hc => h c (List.mem_append_left _ hc), fun c hc => h c (List.mem_append_right _ hc)⟩, fun h c hc => (List.mem_append.mp hc).elim (h.1 c) (h.2 c)⟩
theorem split_asc (c : Nat) (hc : c < 256) (s : Str) (h : asc s) : ∀ p ∈ Txt.split s (ch c), asc p :=
  split_ind c hc (fun s l => asc s → ∀ p ∈ l, asc p) (fun s _ h p hp => by rw [List.mem_singleton.mp hp]; exact h) (fun a b l _ ih h p hp => by
    rcases List.mem_cons.mp hp with e | e
    · rw [e]; exact (asc_app.mp (asc_app.mp h).1).1
    · exact ih (asc_app.mp h).2 p e) s h
theorem split_le (c : Nat) (hc : c < 256) (s : Str) : ∀ p ∈ Txt.split s (ch c), p.length ≤ s.length :=
  split_ind c hc (fun s l => ∀ p ∈ l, p.length ≤ s.length) (fun s _ p hp => by rw [List.mem_singleton.mp hp]; exact Nat.le_refl _) (fun a b l _ ih p hp => by
    rw [cut_len]
    rcases List.mem_cons.mp hp with e | e
    · rw [e]; omega
    · have := ih p e; omega) s
theorem split_free (c : Nat) (hc : c < 256) (s : Str) : ∀ p ∈ Txt.split s (ch c), c ∉ tl p :=
  split_ind c hc (fun s l => ∀ p ∈ l, c ∉ tl p) (fun s h p hp => by rw [List.mem_singleton.mp hp]; exact h) (fun a b l ha ih p hp => by
    rcases List.mem_cons.mp hp with e | e
    · rw [e]; exact ha
    · exact ih p e) s
theorem split_ne (c : Nat) (hc : c < 256) (s : Str) : Txt.split s (ch c) ≠ [] :=
  split_ind c hc (fun s l => l ≠ []) (fun s h => by simp) (fun a b l ha ih => by simp) s
theorem split_many (c : Nat) (hc : c < 256) (s : Str) : (Txt.split s (ch c)).length ≤ s.length + 1 := by
  have := split_len c hc s; omega
theorem fSplit_ch (c : Nat) (hc : c < 256) (s : Str) (hz : s.length + 2 ≤ sizeLine) (π : PH) (y : Str) (hy : y = ch c) : fSplit false (.str s) [.str y] π = .ok (.lst ((Txt.split s (ch c)).map D.str)) π := by
  subst hy
  show when_ (!((ch c).length == 0) && fitsB (s.length + 2)) _ = _
  rw [show fitsB (s.length + 2) = true from decide_eq_true hz]
  rfl
theorem fPart_ch (c : Nat) (s : Str) (hz : s.length ≤ sizeLine) (π : PH) (y : Str) (hy : y = ch c) : fPartition (.str s) [.str y] π = .ok (.tup [.str (Txt.partition s (ch c)).1, .str (Txt.partition s (ch c)).2.1, .str (Txt.partition s (ch c)).2.2]) π := by
  subst hy
  show when_ (!((ch c).length == 0) && fitsB s.length) _ = _
  rw [show fitsB s.length = true from decide_eq_true hz]
  rfl
/-- a number's value -/
theorem numIn_some {s : Str} {i : Int} (h : numIn s = some i) : numWord s = true ∧ i = ((NumText.digitsVal (tl s) : Nat) : Int) := by
  unfold numIn at h
  by_cases hw : numWord s = true
  · rw [if_pos hw] at h
    refine ⟨hw, ?_⟩
    unfold numWord at hw
    simp only [Bool.and_eq_true, decide_eq_true_eq] at hw
    have e := PySem.intText_digits (x := s) (fun c hc => by
      have := List.all_eq_true.mp hw.2 c hc
      unfold digit at this
      exact of_decide_eq_true this) (fun e => by
      have z : (tl s).length = s.length := Array.length_toList
      have : tl s = [] := e
      rw [this] at z; simp at z; omega) (by omega)
    rw [e] at h
    split at h
    · exact (Option.some.inj h).symm
    · cases h
  · rw [if_neg hw] at h; cases h
theorem numWord_digits {s : Str} (h : numWord s = true) : ∀ c ∈ tl s, 48 ≤ c ∧ c ≤ 57 := by
  unfold numWord at h
  simp only [Bool.and_eq_true, decide_eq_true_eq] at h
  intro c hc
  have := List.all_eq_true.mp h.2 c hc
  unfold digit at this
  exact of_decide_eq_true this
theorem numWord_free {s : Str} {c : Nat} (h : numWord s = true) (hc : c < 48 ∨ 57 < c) : c ∉ tl s := fun hm => by
  have := numWord_digits h c hm; omega
theorem digitsVal_lt (l : List Nat) (h : ∀ c ∈ l, 48 ≤ c ∧ c ≤ 57) : NumText.digitsVal l < 10 ^ l.length := by
  have go : ∀ (l : List Nat) (a k : Nat), (∀ c ∈ l, 48 ≤ c ∧ c ≤ 57) → a < 10 ^ k → l.foldl (fun acc c => acc * 10 + (c - 48)) a < 10 ^ (k + l.length) := by
    intro l
    induction l with
    | nil => intro a k _ h; simpa using h
    | cons c l ih =>
      intro a k hl h
      rw [List.foldl_cons, List.length_cons, show k + (l.length + 1) = (k + 1) + l.length by omega]
      refine ih _ _ (fun d hd => hl d (List.mem_cons_of_mem _ hd)) ?_
      have := hl c List.mem_cons_self
      rw [Nat.pow_succ]
      omega
  have := go l 0 0 h (by simp)
  simpa [NumText.digitsVal] using this
theorem numIn_lt {s : Str} {i : Int} (h : numIn s = some i) : 0 ≤ i ∧ i < 10 ^ 60 := by
  obtain ⟨hw, e⟩ := numIn_some h
  have hd := digitsVal_lt (tl s) (numWord_digits hw)
  unfold numWord at hw
  simp only [Bool.and_eq_true, decide_eq_true_eq] at hw
  have hl : (tl s).length ≤ 60 := by rw [← len_tl]; exact hw.1.2
  have : (10 : Nat) ^ (tl s).length ≤ 10 ^ 60 := Nat.pow_le_pow_right (by decide) hl
  subst e
  refine ⟨by omega, ?_⟩
  have : NumText.digitsVal (tl s) < 10 ^ 60 := Nat.lt_of_lt_of_le hd this
  have e2 : ((10 : Int) ^ 60) = ((10 ^ 60 : Nat) : Int) := by norm_cast
  rw [e2]
  exact Int.ofNat_lt.mpr this
end LW

set_option Elab.async false
set_option linter.all false
set_option maxRecDepth 100000
set_option maxHeartbeats 4000000
/-! Fractions. -/
namespace LW
open PySem L2 MI TL
theorem whLoop_next {c : M Bool} {body : MS} {n : Nat} {δ δ2 : MI.Env} {π π2 : PH} (h1 : c δ π = .ok true π) (h2 : body δ π = .nx δ2 π2) : whLoop c body (n + 1) δ π = whLoop c body n δ2 π2 := by
  show (c δ π).sb δ _ = _
  rw [h1, sb_ok, if_pos rfl, h2]
theorem whLoop_stop {c : M Bool} {body : MS} {n : Nat} {δ : MI.Env} {π : PH} (h1 : c δ π = .ok false π) : whLoop c body (n + 1) δ π = .nx δ π := by
  show (c δ π).sb δ _ = _
  rw [h1, sb_ok, if_neg (by simp)]
theorem gcd_step (a b : Int) (h : 0 < b) : Int.gcd b (a % b) = Int.gcd a b := by
  rw [Int.gcd_comm a b, Int.gcd_right_eq_iff]
  intro c hc
  have e := Int.emod_add_mul_ediv a b
  have hd : c ∣ b * (a / b) := Int.dvd_mul_of_dvd_left hc
  constructor
  · intro h
    rw [← e]
    exact Int.dvd_add h hd
  · intro h
    rw [Int.emod_def]
    exact Int.dvd_sub h hd
theorem is_row_ii (a b : Int) (π : PH) : F_is_row [.tup [.int a, .int b], .tup [.fn 0, .fn 0]] π = .ok (.bl true) π := by rfl
theorem cd_loop (π : PH) : ∀ (n : Nat) (a b : Int), 0 ≤ b → b.natAbs < n → ∃ g : Int, g.natAbs = Int.gcd a b ∧
    whLoop (mB (mOp (fEqS true) (mVar 1) (mC (.int 0)))) (sPar 0 1 (mCons (mVar 1) (mCons (mOp (fMod) (mVar 0) (mVar 1)) (mNil)))) n [some (.int a), some (.int b)] π = .nx [some (.int g), some (.int 0)] π := by
  intro n
  induction n with
  | zero => intro a b _ h; omega
  | succ n ih =>
    intro a b hb h
    by_cases h0 : b = 0
    · subst h0
      exact ⟨a, by simp, whLoop_stop (by simp_arith []; rfl)⟩
    · have hp : 0 < b := by omega
      have hm : 0 ≤ a % b := Int.emod_nonneg _ h0
      have hl : a % b < b := Int.emod_lt_of_pos _ hp
      obtain ⟨g, h1, h2⟩ := ih b (a % b) hm (by omega)
      refine ⟨g, h1.trans (gcd_step a b hp), ?_⟩
      rw [whLoop_next (δ2 := [some (.int b), some (.int (a % b))]) (π2 := π), h2]
      · simp_arith []
        rw [show (b == 0) = false from beq_eq_false_iff_ne.mpr h0]; rfl
      · simp_arith [fMod_pos a b hp]
theorem common_divisor_ok (a b : Int) (π : PH) (hb : 0 ≤ b) : F_common_divisor [.int a, .int b] π = .ok (.int (Int.gcd a b : Nat)) π := by
  obtain ⟨g, h1, h2⟩ := cd_loop π (b.natAbs + 1) a b hb (by omega)
  have hw : sWh fuel_common_divisor_1 (mB (mOp (fEqS true) (mVar 1) (mC (.int 0)))) (sPar 0 1 (mCons (mVar 1) (mCons (mOp (fMod) (mVar 0) (mVar 1)) (mNil)))) [some (.int a), some (.int b)] π = .nx [some (.int g), some (.int 0)] π := h2
  unfold F_common_divisor runB m_common_divisor
  simp_arith [hw, fAbs_int]
  rw [← h1]
  congr 2
  split <;> omega
theorem is_fraction_ok (a b : Int) (π : PH) (hb : 0 ≤ b) : F_is_fraction [.tup [.int a, .int b]] π = .ok (.bl (decide (0 < b) && decide (Int.gcd a b = 1))) π := by
  unfold F_is_fraction runB m_is_fraction
  have ht : ∀ c : Bool, truD π (.bl c) = some c := fun _ => rfl
  simp_arith [is_row_ii, ht, common_divisor_ok a b π hb, show fitsB 2 = true from rfl]
  by_cases h : 0 < b
  · simp_arith [h, decide_true]
    congr 2
    rw [Bool.true_and]
    by_cases h2 : Int.gcd a b = 1
    · rw [h2]; rfl
    · rw [decide_eq_false h2, beq_eq_false_iff_ne]; omega
  · simp_arith [h, decide_false, Bool.false_and]
def fracIn (s : Str) : Option (Int × Int) :=
  if 47 ∈ tl s then (match numIn (Txt.partition s (ch 47)).1, numIn (Txt.partition s (ch 47)).2.2 with
    | some a, some b => if 1 < b ∧ Int.gcd a b = 1 then some (a, b) else none
    | _, _ => none) else (numIn s).map fun i => (i, 1)
def fracD : Option (Int × Int) → D
  | some (a, b) => .tup [.int a, .int b]
  | none => .non
theorem cut1_dash {s : Str} (h : (cutS s none (some 1) == ("-" : Str)) = true) : 45 ∈ tl s := by
  have e := congrArg tl (eq_of_beq h)
  have e2 : tl (cutS s none (some 1)) = (tl s).take (HT.sIx s.length s.length (some 1)) := by
    show ((tl s).drop 0).take (HT.sIx s.length s.length (some 1) - 0) = _
    simp
  rw [e2] at e
  have : (45 : Nat) ∈ (tl s).take (HT.sIx s.length s.length (some 1)) := by
    rw [e]
    show 45 ∈ tl (Str.ofString "-")
    rw [tl_ofString]
    simp
  exact List.mem_of_mem_take this
theorem whole_num (s : Str) (i : Int) (hi : 0 ≤ i) : wholeIn s = some i ↔ numIn s = some i := by
  unfold wholeIn
  split
  · rename_i h
    constructor
    · intro e
      cases en : numIn (cutS s (some 1) none) with
      | none => rw [en] at e; cases e
      | some j =>
        rw [en] at e
        have := (numIn_lt en).1
        unfold negO at e
        split at e
        · rename_i he; cases he
        · rename_i he
          cases he
          split at e
          · cases e
          · cases e; omega
    · intro e
      exact absurd (cut1_dash h) (numWord_free (numIn_some e).1 (by omega))
  · exact Iff.rfl
theorem partF {s a b : Str} (y : Str) (h : Txt.partition s (ch 47) = (a, y, b)) (hz : s.length ≤ sizeLine) (π : PH) : fPartition (.str s) [.str "/"] π = .ok (.tup [.str a, .str y, .str b]) π := by
  rw [fPart_ch 47 s hz π "/" rfl, h]
theorem fraction_one (s : Str) (π : PH) (hz : s.length ≤ sizeLine) (h : Txt.partition s (ch 47) = (s, Str.empty, Str.empty)) : F_fraction_or_none [.str s] π = .ok (fracD ((wholeIn s).map fun i => (i, 1))) π := by
  unfold F_fraction_or_none runB m_fraction_or_none
  have hw := integer_or_none_ok s π hz
  have e0 : (Str.empty == ("" : Str)) = true := by decide +kernel
  have hp := partF Str.empty h hz π
  simp_arith [hp, hw, e0, fIsN_optD]
  cases wholeIn s with
  | none => simp_arith [optD]; rfl
  | some i =>
    simp_arith [optD, Option.isNone_some, is_fraction_ok i 1 π (by omega), show fitsB 2 = true from rfl]
    rw [show (decide ((0 : Int) < 1) && decide (Int.gcd i 1 = 1)) = true by simp]
    rfl
theorem fraction_two (s a b : Str) (π : PH) (hz : s.length ≤ sizeLine) (h : Txt.partition s (ch 47) = (a, ch 47, b)) (ha : a.length ≤ sizeLine) (hb : b.length ≤ sizeLine) : F_fraction_or_none [.str s] π = .ok (fracD (match wholeIn a, numIn b with | some i, some j => if 1 < j ∧ Int.gcd i j = 1 then some (i, j) else none | _, _ => none)) π := by
  unfold F_fraction_or_none runB m_fraction_or_none
  have hw := integer_or_none_ok a π ha
  have hn := number_or_none_ok b π hb
  have e0 : (ch 47 == ("" : Str)) = false := by decide +kernel
  have hp := partF (ch 47) h hz π
  simp_arith [hp, hw, e0, hn, fIsN_optD]
  cases wholeIn a with
  | none => simp_arith [optD, Option.isNone_none]; rfl
  | some i =>
    cases ej : numIn b with
    | none => simp_arith [optD, Option.isNone_some, Option.isNone_none]; rfl
    | some j =>
      have hj := numIn_lt ej
      simp_arith [optD, Option.isNone_some, show fitsB 2 = true from rfl]
      by_cases h1 : j = 1
      · subst h1
        simp_arith [show ((1 : Int) == 1) = true from rfl]
        rfl
      · simp_arith [show (j == 1) = false from beq_eq_false_iff_ne.mpr h1, is_fraction_ok i j π hj.1]
        by_cases h2 : 1 < j ∧ Int.gcd i j = 1
        · rw [if_pos h2, h2.2, decide_eq_true (show 0 < j by omega)]
          rfl
        · rw [if_neg h2]
          have : (decide (0 < j) && decide (Int.gcd i j = 1)) = false := by
            rw [Bool.and_eq_false_iff, decide_eq_false_iff_not, decide_eq_false_iff_not]
            by_cases h3 : 0 < j
            · right; intro h4; exact h2 ⟨by omega, h4⟩
            · left; exact h3
          rw [this]
          rfl
theorem charge_of (o : Option (Int × Int)) (s : Str) (π : PH) (h : F_fraction_or_none [.str s] π = .ok (fracD o) π) : F_charge_or_none [.str s] π = .ok (fracD (o.bind fun p => if p.1 < 0 then none else some p)) π := by
  unfold F_charge_or_none runB m_charge_or_none
  cases o with
  | none => simp_arith [h, fracD]; rfl
  | some p =>
    obtain ⟨i, j⟩ := p
    simp_arith [h, fracD]
    by_cases h0 : i < 0
    · simp_arith [h0, decide_true]; simp [h0]
    · simp_arith [h0, decide_false]; simp [h0]
theorem charge_or_none_ok (s : Str) (π : PH) (hz : s.length ≤ sizeLine) : F_charge_or_none [.str s] π = .ok (fracD (fracIn s)) π := by
  unfold fracIn
  rcases split_cut 47 (by decide) s with ⟨h1, h2, h3⟩ | ⟨a, b, h1, h2, h3, h4⟩
  · rw [if_neg h1, charge_of _ s π (fraction_one s π hz h3)]
    congr 2
    cases ew : wholeIn s with
    | none =>
      cases en : numIn s with
      | none => rfl
      | some j =>
        have := (whole_num s j (numIn_lt en).1).mpr en
        rw [ew] at this; cases this
    | some i =>
      by_cases h0 : i < 0
      · simp only [Option.map_some, Option.bind_some, if_pos h0]
        cases en : numIn s with
        | none => rfl
        | some j =>
          have := (whole_num s j (numIn_lt en).1).mpr en
          rw [ew] at this; cases this
          have := (numIn_lt en).1
          omega
      · simp only [Option.map_some, Option.bind_some, if_neg h0]
        rw [(whole_num s i (by omega)).mp ew]
        rfl
  · have hm : 47 ∈ tl s := by rw [h2, tl_append, tl_append, tl_ch]; simp
    have hl : a.length ≤ sizeLine ∧ b.length ≤ sizeLine := by rw [h2, cut_len] at hz; omega
    rw [if_pos hm, charge_of _ s π (fraction_two s a b π hz h4 hl.1 hl.2), h4]
    congr 2
    show _ = match numIn a, numIn b with | some a, some b => if 1 < b ∧ Int.gcd a b = 1 then some (a, b) else none | _, _ => none
    cases eb : numIn b with
    | none =>
      cases wholeIn a <;> cases numIn a <;> rfl
    | some j =>
      cases ew : wholeIn a with
      | none =>
        cases en : numIn a with
        | none => rfl
        | some k =>
          have := (whole_num a k (numIn_lt en).1).mpr en
          rw [ew] at this; cases this
      | some i =>
        by_cases h0 : i < 0
        · have en : numIn a = none := by
            cases en : numIn a with
            | none => rfl
            | some k =>
              have := (whole_num a k (numIn_lt en).1).mpr en
              rw [ew] at this; cases this
              have := (numIn_lt en).1
              omega
          rw [en]
          show ((if 1 < j ∧ Int.gcd i j = 1 then some (i, j) else none).bind fun p => if p.1 < 0 then none else some p) = none
          split
          · simp [h0]
          · rfl
        · rw [(whole_num a i (by omega)).mp ew]
          show ((if 1 < j ∧ Int.gcd i j = 1 then some (i, j) else none).bind fun p => if p.1 < 0 then none else some p) = (if 1 < j ∧ Int.gcd i j = 1 then some (i, j) else none)
          split
          · simp [h0]
          · rfl
end LW

set_option Elab.async false
set_option linter.all false
set_option maxRecDepth 100000
set_option maxHeartbeats 4000000
/-! Fractions, as the law reads them. -/
namespace LW
open PySem L2 MI TL
theorem eqS_ii (a b c d : Int) (neg : Bool) (π : PH) : fEqS neg (.tup [.int a, .int b]) (.tup [.int c, .int d]) π = .ok (.bl ((a == c && (b == d && true)) != neg)) π := by rfl
theorem eqS_ti (a b c : Int) (neg : Bool) (π : PH) : fEqS neg (.tup [.int a, .int b]) (.int c) π = .ok (.bl (false != neg)) π := by rfl
theorem mLc_map {δ : MI.Env} {π : PH} {xs : List D} {i : Nat} {src : M Src} {te : M D} (f : D → D) (hs : src δ π = .ok (.fix xs) π) (hz : xs.length ≤ sizeLine) (h : ∀ d ∈ xs, te ((wipeE δ [i]).set i (some d)) π = .ok (f d) π) :
    mLc false [i] src (setN i) mYes te δ π = .ok (.lst (xs.map f)) π := by
  rw [mLc_fix (set := setN i) (fun _ => true) f hs hz fun d hd => ⟨_, rfl, rfl, fun _ => h d hd⟩, List.filter_eq_self.mpr (by simp)]
  rfl
theorem mLc_filter {δ : MI.Env} {π : PH} {xs : List D} {i : Nat} {src : M Src} {tt : M Bool} {te : M D} (p : D → Bool) (hs : src δ π = .ok (.fix xs) π) (hz : xs.length ≤ sizeLine) (ht : ∀ d ∈ xs, tt ((wipeE δ [i]).set i (some d)) π = .ok (p d) π) (h : ∀ d ∈ xs, te ((wipeE δ [i]).set i (some d)) π = .ok d π) :
    mLc false [i] src (setN i) tt te δ π = .ok (.lst (xs.filter p)) π := by
  rw [mLc_fix (set := setN i) p (fun d => d) hs hz fun d hd => ⟨_, rfl, ht d hd, fun _ => h d hd⟩, List.map_id']
  rfl
theorem src_lst {δ : MI.Env} {π : PH} {i : Nat} {xs : List D} (h : δ[i]? = some (some (.lst xs))) : mUn fSrc (mVar i) δ π = .ok (.fix xs) π := by
  rw [mUn_ap, mVar_ap, h]; rfl
theorem src_tup {δ : MI.Env} {π : PH} {i : Nat} {xs : List D} (h : δ[i]? = some (some (.tup xs))) : mUn fSrc (mVar i) δ π = .ok (.fix xs) π := by
  rw [mUn_ap, mVar_ap, h]; rfl
theorem wipe_nil (δ : MI.Env) : wipeE δ [] = δ := rfl
theorem wipe_cons (δ : MI.Env) (i : Nat) (is : List Nat) : wipeE δ (i :: is) = (wipeE δ is).set i none := rfl
theorem flat_opts (l : List (Option Int)) : (l.map optD).all flatD = true := by
  rw [List.all_map, List.all_eq_true]
  intro o _
  cases o <;> rfl
theorem any_opts (l : List (Option Int)) : (l.map optD).any (fun y => eqF y .non) = l.any Option.isNone := by
  rw [List.any_map]
  congr 1
  funext o
  cases o <;> rfl
theorem none_in_l (l : List (Option Int)) (π : PH) : fIn false .non (.lst (l.map optD)) π = .ok (.bl (l.any Option.isNone)) π := by
  show opt (sqOf π (.lst (l.map optD))) (fun ds => when_ (flatD D.non && ds.all flatD) (Res.ok (D.bl (ds.any (fun y => eqF y D.non) != false)) π)) = _
  rw [show sqOf π (.lst (l.map optD)) = some (l.map optD) from rfl, opt_some, flat_opts, any_opts]
  show Res.ok (D.bl (_ != false)) π = _
  rw [Bool.bne_false]
theorem none_in_t (l : List (Option Int)) (π : PH) : fIn false .non (.tup (l.map optD)) π = .ok (.bl (l.any Option.isNone)) π := by
  show opt (sqOf π (.tup (l.map optD))) (fun ds => when_ (flatD D.non && ds.all flatD) (Res.ok (D.bl (ds.any (fun y => eqF y D.non) != false)) π)) = _
  rw [show sqOf π (.tup (l.map optD)) = some (l.map optD) from rfl, opt_some, flat_opts, any_opts]
  show Res.ok (D.bl (_ != false)) π = _
  rw [Bool.bne_false]
theorem log_ok {b : Int} (h0 : 0 < b) (h : b < 10 ^ 61) : b.natAbs.log2 < 1920 := by
  rw [Nat.log2_lt (by omega)]
  have e1 : b.natAbs < 10 ^ 61 := by
    have e2 : ((10 : Int) ^ 61) = ((10 ^ 61 : Nat) : Int) := by norm_cast
    rw [e2] at h
    omega
  exact Nat.lt_of_lt_of_le (Nat.lt_trans e1 (show 10 ^ 61 < 2 ^ 203 by decide)) (Nat.pow_le_pow_right (by decide) (by decide))
theorem lf_loop (π : PH) (x y : D) : ∀ (n : Nat) (a b : Int), 0 ≤ a → 0 ≤ b → b.natAbs < n →
    whLoop (mB (mOp (fGt) (mVar 3) (mC (.int 0)))) (sPar 2 3 (mCons (mVar 3) (mCons (mOp (fMod) (mVar 2) (mVar 3)) (mNil)))) n [some x, some y, some (.int a), some (.int b)] π = .nx [some x, some y, some (.int (Int.gcd a b : Nat)), some (.int 0)] π := by
  intro n
  induction n with
  | zero => intro a b _ _ h; omega
  | succ n ih =>
    intro a b ha hb h
    by_cases h0 : b = 0
    · subst h0
      rw [whLoop_stop (by simp_arith []; rfl), Int.gcd_zero_right, Int.natAbs_of_nonneg ha]
    · have hp : 0 < b := by omega
      have hm : 0 ≤ a % b := Int.emod_nonneg _ h0
      have hl : a % b < b := Int.emod_lt_of_pos _ hp
      rw [whLoop_next (δ2 := [some x, some y, some (.int b), some (.int (a % b))]) (π2 := π), ih b (a % b) hb hm (by omega), gcd_step a b hp]
      · simp_arith [hp, decide_true]
      · simp_arith [fMod_pos a b hp]
theorem law_frac_ok (a b : Int) (π : PH) (ha : 0 ≤ a) (hb : 0 < b) (h2 : b < 10 ^ 61) : F__law_frac [.int a, .int b] π = .ok (.tup [.int (a / (Int.gcd a b : Nat)), .int (b / (Int.gcd a b : Nat))]) π := by
  have hw : sWh fuel__law_frac_1 (mB (mOp (fGt) (mVar 3) (mC (.int 0)))) (sPar 2 3 (mCons (mVar 3) (mCons (mOp (fMod) (mVar 2) (mVar 3)) (mNil)))) [some (.int a), some (.int b), some (.int a), some (.int b)] π = .nx [some (.int a), some (.int b), some (.int (Int.gcd a b : Nat)), some (.int 0)] π := lf_loop π _ _ (b.natAbs + 1) a b ha (by omega) (by omega)
  have hg : 0 < ((Int.gcd a b : Nat) : Int) := by
    have := Int.gcd_pos_of_ne_zero_right a (b := b) (by omega)
    omega
  have hg2 : ((Int.gcd a b : Nat) : Int) ≤ b := Int.gcd_le_right a hb
  have hl : ((Int.gcd a b : Nat) : Int).natAbs.log2 < 9000 := Nat.lt_trans (log_ok hg (by omega)) (by decide)
  unfold F__law_frac runB m__law_frac
  simp_arith [hw, fAbs_int, show ¬ a < 0 by omega, if_false, fDiv_pos _ _ hg hl]
theorem frac_same {a b : Int} (h : 1 < b) : ((a / (Int.gcd a b : Nat) == a && (b / (Int.gcd a b : Nat) == b && true))) = decide (Int.gcd a b = 1) := by
  by_cases h1 : Int.gcd a b = 1
  · rw [h1]; simp
  · rw [decide_eq_false h1]
    have hg : 0 < ((Int.gcd a b : Nat) : Int) := by
      have := Int.gcd_pos_of_ne_zero_right a (b := b) (by omega)
      omega
    have : b / (Int.gcd a b : Nat) < b := by
      apply Int.ediv_lt_of_lt_mul hg
      have : 2 ≤ ((Int.gcd a b : Nat) : Int) := by omega
      have := Int.mul_le_mul_of_nonneg_left this (show 0 ≤ b by omega)
      omega
    have e : (b / (Int.gcd a b : Nat) == b) = false := beq_eq_false_iff_ne.mpr (by omega)
    rw [e]
    simp
theorem map_nums (l : List Str) : (l.map D.str).map (fun d => match d with | .str w => optD (numIn w) | _ => .non) = (l.map numIn).map optD := by
  rw [List.map_map, List.map_map]
  rfl
theorem law_nums (l : List Str) (δ : MI.Env) (π : PH) (i j : Nat) (src : M Src) (hs : src δ π = .ok (.fix (l.map D.str)) π) (hj : j < δ.length) (hl : l.length ≤ sizeLine) (h : ∀ w ∈ l, w.length ≤ sizeLine ∧ asc w) :
    mLc false [j] src (setN j) mYes (mArgs (fCall 1 [] F__law_number_in) (mCons (mVar j) mNil)) δ π = .ok (.lst ((l.map numIn).map optD)) π := by
  rw [← map_nums, mLc_map (fun d => match d with | .str w => optD (numIn w) | _ => .non) hs (by simpa using hl)]
  intro d hd
  obtain ⟨w, hw, rfl⟩ := List.mem_map.mp hd
  have e := law_number_in_ok w π (h w hw).1 (h w hw).2
  have e1 : ((wipeE δ [j]).set j (some (D.str w)))[j]? = some (some (.str w)) := by
    rw [wipe_cons, wipe_nil, List.getElem?_set, if_pos rfl, if_pos (by simpa using hj)]
  rw [mArgs_ap, mCons_ap, mVar_ap, e1]
  simp_arith [e]
theorem law_frac_in_ok (s : Str) (π : PH) (hz : s.length + 2 ≤ sizeLine) (ha : asc s) : F__law_frac_in [.str s] π = .ok (fracD (fracIn s)) π := by
  have hsp := fSplit_ch 47 (by decide) s hz π "/" rfl
  have hn := law_nums (Txt.split s (ch 47)) [some (.str s), some (.lst ((Txt.split s (ch 47)).map D.str)), none, none] π 1 3 (mUn fSrc (mVar 1)) (src_lst rfl) (by simp) (Nat.le_trans (split_many 47 (by decide) s) (by omega)) (fun w hw => ⟨Nat.le_trans (split_le 47 (by decide) s w hw) (by omega), split_asc 47 (by decide) s ha w hw⟩)
  have hin := none_in_l ((Txt.split s (ch 47)).map numIn) π
  unfold F__law_frac_in runB m__law_frac_in fracIn
  simp_arith [hsp, hn]
  rcases split_cut 47 (by decide) s with ⟨h1, h2, h3⟩ | ⟨a, b, h1, h2, h3, h4⟩
  · rw [h2] at hin ⊢
    simp only [List.map_cons, List.map_nil, List.any_cons, List.any_nil, Bool.or_false] at hin
    rw [if_neg h1]
    simp_arith [hin]
    rw [show decide ((2 : Int) < ((0 + 1 : Nat) : Int)) = false from rfl]
    cases numIn s with
    | none => simp_arith [Option.isNone_none]; rfl
    | some i => simp_arith [Option.isNone_some]; rfl
  · have hm : 47 ∈ tl s := by rw [h2, tl_append, tl_append, tl_ch]; simp
    rw [if_pos hm, h4]
    rw [h3] at hin ⊢
    rcases split_cut 47 (by decide) b with ⟨k1, k2, k3⟩ | ⟨c, d, k1, k2, k3, k4⟩
    · rw [k2] at hin ⊢
      simp only [List.map_cons, List.map_nil, List.any_cons, List.any_nil, Bool.or_false] at hin
      simp_arith [hin]
      rw [show decide ((2 : Int) < ((0 + 1 + 1 : Nat) : Int)) = false from rfl]
      cases ea : numIn a with
      | none => simp_arith [Option.isNone_none, Bool.true_or]; rfl
      | some i =>
        cases eb : numIn b with
        | none => simp_arith [Option.isNone_none, Option.isNone_some, Bool.or_true]; rfl
        | some j =>
          have hi := numIn_lt ea
          have hj := numIn_lt eb
          simp_arith [Option.isNone_some, Bool.or_false, optD, show (((0 + 1 + 1 : Nat) : Int) == 1) = false from rfl]
          by_cases h5 : 1 < j
          · simp_arith [h5, decide_true, law_frac_ok i j π hi.1 (by omega) (by omega), eqS_ii, frac_same h5, true_and]
            by_cases h6 : Int.gcd i j = 1
            · rw [decide_eq_true h6, if_pos rfl, if_pos h6]; rfl
            · rw [decide_eq_false h6, if_neg (by simp), if_neg h6]; rfl
          · simp_arith [h5, decide_false, false_and, if_false]; rfl
    · have eb : numIn b = none := by
        cases eb : numIn b with
        | none => rfl
        | some j => exact absurd (show 47 ∈ tl b by rw [k2, tl_append, tl_append, tl_ch]; simp) (numWord_free (numIn_some eb).1 (by omega))
      have hlen : (2 : Int) < (((((Txt.split b (ch 47)).map numIn).map optD).length + 1 : Nat) : Int) := by
        rw [k3]
        have := List.length_pos_iff.mpr (split_ne 47 (by decide) d)
        simp only [List.length_map, List.length_cons]
        omega
      simp_arith [hin, hlen, decide_true]
      rw [eb]
      cases numIn a <;> rfl
end LW

set_option Elab.async false
set_option linter.all false
set_option maxRecDepth 100000
set_option maxHeartbeats 4000000
/-! Names, pairs, groups, cents. -/
namespace LW
open PySem L2 MI TL
theorem len_le_of (s : Str) (h : s.length + 2 ≤ sizeLine) : s.length ≤ sizeLine := by omega
theorem chars_ok (s : Str) (neg : Bool) (z : Str) (p : Nat → Bool) (hp : ∀ c, decide (c ∈ z.cps.toList) = p c) (π : PH) (hz : s.length ≤ sizeLine) :
    mLc false [1] (mUn fSrc (mVar 0)) (setN 1) (mB (mOp (fIn true) (mVar 1) (mC (.str z)))) (mVar 1) [some (.str s), none] π = .ok (.lst ((s.cps.toList.filter fun c => !p c).map fun c => D.str ⟨#[c]⟩)) π := by
  rw [mLc_filter (xs := s.cps.toList.map fun c => D.str ⟨#[c]⟩) (fun d => match d with | .str w => !(p (w.cps.toList.headD 0)) | _ => false) rfl (by rw [List.length_map, Array.length_toList]; exact hz)]
  · congr 2
    generalize s.cps.toList = l
    induction l with
    | nil => rfl
    | cons c l ih =>
      rw [List.map_cons, List.filter_cons, List.filter_cons]
      show (if (!p c) = true then _ else _) = _
      rw [ih]
      cases p c <;> rfl
  · intro d hd
    obtain ⟨c, _, rfl⟩ := List.mem_map.mp hd
    rw [wipe_cons, wipe_nil]
    simp_arith [fIn_char, hp]
    rfl
  · intro d hd
    rw [wipe_cons, wipe_nil]
    simp_arith []
theorem filter_neg (l : List Nat) (p : Nat → Bool) : (!(l.filter fun c => !p c).isEmpty) = !(l.all p) := by
  induction l with
  | nil => rfl
  | cons c l ih =>
    rw [List.filter_cons, List.all_cons]
    cases p c with
    | true => simpa using ih
    | false => rfl
theorem eq_nil_chars (l : List Nat) (h : ∀ c ∈ l, c < 128) (π : PH) : fEqS false (.lst (l.map fun c => D.str ⟨#[c]⟩)) (.lst []) π = .ok (.bl l.isEmpty) π := by
  have e := ne_nil_chars l h π
  have f : ∀ d, fEqS true d (.lst []) π = .ok (.bl (!l.isEmpty)) π → fEqS false d (.lst []) π = .ok (.bl l.isEmpty) π := by
    intro d hd
    unfold fEqS at hd ⊢
    cases hs : scalD d (.lst []) with
    | some b =>
      rw [hs] at hd
      simp only [Res.ok.injEq, D.bl.injEq, and_true] at hd ⊢
      cases b <;> cases hl : l.isEmpty <;> simp_all
    | none =>
      rw [hs] at hd
      dsimp only at hd ⊢
      unfold fEq opt at hd ⊢
      cases he : eqD π d (.lst []) with
      | none => rw [he] at hd; cases hd
      | some b =>
        rw [he] at hd
        simp only [Res.ok.injEq, D.bl.injEq, and_true] at hd ⊢
        cases b <;> cases hl : l.isEmpty <;> simp_all
  exact f _ e
theorem law_is_name_ok (s : Str) (π : PH) (hz : s.length ≤ sizeLine) (ha : asc s) : F__law_is_name [.str s] π = .ok (.bl (isName s)) π := by
  have e1 := chars_ok s true "abcdefghijklmnopqrstuvwxyz" letter letters_mem π hz
  have e2 := eq_nil_chars (s.cps.toList.filter fun c => !letter c) (fun c hc => ha c (List.mem_filter.mp hc).1) π
  have e3 : (s.cps.toList.filter fun c => !letter c).isEmpty = s.cps.toList.all letter := by
    have := filter_neg s.cps.toList letter
    cases h1 : (s.cps.toList.filter fun c => !letter c).isEmpty <;> cases h2 : s.cps.toList.all letter <;> simp_all
  rw [e3] at e2
  have ec := chain_len 1 8 s [some (.str s), none] π rfl hz
  have ew : ((decide ((1 : Int) ≤ s.length) && decide ((s.length : Int) ≤ 8)) && s.cps.toList.all letter) = isName s := by
    unfold isName
    congr 2 <;> exact decide_eq_decide.mpr (by omega)
  unfold F__law_is_name runB m__law_is_name
  rw [← ew]
  simp_arith [fLen_str hz, e1, e2]
  by_cases h1 : (1 : Int) ≤ s.length
  · simp_arith [h1, decide_true, Bool.true_and]
    by_cases h2 : (s.length : Int) ≤ 8
    · simp_arith [h2, decide_true, Bool.true_and, e1, e2]
    · simp_arith [h2, decide_false, Bool.false_and]
  · simp_arith [h1, decide_false, Bool.false_and]
def dOf : Option D → D
  | some d => d
  | none => .non
def chargeV (s : Str) : Option D := (fracIn s).map fun p => .tup [.int p.1, .int p.2]
def changeV (s : Str) : Option D := (wholeIn s).bind fun i => if i = 0 then none else some (.int i)
def pairIn (v : Str → Option D) (s : Str) : Option D := if 58 ∈ tl s then (if isName (Txt.partition s (ch 58)).1 = true then (v (Txt.partition s (ch 58)).2.2).map fun x => .tup [.str (Txt.partition s (ch 58)).1, x] else none) else none
def groupIn (s : Str) : Option D := if (Txt.split s (ch 43)).all isName = true then some (.tup ((Txt.split s (ch 43)).map D.str)) else none
def centsIn (s : Str) : Option D := if s == "-" then some (.tup []) else if ((Txt.split s (ch 44)).map numIn).any Option.isNone = true then none else some (.tup (((Txt.split s (ch 44)).map numIn).map optD))
def nameIn (s : Str) : Option D := if isName s = true then some (.str s) else none
theorem chargeV_ok (s : Str) (π : PH) (hz : s.length ≤ sizeLine) : F_charge_or_none [.str s] π = .ok (dOf (chargeV s)) π := by
  rw [charge_or_none_ok s π hz]
  unfold chargeV
  cases fracIn s <;> rfl
theorem changeV_ok (s : Str) (π : PH) (hz : s.length ≤ sizeLine) : F_change_or_none [.str s] π = .ok (dOf (changeV s)) π := by
  have e := integer_or_none_ok s π hz
  unfold F_change_or_none runB m_change_or_none changeV
  simp_arith [e]
  cases wholeIn s with
  | none => simp_arith [optD]; rfl
  | some i =>
    simp_arith [optD]
    by_cases h : i = 0
    · subst h; rfl
    · simp_arith [show (i == 0) = false from beq_eq_false_iff_ne.mpr h]
      simp [h, dOf]
theorem num_colon {s : Str} (h : 58 ∈ tl s) : numIn s = none := by
  cases e : numIn s with
  | none => rfl
  | some j => exact absurd h (numWord_free (numIn_some e).1 (by omega))
theorem charge_colon {s : Str} (h : 58 ∈ tl s) : chargeV s = none := by
  unfold chargeV fracIn
  rcases split_cut 47 (by decide) s with ⟨h1, h2, h3⟩ | ⟨a, b, h1, h2, h3, h4⟩
  · rw [if_neg h1, num_colon h]; rfl
  · have hm : 47 ∈ tl s := by rw [h2, tl_append, tl_append, tl_ch]; simp
    rw [if_pos hm, h4]
    rw [h2, tl_append, tl_append, tl_ch] at h
    simp only [List.mem_append, List.mem_singleton] at h
    rcases h with (h | h) | h
    · rw [num_colon h]; rfl
    · omega
    · show Option.map _ (match numIn a, numIn b with | some a, some b => if 1 < b ∧ Int.gcd a b = 1 then some (a, b) else none | _, _ => none) = none
      rw [num_colon h]
      cases numIn a <;> rfl
theorem change_colon {s : Str} (h : 58 ∈ tl s) : changeV s = none := by
  unfold changeV wholeIn
  split
  · rename_i h1
    have e := congrArg tl (eq_of_beq h1)
    have e2 : tl (cutS s none (some 1)) = (tl s).take 1 := by
      show ((tl s).drop 0).take (HT.sIx s.length s.length (some 1) - 0) = _
      have hl : s.length = (tl s).length := len_tl s
      have := List.length_pos_of_mem h
      rw [show HT.sIx s.length s.length (some 1) = 1 from by rw [show (some (1 : Int)) = some ((1 : Nat) : Int) from rfl, HT.sIx_nat]; omega]
      rfl
    have e3 : tl (cutS s (some 1) none) = (tl s).drop 1 := by
      show ((tl s).drop (HT.sIx s.length 0 (some 1))).take (s.length - HT.sIx s.length 0 (some 1)) = _
      have hl : s.length = (tl s).length := len_tl s
      have := List.length_pos_of_mem h
      rw [show HT.sIx s.length 0 (some 1) = 1 from by rw [show (some (1 : Int)) = some ((1 : Nat) : Int) from rfl, HT.sIx_nat]; omega]
      exact List.take_of_length_le (by rw [List.length_drop]; omega)
    rw [e2] at e
    have hd : 58 ∈ tl (cutS s (some 1) none) := by
      rw [e3]
      rw [← List.take_append_drop 1 (tl s), e] at h
      rcases List.mem_append.mp h with h | h
      · exact absurd h (by decide +kernel)
      · exact h
    rw [num_colon hd]
    rfl
  · rw [num_colon h]; rfl
end LW

set_option Elab.async false
set_option linter.all false
set_option maxRecDepth 100000
set_option maxHeartbeats 4000000
/-! The words of a row, by both. -/
namespace LW
open PySem L2 MI TL
/-- no value is None -/
def Solid (v : Str → Option D) : Prop := ∀ w d, v w = some d → isNonD d = false
theorem solid_charge : Solid chargeV := fun w d h => by
  unfold chargeV at h
  cases e : fracIn w with
  | none => rw [e] at h; cases h
  | some p => rw [e] at h; cases h; rfl
theorem solid_change : Solid changeV := fun w d h => by
  unfold changeV at h
  cases e : wholeIn w with
  | none => rw [e] at h; cases h
  | some p =>
    rw [e] at h
    simp only [Option.bind_some] at h
    split at h
    · cases h
    · cases h; rfl
theorem solid_pair (v : Str → Option D) : Solid (pairIn v) := fun w d h => by
  unfold pairIn at h
  split at h
  · split at h
    · cases e : v (Txt.partition w (ch 58)).2.2 with
      | none => rw [e] at h; cases h
      | some p => rw [e] at h; cases h; rfl
    · cases h
  · cases h
theorem solid_group : Solid groupIn := fun w d h => by
  unfold groupIn at h
  split at h
  · cases h; rfl
  · cases h
theorem solid_cents : Solid centsIn := fun w d h => by
  unfold centsIn at h
  split at h
  · cases h; rfl
  · split at h
    · cases h
    · cases h; rfl
theorem solid_name : Solid nameIn := fun w d h => by
  unfold nameIn at h
  split at h
  · cases h; rfl
  · cases h
theorem isN_dOf {o : Option D} (h : ∀ d, o = some d → isNonD d = false) (neg : Bool) (π : PH) : fIsN neg (dOf o) .non π = .ok (.bl (o.isNone != neg)) π := by
  cases o with
  | none => rfl
  | some d =>
    show Res.ok (D.bl (isNonD d != neg)) π = _
    rw [h d rfl]; rfl
theorem pair_or_none_ok (v : Str → Option D) (fd : D) (s : Str) (π : PH) (hz : s.length ≤ sizeLine) (hv : Solid v)
    (hc : ∀ w : Str, w.length ≤ sizeLine → ∀ (δ : MI.Env) (mf : M D) (ms : M (List D)), mf δ π = .ok fd π → ms δ π = .ok [.str w] π → mCallW tF_pair_or_none_value_of tL_pair_or_none_value_of 1 mf ms δ π = .ok (dOf (v w)) π) :
    F_pair_or_none [.str s, fd] π = .ok (dOf (pairIn v s)) π := by
  unfold F_pair_or_none runB m_pair_or_none pairIn
  rcases split_cut 58 (by decide) s with ⟨h1, h2, h3⟩ | ⟨a, b, h1, h2, h3, h4⟩
  · rw [if_neg h1]
    have hp : fPartition (.str s) [.str ":"] π = .ok (.tup [.str s, .str Str.empty, .str Str.empty]) π := by rw [fPart_ch 58 s hz π ":" rfl, h3]
    simp_arith [hp, show (Str.empty == ("" : Str)) = true by decide +kernel]
    rfl
  · have hm : 58 ∈ tl s := by rw [h2, tl_append, tl_append, tl_ch]; simp
    have hp : fPartition (.str s) [.str ":"] π = .ok (.tup [.str a, .str (ch 58), .str b]) π := by rw [fPart_ch 58 s hz π ":" rfl, h4]
    have hl : a.length ≤ sizeLine ∧ b.length ≤ sizeLine := by rw [h2, cut_len] at hz; omega
    rw [if_pos hm, h4]
    have hn := is_name_ok a π hl.1
    have hcc := hc b hl.2 [some (.str s), some fd, some (.str a), some (.str (ch 58)), some (.str b), none] (mVar 1) (mCons (mVar 4) mNil) rfl rfl
    simp_arith [hp, show (ch 58 == ("" : Str)) = false by decide +kernel, hn]
    cases hb : isName a with
    | false => simp_arith []; rfl
    | true =>
      simp_arith [hcc, isN_dOf (o := v b) (hv b)]
      cases v b with
      | none => simp_arith [Option.isNone_none]; rfl
      | some d => simp_arith [Option.isNone_some]; rfl
theorem callW_charge (w : Str) (hw : w.length ≤ sizeLine) (δ : MI.Env) (π : PH) (mf : M D) (ms : M (List D)) (h1 : mf δ π = .ok (.fn 8) π) (h2 : ms δ π = .ok [.str w] π) : mCallW tF_pair_or_none_value_of tL_pair_or_none_value_of 1 mf ms δ π = .ok (dOf (chargeV w)) π := by
  rw [mCallW_ap, h1, bind_ok]
  show mArgs (fCall 1 [] F_charge_or_none) ms δ π = _
  rw [mArgs_ap, h2, bind_ok, fCall_1, chargeV_ok w π hw]
theorem callW_change (w : Str) (hw : w.length ≤ sizeLine) (δ : MI.Env) (π : PH) (mf : M D) (ms : M (List D)) (h1 : mf δ π = .ok (.fn 14) π) (h2 : ms δ π = .ok [.str w] π) : mCallW tF_pair_or_none_value_of tL_pair_or_none_value_of 1 mf ms δ π = .ok (dOf (changeV w)) π := by
  rw [mCallW_ap, h1, bind_ok]
  show mArgs (fCall 1 [] F_change_or_none) ms δ π = _
  rw [mArgs_ap, h2, bind_ok, fCall_1, changeV_ok w π hw]
theorem lam1_ok (s : Str) (π : PH) (hz : s.length ≤ sizeLine) : F_lam1 [.str s] π = .ok (dOf (pairIn chargeV s)) π := by
  unfold F_lam1 runE m_lam1
  have e := pair_or_none_ok chargeV (.fn 8) s π hz solid_charge (fun w hw δ mf ms h1 h2 => callW_charge w hw δ π mf ms h1 h2)
  simp_arith [e]
theorem lam2_ok (s : Str) (π : PH) (hz : s.length ≤ sizeLine) : F_lam2 [.str s] π = .ok (dOf (pairIn changeV s)) π := by
  unfold F_lam2 runE m_lam2
  have e := pair_or_none_ok changeV (.fn 14) s π hz solid_change (fun w hw δ mf ms h1 h2 => callW_change w hw δ π mf ms h1 h2)
  simp_arith [e]
theorem lam0_ok (s : Str) (π : PH) (hz : s.length ≤ sizeLine) : F_lam0 [.str s] π = .ok (dOf (nameIn s)) π := by
  unfold F_lam0 runE m_lam0 nameIn
  simp_arith [is_name_ok s π hz]
  cases isName s <;> rfl
theorem fAll_map {β : Type} (l : List β) (p : β → Bool) (π : PH) : fAll [.lst (l.map fun x => .bl (p x))] π = .ok (.bl (l.all p)) π := by
  show opt (lsOf π (.lst (l.map fun x => D.bl (p x)))) (fun xs => opt (blsOf xs) fun bs => Res.ok (D.bl (bs.all id)) π) = _
  have e : ∀ l : List β, blsOf (l.map fun x => D.bl (p x)) = some (l.map p) := fun l => by
    induction l with
    | nil => rfl
    | cons x l ih => rw [List.map_cons, List.map_cons, blsOf, ih]; rfl
  show opt (blsOf _) _ = _
  rw [e, opt_some, List.all_map]
  rfl
theorem group_or_none_ok (s : Str) (π : PH) (hz : s.length + 2 ≤ sizeLine) : F_group_or_none [.str s] π = .ok (dOf (groupIn s)) π := by
  have hsp := fSplit_ch 43 (by decide) s hz π "+" rfl
  have hn : mLc false [2] (mUn fSrc (mVar 1)) (setN 2) mYes (mArgs (fCall 1 [] F_is_name) (mCons (mVar 2) mNil)) [some (.str s), some (.tup ((Txt.split s (ch 43)).map D.str)), none] π = .ok (.lst ((Txt.split s (ch 43)).map fun w => .bl (isName w))) π := by
    rw [mLc_map (fun d => match d with | .str w => .bl (isName w) | _ => .non) (src_tup rfl) (by rw [List.length_map]; exact Nat.le_trans (split_many 43 (by decide) s) (by omega)), List.map_map]
    · rfl
    · intro d hd
      obtain ⟨w, hw, rfl⟩ := List.mem_map.mp hd
      rw [wipe_cons, wipe_nil]
      simp_arith [is_name_ok w π (Nat.le_trans (split_le 43 (by decide) s w hw) (by omega))]
  unfold F_group_or_none runB m_group_or_none groupIn
  simp_arith [hsp, hn, fAll_map]
  cases (Txt.split s (ch 43)).all isName <;> rfl
theorem cents_or_none_ok (s : Str) (π : PH) (hz : s.length + 2 ≤ sizeLine) : F_cents_or_none [.str s] π = .ok (dOf (centsIn s)) π := by
  have hsp := fSplit_ch 44 (by decide) s hz π "," rfl
  have hsrc : mUn fSrc (mBM "str" (fSplit false) (mVar 0) (mCons (mC (.str ",")) (mNil))) [some (.str s), none, none] π = .ok (.fix ((Txt.split s (ch 44)).map D.str)) π := by
    simp_arith [hsp]; rfl
  have hn : mLc false [2] (mUn fSrc (mBM "str" (fSplit false) (mVar 0) (mCons (mC (.str ",")) (mNil)))) (setN 2) mYes (mArgs (fCall 1 [] F_number_or_none) (mCons (mVar 2) mNil)) [some (.str s), none, none] π = .ok (.lst (((Txt.split s (ch 44)).map numIn).map optD)) π := by
    rw [← map_nums]
    refine mLc_map (fun d => match d with | .str w => optD (numIn w) | _ => .non) hsrc (by rw [List.length_map]; exact Nat.le_trans (split_many 44 (by decide) s) (by omega)) ?_
    intro d hd
    obtain ⟨w, hw, rfl⟩ := List.mem_map.mp hd
    rw [wipe_cons, wipe_nil]
    simp_arith [number_or_none_ok w π (Nat.le_trans (split_le 44 (by decide) s w hw) (by omega))]
  unfold F_cents_or_none runB m_cents_or_none centsIn
  simp_arith []
  cases (s == ("-" : Str)) with
  | true => simp_arith []; rfl
  | false =>
    simp_arith [hn, none_in_t]
    cases ((Txt.split s (ch 44)).map numIn).any Option.isNone <;> rfl
end LW

set_option Elab.async false
set_option linter.all false
set_option maxRecDepth 100000
set_option maxHeartbeats 4000000
/-! Values that can be compared and shown, and how long they show. -/
namespace LW
open PySem L2 MI TL
/-- of depth n, shown by at most z signs -/
def Gd (n z : Nat) (d : D) : Prop := ∃ p, pd d = some p ∧ p.canLay0 = true ∧ p.depth ≤ n ∧ p.showable = true ∧ p.shown.length ≤ z
def Gds (n z : Nat) (l : List D) : Prop := ∃ ps, pds l = some ps ∧ PyData.canLayAll0 ps = true ∧ PyData.depthAll ps ≤ n ∧ PyData.showableAll ps = true ∧ ((PyData.shownAll ps).map (·.length)).sum + 2 * ps.length ≤ z
theorem Gd.mono {n z m y : Nat} {d : D} (h : Gd n z d) (h1 : n ≤ m) (h2 : z ≤ y) : Gd m y d := by
  obtain ⟨p, a, b, c, e, f⟩ := h
  exact ⟨p, a, b, by omega, e, by omega⟩
theorem Gds.mono {n z m y : Nat} {d : List D} (h : Gds n z d) (h1 : n ≤ m) (h2 : z ≤ y) : Gds m y d := by
  obtain ⟨p, a, b, c, e, f⟩ := h
  exact ⟨p, a, b, by omega, e, by omega⟩
theorem Gds.nil (n : Nat) : Gds n 0 [] := ⟨[], by simp [pds], by simp [PyData.canLayAll0], by simp [PyData.depthAll], by simp [PyData.showableAll], by simp [PyData.shownAll]⟩
theorem Gds.cons {n a b : Nat} {d : D} {l : List D} (h : Gd n a d) (k : Gds n b l) : Gds n (a + 2 + b) (d :: l) := by
  obtain ⟨p, h1, h2, h3, h4, h5⟩ := h
  obtain ⟨ps, k1, k2, k3, k4, k5⟩ := k
  refine ⟨p :: ps, by simp [pds, h1, k1], by simp [PyData.canLayAll0, h2, k2], by simp only [PyData.depthAll]; omega, by simp [PyData.showableAll, h4, k4], ?_⟩
  simp only [PyData.shownAll, List.map_cons, List.sum_cons, List.length_cons]
  omega
theorem Gds.app {n a b : Nat} : ∀ {l m : List D}, Gds n a l → Gds n b m → Gds n (a + b) (l ++ m) := by
  intro l
  induction l generalizing a with
  | nil => intro m _ k; exact k.mono (Nat.le_refl _) (by omega)
  | cons d l ih =>
    intro m h k
    obtain ⟨ps, h1, h2, h3, h4, h5⟩ := h
    simp only [pds] at h1
    cases e1 : pd d with
    | none => rw [e1] at h1; cases h1
    | some p =>
      cases e2 : pds l with
      | none => rw [e1, e2] at h1; cases h1
      | some qs =>
        rw [e1, e2] at h1
        cases h1
        simp only [PyData.canLayAll0, Bool.and_eq_true, PyData.depthAll, PyData.showableAll, PyData.shownAll, List.map_cons, List.sum_cons, List.length_cons] at h2 h3 h4 h5
        have i1 : Gd n p.shown.length d := ⟨p, e1, h2.1, by omega, h4.1, Nat.le_refl _⟩
        have i2 : Gds n (((PyData.shownAll qs).map (·.length)).sum + 2 * qs.length) l := ⟨qs, e2, h2.2, by omega, h4.2, Nat.le_refl _⟩
        exact (Gds.cons i1 (ih i2 k)).mono (Nat.le_refl _) (by omega)
theorem pds_length : ∀ {l : List D} {ps : List PyData}, pds l = some ps → ps.length = l.length
  | [], ps, h => by simp [pds] at h; subst h; rfl
  | d :: l, ps, h => by
    simp only [pds] at h
    cases e1 : pd d with
    | none => rw [e1] at h; cases h
    | some p =>
      cases e2 : pds l with
      | none => rw [e1, e2] at h; cases h
      | some qs => rw [e1, e2] at h; cases h; simp [pds_length e2]
theorem shownAll_length : ∀ l : List PyData, (PyData.shownAll l).length = l.length
  | [] => by simp [PyData.shownAll]
  | x :: l => by simp [PyData.shownAll, shownAll_length l]
theorem Gd.tup {n z : Nat} {l : List D} (h : Gds n z l) : Gd (n + 1) (z + 3) (.tup l) := by
  obtain ⟨ps, h1, h2, h3, h4, h5⟩ := h
  refine ⟨.tuple ps, by simp [pd, h1], by simp [PyData.canLay0, h2], by simp only [PyData.depth]; omega, by simp [PyData.showable, h4], ?_⟩
  simp only [PyData.shown]
  unfold tupleText
  rw [Str.length_append, Str.length_append]
  have e := StrLaws.join_length_le ", " (PyData.shownAll ps)
  rw [shownAll_length] at e
  have e1 : ("(" : Str).length = 1 := by decide +kernel
  have e2 : (", " : Str).length = 2 := by decide +kernel
  have e3 : (Str.ofString (if ((PyData.shownAll ps).length == 1) = true then ",)" else ")")).length ≤ 2 := by
    split <;> decide +kernel
  rw [e2] at e
  omega
theorem textFrom_le : ∀ (ts : List Str) (k : Nat) (acc : Str), (textFrom k acc ts).length ≤ acc.length + (ts.map (·.length)).sum + 2 * ts.length
  | [], k, acc => by simp [textFrom]
  | t :: ts, k, acc => by
    have ih := textFrom_le ts (k + 1) (acc ++ (if k > 0 then ", " else "" : String) ++ t)
    rw [Str.length_append, Str.length_append] at ih
    have e : (Str.ofString (if k > 0 then ", " else "" : String)).length ≤ 2 := by split <;> decide +kernel
    simp only [textFrom, List.map_cons, List.sum_cons, List.length_cons]
    omega
theorem Gd.lst {n z : Nat} {l : List D} (h : Gds n z l) : Gd (n + 1) (z + 3) (.lst l) := by
  obtain ⟨ps, h1, h2, h3, h4, h5⟩ := h
  refine ⟨.list ps, by simp [pd, h1], by simp [PyData.canLay0, h2], by simp only [PyData.depth]; omega, by simp [PyData.showable, h4], ?_⟩
  simp only [PyData.shown]
  unfold listText
  rw [Str.length_append]
  have e := textFrom_le (PyData.shownAll ps) 0 "["
  rw [shownAll_length] at e
  have e1 : ("[" : Str).length = 1 := by decide +kernel
  have e2 : ("]" : Str).length = 1 := by decide +kernel
  omega
theorem Gd.str {s : Str} (h : asc s) : Gd 0 (10 * s.length + 2) (.str s) := by
  refine ⟨.str s, by simp [pd], ?_, by simp [PyData.depth], by simp [PyData.showable], ?_⟩
  · simp only [PyData.canLay0]
    unfold PyData.strOk
    rw [← Array.all_toList]
    exact List.all_eq_true.mpr fun c hc => decide_eq_true (by have := h c hc; omega)
  · simp only [PyData.shown]
    exact StrLaws.reprText_len s fun c hc => by have := h c hc; omega
theorem toStr_len {i : Int} (h1 : -(10 ^ 61) < i) (h : i < 10 ^ 61) : (Str.ofString (toString i)).length ≤ 62 := by
  by_cases h0 : 0 ≤ i
  · have := PyProof.Rows.toString_length_le (v := i) h0 (k := 61) (by decide) h
    omega
  · have e := PyProof.Rows.toString_neg (n := i) (by omega)
    have := PyProof.Rows.toString_length_le (v := 0 - i) (by omega) (k := 61) (by decide) (by omega)
    rw [e]
    have e2 : (Str.ofString ("-" ++ toString (0 - i))).length = 1 + (Str.ofString (toString (0 - i))).length := by
      rw [PyProof.Rows.ofString_length, PyProof.Rows.ofString_length]
      simp
      omega
    omega
theorem Gd.int {i : Int} (h1 : -(10 ^ 61) < i) (h : i < 10 ^ 61) : Gd 0 62 (.int i) := by
  refine ⟨.int i, by simp [pd], by simp [PyData.canLay0], by simp [PyData.depth], ?_, ?_⟩
  · simp only [PyData.showable]
    refine decide_eq_true ?_
    by_cases h0 : i = 0
    · subst h0; decide
    · rw [Nat.log2_lt (by omega)]
      have e2 : ((10 : Int) ^ 61) = ((10 ^ 61 : Nat) : Int) := by norm_cast
      rw [e2] at h h1
      have e1 : i.natAbs < 10 ^ 61 := by omega
      exact Nat.lt_of_lt_of_le (Nat.lt_trans e1 (show 10 ^ 61 < 2 ^ 203 by decide)) (Nat.pow_le_pow_right (by decide) (by decide))
  · simp only [PyData.shown]
    exact toStr_len h1 h
theorem Gd.non : Gd 0 4 .non := ⟨.none, by simp [pd], by simp [PyData.canLay0], by simp [PyData.depth], by simp [PyData.showable], by simp only [PyData.shown]; decide +kernel⟩
theorem fRepr_ok {n z : Nat} {d : D} (h : Gd n z d) (hn : n ≤ 64) (hz : z ≤ sizeLine) (π : PH) : ∃ s, fRepr [d] π = .ok (.str s) π ∧ ∀ π', fRepr [d] π' = .ok (.str s) π' := by
  obtain ⟨p, h1, h2, h3, h4, h5⟩ := h
  have e : ∀ π, fRepr [d] π = .ok (.str p.shown) π := fun π => by
    have e0 : pdH π d = some p := by
      cases d with
      | ref i => simp [pd] at h1
      | _ => exact h1
    show opt (pdH π d) _ = _
    rw [e0, opt_some]
    have : (p.showable && SeqAt.shaped p && decide (p.shown.length ≤ sizeLine)) = true := by
      rw [Bool.and_eq_true, Bool.and_eq_true]
      refine ⟨⟨h4, ?_⟩, decide_eq_true (by omega)⟩
      unfold SeqAt.shaped
      rw [h2, Bool.true_and]
      exact decide_eq_true (by omega)
    rw [this]
    rfl
  exact ⟨_, e π, e⟩
theorem Gds.eq_nil {n z : Nat} {l : List D} (h : Gds n z l) (hn : n < 64) (neg : Bool) (π : PH) (r : Nat) (hr : π[r]? = some (.lst l)) : fEqS neg (.ref r) (.lst []) π = .ok (.bl (l.isEmpty != neg)) π := by
  obtain ⟨ps, h1, h2, h3, h4, h5⟩ := h
  have hl := pds_length h1
  have e0 : pdH π (.ref r) = some (.list ps) := by
    show (match π[r]? with | some (.lst ds) => (pds ds).map PyData.list | _ => none) = _
    rw [hr]
    show (pds l).map PyData.list = _
    rw [h1]; rfl
  have e2 : pdH π (.lst []) = some (.list []) := by
    show pd _ = _
    simp only [pd, pds, Option.map_some]
  show fEq neg _ _ π = _
  show opt (eqD π _ _) _ = _
  unfold eqD
  rw [e0, e2]
  dsimp only
  rw [if_pos ⟨by unfold SeqAt.shaped; simp only [PyData.canLay0, h2, PyData.depth, Bool.true_and]; exact decide_eq_true (by omega), by decide⟩, opt_some]
  congr 2
  cases ps with
  | nil => cases l with
    | nil => rfl
    | cons a l => simp at hl
  | cons p ps => cases l with
    | nil => simp at hl
    | cons a l => rfl
theorem Gds.eq_nilL {n z : Nat} {l : List D} (h : Gds n z l) (hn : n < 64) (neg : Bool) (π : PH) : fEqS neg (.lst l) (.lst []) π = .ok (.bl (l.isEmpty != neg)) π := by
  obtain ⟨ps, h1, h2, h3, h4, h5⟩ := h
  have hl := pds_length h1
  have e0 : pdH π (.lst l) = some (.list ps) := by
    show pd _ = _
    simp only [pd, h1, Option.map_some]
  have e2 : pdH π (.lst []) = some (.list []) := by
    show pd _ = _
    simp only [pd, pds, Option.map_some]
  show fEq neg _ _ π = _
  show opt (eqD π _ _) _ = _
  unfold eqD
  rw [e0, e2]
  dsimp only
  rw [if_pos ⟨by unfold SeqAt.shaped; simp only [PyData.canLay0, h2, PyData.depth, Bool.true_and]; exact decide_eq_true (by omega), by decide⟩, opt_some]
  congr 2
  cases ps with
  | nil => cases l with
    | nil => rfl
    | cons a l => simp at hl
  | cons p ps => cases l with
    | nil => simp at hl
    | cons a l => rfl
theorem gds_strs {n : Nat} : ∀ {l : List Str}, (∀ w ∈ l, asc w) → Gds n (10 * (l.map (·.length)).sum + 4 * l.length) (l.map D.str)
  | [], _ => Gds.nil n
  | w :: l, h => by
    have := Gds.cons (n := n) ((Gd.str (h w List.mem_cons_self)).mono (Nat.zero_le _) (Nat.le_refl _)) (gds_strs fun x hx => h x (List.mem_cons_of_mem _ hx))
    refine this.mono (Nat.le_refl _) ?_
    simp only [List.map_cons, List.sum_cons, List.length_cons]
    omega
theorem gds_opts {n : Nat} : ∀ {l : List (Option Int)}, (∀ o ∈ l, ∀ i, o = some i → -(10 ^ 61) < i ∧ i < 10 ^ 61) → Gds n (64 * l.length) (l.map optD)
  | [], _ => Gds.nil n
  | none :: l, h => by
    have := Gds.cons (n := n) (Gd.non.mono (Nat.zero_le _) (Nat.le_refl _)) (gds_opts (n := n) fun x hx => h x (List.mem_cons_of_mem _ hx))
    exact this.mono (Nat.le_refl _) (by simp only [List.length_cons]; omega)
  | some i :: l, h => by
    have hi := h _ List.mem_cons_self i rfl
    have := Gds.cons (n := n) ((Gd.int hi.1 hi.2).mono (Nat.zero_le _) (Nat.le_refl _)) (gds_opts (n := n) fun x hx => h x (List.mem_cons_of_mem _ hx))
    exact this.mono (Nat.le_refl _) (by simp only [List.length_cons]; omega)
end LW

set_option Elab.async false
set_option linter.all false
set_option maxRecDepth 100000
set_option maxHeartbeats 4000000
/-! The reader of a row. -/
namespace LW
open PySem L2 MI TL
def rdr (row : Int) (ws : List Str) : D := .obj 10 [("row_held", .int row), ("words", .lst (ws.map D.str))]
def excR (row k : Int) : Xc := ⟨8, [("row", .int row), ("field", .int k)]⟩
def resOf (row : Int) (e : Except Nat D) (π : PH) : Res D := match e with
  | .ok d => .ok d π
  | .error k => .exc (excR row k) π
section
variable {row : Int} {ws : List Str} {π : PH}
theorem fFld_words : fFld 10 "words" (rdr row ws) π = .ok (.lst (ws.map D.str)) π := rfl
theorem fFld_row : fFld 10 "row_held" (rdr row ws) π = .ok (.int row) π := rfl
theorem recv_req : fRecv 10 "require" (rdr row ws) π = .ok (rdr row ws) π := rfl
theorem recv_only : fRecv 10 "only" (rdr row ws) π = .ok (rdr row ws) π := rfl
theorem recv_sev : fRecv 10 "several" (rdr row ws) π = .ok (rdr row ws) π := rfl
theorem recv_nos : fRecv 10 "none_or_several" (rdr row ws) π = .ok (rdr row ws) π := rfl
theorem recv_sw : fRecv 10 "step_written" (rdr row ws) π = .ok (rdr row ws) π := rfl
theorem require_ok (b : Bool) (k : Int) : F_StepReader_require [rdr row ws, .bl b, .int k] π = if b = true then .ok .non π else .exc (excR row k) π := by
  unfold F_StepReader_require runB m_StepReader_require
  simp_arith [fFld_row]
  cases b
  · simp_arith []; rfl
  · simp_arith []
theorem require_t (k : Int) : F_StepReader_require [rdr row ws, .bl true, .int k] π = .ok .non π := require_ok true k
theorem require_f (k : Int) : F_StepReader_require [rdr row ws, .bl false, .int k] π = .exc (excR row k) π := require_ok false k
end
/-- the only word behind the first -/
def oneIn (v : Str → Option D) : List Str → Except Nat D
  | [] => .error 1
  | w :: r => match v w with
    | none => .error 1
    | some d => if r = [] then .ok d else .error 2
def Calls (tab lt : Nat → Option Fun_) (fd : D) (v : Str → Option D) (π : PH) (w : Str) : Prop := ∀ (δ : MI.Env) (mf : M D) (ms : M (List D)), mf δ π = .ok fd π → ms δ π = .ok [.str w] π → mCallW tab lt 1 mf ms δ π = .ok (dOf (v w)) π
theorem only_ok (v : Str → Option D) (hv : Solid v) (fd : D) (row : Int) (w0 : Str) (ws : List Str) (π : PH) (hc : ∀ w ∈ ws, Calls tF_StepReader_only_value_of tL_StepReader_only_value_of fd v π w) :
    F_StepReader_only [rdr row (w0 :: ws), fd] π = resOf row (oneIn v ws) π := by
  unfold F_StepReader_only runB m_StepReader_only oneIn
  cases ws with
  | nil =>
    simp_arith [fFld_words, show decide ((1 : Int) < ((0 + 1 : Nat) : Int)) = false from rfl, recv_req, require_f]
    rfl
  | cons w r =>
    have hcc := hc w List.mem_cons_self [some (rdr row (w0 :: w :: r)), some fd, none] (mVar 1) (mCons (mOp fIx (mUn (fFld 10 "words") (mVar 0)) (mC (.int 1))) mNil) rfl (by simp_arith [fFld_words])
    simp_arith [fFld_words, show decide ((1 : Int) < ((((r.map D.str).length + 1 + 1) : Nat) : Int)) = true from decide_eq_true (by omega), recv_req, hcc, isN_dOf (o := v w) (hv w)]
    cases e : v w with
    | none => simp_arith [Option.isNone_none, require_f, recv_req]; rfl
    | some d =>
      simp_arith [Option.isNone_some, require_t, recv_req, fFld_words]
      cases r with
      | nil => simp_arith [show (((([] : List Str).map D.str).length + 1 + 1 : Nat) : Int) == 2 from rfl, require_t]; rfl
      | cons a r =>
        simp_arith [show (((((a :: r).map D.str).length + 1 + 1 : Nat) : Int) == 2) = false from beq_eq_false_iff_ne.mpr (by simp; omega), require_f]
        rfl
/-- a name ahead of a value -/
def headS : D → Str
  | .tup (.str s :: _) => s
  | _ => Str.empty
def Pairs (v : Str → Option D) : Prop := ∀ w d, v w = some d → ∃ n x, d = .tup [.str n, x]
def sevIn (v : Str → Option D) (rising : Bool) : Nat → List D → List Str → Except Nat (List D)
  | _, acc, [] => .ok acc
  | k, acc, w :: r => match v w with
    | none => .error k
    | some d => if (!rising || (acc.isEmpty || ltS (headS (acc.getLast?.getD .non)) (headS d))) = true then sevIn v rising (k + 1) (acc ++ [d]) r else .error k
theorem cut_1 {β : Type} (a : β) (l : List β) : cut (a :: l) (some 1) none = l := by
  show ((a :: l).drop (HT.sIx (a :: l).length 0 (some 1))).take ((a :: l).length - HT.sIx (a :: l).length 0 (some 1)) = l
  rw [show HT.sIx (a :: l).length 0 (some 1) = 1 from by rw [show (some (1 : Int)) = some ((1 : Nat) : Int) from rfl, HT.sIx_nat, List.length_cons]; omega]
  simp
theorem cut_12 {β : Type} (a : β) (l : List β) : cut (a :: l) (some 1) (some 2) = l.take 1 := by
  show ((a :: l).drop (HT.sIx (a :: l).length 0 (some 1))).take (HT.sIx (a :: l).length (a :: l).length (some 2) - HT.sIx (a :: l).length 0 (some 1)) = _
  rw [show HT.sIx (a :: l).length 0 (some 1) = 1 from by rw [show (some (1 : Int)) = some ((1 : Nat) : Int) from rfl, HT.sIx_nat, List.length_cons]; omega,
    show HT.sIx (a :: l).length (a :: l).length (some 2) = min 2 (a :: l).length from by rw [show (some (2 : Int)) = some ((2 : Nat) : Int) from rfl, HT.sIx_nat]]
  cases l with
  | nil => rfl
  | cons b l => simp
theorem forLoop_nx {s : Src} {set : SetD} {body : MS} {k i : Nat} {δ δ1 δ2 : MI.Env} {π π2 : PH} {d : D} (h1 : s.get π i = some d) (h2 : set d δ = some δ1) (h3 : body δ1 π = .nx δ2 π2) : forLoop s set body (k + 1) i δ π = forLoop s set body k (i + 1) δ2 π2 := by
  show (match s.get π i with | none => _ | some d => _) = _
  rw [h1]
  dsimp only
  rw [h2]
  dsimp only
  rw [h3]
theorem forLoop_exc {s : Src} {set : SetD} {body : MS} {k i : Nat} {δ δ1 δ2 : MI.Env} {π π2 : PH} {d : D} {x : Xc} (h1 : s.get π i = some d) (h2 : set d δ = some δ1) (h3 : body δ1 π = .exc x δ2 π2) : forLoop s set body (k + 1) i δ π = .exc x δ2 π2 := by
  show (match s.get π i with | none => _ | some d => _) = _
  rw [h1]
  dsimp only
  rw [h2]
  dsimp only
  rw [h3]
theorem forLoop_ret {s : Src} {set : SetD} {body : MS} {k i : Nat} {δ δ1 : MI.Env} {π π2 : PH} {d x : D} (h1 : s.get π i = some d) (h2 : set d δ = some δ1) (h3 : body δ1 π = .ret x π2) : forLoop s set body (k + 1) i δ π = .ret x π2 := by
  show (match s.get π i with | none => _ | some d => _) = _
  rw [h1]
  dsimp only
  rw [h2]
  dsimp only
  rw [h3]
theorem forLoop_end {s : Src} {set : SetD} {body : MS} {i : Nat} {δ : MI.Env} {π : PH} (h : s.fin π = true) : forLoop s set body 0 i δ π = .nx δ π := if_pos h
theorem at_end (π : PH) (o : O) : (π ++ [o])[π.length]? = some o := by simp
theorem set_end (π : PH) (o o' : O) : (π ++ [o]).set π.length o' = π ++ [o'] := by simp
theorem append_end (π : PH) (acc : List D) (d : D) (h : acc.length < sizeLine) : fAppend (.ref π.length) [d] (π ++ [.lst acc]) = .ok .non (π ++ [.lst (acc ++ [d])]) := by
  show (match (π ++ [O.lst acc])[π.length]? with | some (.lst xs) => if xs.length < sizeLine then Res.ok D.non ((π ++ [O.lst acc]).set π.length (.lst (xs ++ [d]))) else .stuck | _ => .stuck) = _
  rw [at_end]
  dsimp only
  rw [if_pos h, set_end]
theorem ix_end (π : PH) (acc : List D) (i : Int) : fIx (.ref π.length) (.int i) (π ++ [.lst acc]) = opt (atI acc i) fun e => .ok e (π ++ [.lst acc]) := by
  show opt (sqOf (π ++ [O.lst acc]) (.ref π.length)) _ = _
  have e : sqOf (π ++ [O.lst acc]) (.ref π.length) = some acc := by
    show (match (π ++ [O.lst acc])[π.length]? with | some (.lst ds) => some ds | _ => none) = _
    rw [at_end]
  rw [e, opt_some]
theorem tyB_end (π : PH) (acc : List D) : tyB "list" (π ++ [.lst acc]) (.ref π.length) = true := by
  have e : lsOf (π ++ [O.lst acc]) (.ref π.length) = some acc := by
    show (match (π ++ [O.lst acc])[π.length]? with | some (.lst ds) => some ds | _ => none) = _
    rw [at_end]
  show (decide ("list" = "list") && (lsOf (π ++ [O.lst acc]) (.ref π.length)).isSome) = true
  rw [e]; rfl
theorem tup_end (π : PH) (acc : List D) : fTup [.ref π.length] (π ++ [.lst acc]) = .ok (.tup acc) (π ++ [.lst acc]) := by
  have e : sqOf (π ++ [O.lst acc]) (.ref π.length) = some acc := by
    show (match (π ++ [O.lst acc])[π.length]? with | some (.lst ds) => some ds | _ => none) = _
    rw [at_end]
  show opt (sqOf (π ++ [O.lst acc]) (.ref π.length)) _ = _
  rw [e, opt_some]
def sevBody : MS := (sThen (sSet 6 (mCallW tF_StepReader_several_value_of tL_StepReader_several_value_of 1 (mVar 1) (mCons (mVar 5) (mNil)))) (sThen (sExpr (mMeth 10 "require" 3 [] F_StepReader_require (mVar 0) (mCons (mOp (fIsN true) (mVar 6) (mC .non)) (mCons (mVar 4) (mNil))))) (sThen (sExpr (mMeth 10 "require" 3 [] F_StepReader_require (mVar 0) (mCons (mOrV (mNotV (mVar 2)) (mOrV (mOp (fEqS false) (mVar 3) (mLst false (mNil))) (mOp (fLt) (mOp fIx (mOp fIx (mVar 3) (mUn fNeg (mC (.int 1)))) (mC (.int 0))) (mOp fIx (mVar 6) (mC (.int 0)))))) (mCons (mVar 4) (mNil))))) (sExpr (mBM "list" (fAppend) (mVar 3) (mCons (mVar 6) (mNil)))))))
theorem sev_loop (v : Str → Option D) (hv : Solid v) (rising : Bool) (hp : rising = true → Pairs v) (fd : D) (row : Int) (ws0 : List Str) (π : PH) (xs : List Str) (hxs : xs.length < sizeLine)
    (hc : ∀ w ∈ xs, ∀ π', Calls tF_StepReader_several_value_of tL_StepReader_several_value_of fd v π' w) (hg : ∀ w ∈ xs, ∀ d, v w = some d → ∃ z, Gd 10 z d) :
    ∀ (ws : List Str) (i : Nat) (acc : List D) (x4 x5 x6 : Option D), xs.drop i = ws → acc.length ≤ i → (∃ z, Gds 10 z acc) → (rising = true → ∀ d ∈ acc, ∃ n x, d = .tup [.str n, x]) → ∃ δ' e, forLoop (.enu 1 (.fix (xs.map D.str))) (setT [4, 5]) sevBody ws.length i [some (rdr row ws0), some fd, some (.bl rising), some (.ref π.length), x4, x5, x6] (π ++ [.lst acc]) =
      match sevIn v rising (i + 1) acc ws with
      | .ok l => .nx ([some (rdr row ws0), some fd, some (.bl rising), some (.ref π.length)] ++ δ') (π ++ [.lst l])
      | .error k => .exc (excR row k) δ' (π ++ e) := by
  intro ws
  induction ws with
  | nil =>
    intro i acc x4 x5 x6 _ _ _ _
    exact ⟨[x4, x5, x6], [], forLoop_end rfl⟩
  | cons w r ih =>
    intro i acc x4 x5 x6 hd hi hacc hpa
    have hw : w ∈ xs := List.mem_of_mem_drop (i := i) (by rw [hd]; exact List.mem_cons_self)
    have hlt : i < xs.length := by
      by_cases h : i < xs.length
      · exact h
      · rw [List.drop_eq_nil_of_le (by omega)] at hd; cases hd
    have hget : Src.get (π ++ [.lst acc]) i (.enu 1 (.fix (xs.map D.str))) = some (.tup [.int (1 + (i : Nat)), .str w]) := by
      have e : xs[i]? = some w := by
        rw [← List.head?_drop, hd]; rfl
      show ((xs.map D.str)[i]?).map _ = _
      rw [List.getElem?_map, e]; rfl
    have hset : setT [4, 5] (.tup [.int (1 + (i : Nat)), .str w]) [some (rdr row ws0), some fd, some (.bl rising), some (.ref π.length), x4, x5, x6] = some [some (rdr row ws0), some fd, some (.bl rising), some (.ref π.length), some (.int (1 + (i : Nat))), some (.str w), x6] := rfl
    have hcc := hc w hw (π ++ [.lst acc]) [some (rdr row ws0), some fd, some (.bl rising), some (.ref π.length), some (.int (1 + (i : Nat))), some (.str w), x6] (mVar 1) (mCons (mVar 5) mNil) rfl rfl
    obtain ⟨z, hz⟩ := hacc
    have hek : ((1 : Int) + (i : Nat)) = ((i + 1 : Nat) : Int) := by omega
    rw [List.length_cons]
    unfold sevIn
    cases e : v w with
    | none =>
      refine ⟨_, [.lst acc], forLoop_exc (δ2 := [some (rdr row ws0), some fd, some (.bl rising), some (.ref π.length), some (.int (1 + (i : Nat))), some (.str w), some .non]) hget hset ?_⟩
      unfold sevBody
      simp_arith [hcc, isN_dOf (o := v w) (hv w), recv_req]
      rw [e]
      simp_arith [Option.isNone_none, require_f, dOf]
      rw [hek]
    | some d =>
      dsimp only
      have hne := hz.eq_nil (by omega) false (π ++ [.lst acc]) π.length (at_end π _)
      have hlast : rising = true → acc.isEmpty = false → ∃ L n x m y, acc = L ++ [.tup [.str n, x]] ∧ d = .tup [.str m, y] := fun hr hl => by
        rcases List.eq_nil_or_concat acc with h0 | ⟨L, b, h0⟩
        · rw [h0] at hl; cases hl
        · obtain ⟨n, x, hb⟩ := hpa hr b (by rw [h0]; simp)
          obtain ⟨m, y, hd'⟩ := hp hr w d e
          exact ⟨L, n, x, m, y, by rw [h0, hb]; simp, hd'⟩
      by_cases hb : (!rising || (acc.isEmpty || ltS (headS (acc.getLast?.getD .non)) (headS d))) = true
      · rw [if_pos hb]
        obtain ⟨zd, hzd⟩ := hg w hw d e
        obtain ⟨δ', e', he⟩ := ih (i + 1) (acc ++ [d]) (some (.int (1 + (i : Nat)))) (some (.str w)) (some d) (by rw [← List.drop_drop, hd]; rfl) (by simp; omega) ⟨_, hz.app (Gds.cons hzd (Gds.nil 10))⟩ (fun hr x hx => by
          rcases List.mem_append.mp hx with hx | hx
          · exact hpa hr x hx
          · rw [List.mem_singleton.mp hx]; exact hp hr w d e)
        refine ⟨δ', e', ?_⟩
        rw [forLoop_nx hget hset (δ2 := [some (rdr row ws0), some fd, some (.bl rising), some (.ref π.length), some (.int (1 + (i : Nat))), some (.str w), some d]) (π2 := π ++ [.lst (acc ++ [d])]), he]
        unfold sevBody
        simp_arith [hcc, isN_dOf (o := v w) (hv w), recv_req]
        rw [e]
        simp_arith [Option.isNone_some, require_t, dOf, recv_req]
        cases rising with
        | false => simp_arith [require_t, tyB_end, append_end π acc d (by omega), recv_req]
        | true =>
          simp_arith [hne, recv_req]
          cases hl : acc.isEmpty with
          | true => simp_arith [require_t, tyB_end, append_end π acc d (by omega), recv_req]
          | false =>
            have hap := append_end π acc d (by omega)
            have hty := tyB_end π acc
            obtain ⟨L, n, x, m, y, ha, hd'⟩ := hlast rfl hl
            rw [ha] at hb hap hty ⊢
            rw [hd'] at hb hap ⊢
            have hlt2 : ltS n m = true := by simpa [headS] using hb
            simp_arith [ix_end, recv_req, atI_last, hlt2, require_t, hap, hty]
      · rw [if_neg hb]
        refine ⟨_, [.lst acc], forLoop_exc (δ2 := [some (rdr row ws0), some fd, some (.bl rising), some (.ref π.length), some (.int (1 + (i : Nat))), some (.str w), some d]) hget hset ?_⟩
        unfold sevBody
        simp_arith [hcc, isN_dOf (o := v w) (hv w), recv_req]
        rw [e]
        simp_arith [Option.isNone_some, require_t, dOf, recv_req]
        cases rising with
        | false => exact absurd rfl hb
        | true =>
          simp_arith [hne, recv_req]
          cases hl : acc.isEmpty with
          | true => exact absurd (by simp [hl]) hb
          | false =>
            obtain ⟨L, n, x, m, y, ha, hd'⟩ := hlast rfl hl
            rw [ha] at hb ⊢
            rw [hd'] at hb ⊢
            have hlt2 : ltS n m = false := by simpa [headS] using hb
            simp_arith [ix_end, recv_req, atI_last, hlt2, require_f]
            rw [hek]
theorem enu_src (l : List D) (π : PH) : fEnu2 [.lst l, .int 1] π = .ok (.enu 1 (.fix l)) π := rfl
theorem several_ok (v : Str → Option D) (hv : Solid v) (rising : Bool) (hp : rising = true → Pairs v) (fd : D) (row : Int) (w0 : Str) (ws : List Str) (π : PH) (hxs : ws.length < sizeLine)
    (hc : ∀ w ∈ ws, ∀ π', Calls tF_StepReader_several_value_of tL_StepReader_several_value_of fd v π' w) (hg : ∀ w ∈ ws, ∀ d, v w = some d → ∃ z, Gd 10 z d) :
    ∃ e, F_StepReader_several [rdr row (w0 :: ws), fd, .bl rising] π = resOf row (if ws = [] then .error 1 else (sevIn v rising 1 [] ws).map D.tup) (π ++ e) := by
  unfold F_StepReader_several runB m_StepReader_several
  cases ws with
  | nil =>
    refine ⟨[], ?_⟩
    simp_arith [fFld_words, show decide ((1 : Int) < ((0 + 1 : Nat) : Int)) = false from rfl, recv_req, require_f]
    rw [List.append_nil]
    rfl
  | cons a r =>
    obtain ⟨δ', e, he⟩ := sev_loop v hv rising hp fd row (w0 :: a :: r) π (a :: r) hxs hc hg (a :: r) 0 [] none none none rfl (Nat.le_refl _) ⟨0, Gds.nil 10⟩ (fun _ d hd => by cases hd)
    have hfor : sFor (mSrcA fEnu2 (mCons (mSl false (mUn (fFld 10 "words") (mVar 0)) (mPart (mC (.int 1))) (mNoPart)) (mCons (mC (.int 1)) (mNil)))) (setT [4, 5]) sevBody [some (rdr row (w0 :: a :: r)), some fd, some (.bl rising), some (.ref π.length), none, none, none] (π ++ [.lst []]) = (match sevIn v rising (0 + 1) [] (a :: r) with
      | .ok l => .nx ([some (rdr row (w0 :: a :: r)), some fd, some (.bl rising), some (.ref π.length)] ++ δ') (π ++ [.lst l])
      | .error k => .exc (excR row k) δ' (π ++ e)) := by
      rw [← he, sFor_ap]
      simp_arith [mSrcA_ap, fFld_words, cut_1, enu_src, show ∀ l : List D, (Src.enu 1 (Src.fix l)).len = l.length from fun _ => rfl, List.length_map]
    have hfor' := hfor
    unfold sevBody at hfor'
    simp_arith [fFld_words, show decide ((1 : Int) < ((((r.map D.str).length + 1 + 1) : Nat) : Int)) = true from decide_eq_true (by omega), recv_req, require_t, hfor']
    rw [if_neg (by simp)]
    cases hsv : sevIn v rising (0 + 1) [] (a :: r) with
    | ok l =>
      refine ⟨[.lst l], ?_⟩
      simp_arith [tup_end]
      rfl
    | error k =>
      refine ⟨e, ?_⟩
      simp_arith []
      rfl
end LW

set_option Elab.async false
set_option linter.all false
set_option maxRecDepth 100000
set_option maxHeartbeats 4000000
/-! The step of a row. -/
namespace LW
open PySem L2 MI TL
theorem eqS_1 (w z : Str) (ha : asc w) (hz : asc z) (neg : Bool) (π : PH) : fEqS neg (.lst [.str w]) (.lst [.str z]) π = .ok (.bl ((w == z) != neg)) π := by
  have e1 : pdH π (.lst [.str w]) = some (.list [.str w]) := by show pd _ = _; simp [pd, pds]
  have e2 : pdH π (.lst [.str z]) = some (.list [.str z]) := by show pd _ = _; simp [pd, pds]
  have sh : ∀ w : Str, asc w → SeqAt.shaped (.list [.str w]) = true := fun w h => by
    unfold SeqAt.shaped
    have := h
    simp only [PyData.canLay0, PyData.canLayAll0, PyData.depth, PyData.depthAll, Bool.and_true]
    rw [Bool.and_eq_true]
    refine ⟨?_, rfl⟩
    unfold PyData.strOk
    rw [← Array.all_toList]
    exact List.all_eq_true.mpr fun c hc => decide_eq_true (by have := h c hc; omega)
  show opt (eqD π _ _) _ = _
  unfold eqD
  rw [e1, e2]
  dsimp only
  rw [if_pos ⟨sh w ha, sh z hz⟩, opt_some]
  simp [PyData.eqv, PyData.eqvAll]
theorem eqS_01 (z : Str) (hz : asc z) (neg : Bool) (π : PH) : fEqS neg (.lst []) (.lst [.str z]) π = .ok (.bl (false != neg)) π := by
  have e1 : pdH π (.lst []) = some (.list []) := by show pd _ = _; simp [pd, pds]
  have e2 : pdH π (.lst [.str z]) = some (.list [.str z]) := by show pd _ = _; simp [pd, pds]
  have sh : SeqAt.shaped (.list [.str z]) = true := by
    unfold SeqAt.shaped
    simp only [PyData.canLay0, PyData.canLayAll0, PyData.depth, PyData.depthAll, Bool.and_true]
    rw [Bool.and_eq_true]
    refine ⟨?_, rfl⟩
    unfold PyData.strOk
    rw [← Array.all_toList]
    exact List.all_eq_true.mpr fun c hc => decide_eq_true (by have := hz c hc; omega)
  show opt (eqD π _ _) _ = _
  unfold eqD
  rw [e1, e2]
  dsimp only
  rw [if_pos ⟨by decide, sh⟩, opt_some]
  simp [PyData.eqv, PyData.eqvAll]
theorem asc_dash : asc "-" := by
  have : ("-" : Str).cps.toList = [45] := by decide +kernel
  unfold asc
  rw [this]
  simp
/-- a list of words behind the first -/
def sevL (v : Str → Option D) (rising : Bool) (ws : List Str) : Except Nat D := if ws = [] then .error 1 else (sevIn v rising 1 [] ws).map D.tup
def noneOr (v : Str → Option D) (rising : Bool) (ws : List Str) : Except Nat D :=
  if ws.head? = some ("-" : Str) then (if ws.length = 1 then .ok (.tup []) else .error 2) else sevL v rising ws
theorem nos_ok (v : Str → Option D) (hv : Solid v) (rising : Bool) (hp : rising = true → Pairs v) (fd : D) (row : Int) (w0 : Str) (ws : List Str) (π : PH) (hxs : ws.length < sizeLine) (ha : ∀ w ∈ ws, asc w)
    (hc : ∀ w ∈ ws, ∀ π', Calls tF_StepReader_several_value_of tL_StepReader_several_value_of fd v π' w) (hg : ∀ w ∈ ws, ∀ d, v w = some d → ∃ z, Gd 10 z d) :
    ∃ e, F_StepReader_none_or_several [rdr row (w0 :: ws), fd, .bl rising] π = resOf row (noneOr v rising ws) (π ++ e) := by
  obtain ⟨e, he⟩ := several_ok v hv rising hp fd row w0 ws π hxs hc hg
  unfold F_StepReader_none_or_several runB m_StepReader_none_or_several noneOr
  cases ws with
  | nil =>
    refine ⟨e, ?_⟩
    simp_arith [fFld_words, cut_12, List.take_nil, eqS_01 "-" asc_dash, recv_sev, he]
    rfl
  | cons a r =>
    have hq := eqS_1 a "-" (ha a List.mem_cons_self) asc_dash false π
    rw [Bool.bne_false] at hq
    cases hd : (a == ("-" : Str)) with
    | true =>
      rw [hd] at hq
      have e1 : a = "-" := eq_of_beq hd
      have hh : ((a :: r).head? = some ("-" : Str)) := by rw [e1]; rfl
      rw [if_pos hh]
      refine ⟨[], ?_⟩
      simp_arith [fFld_words, cut_12, List.take_succ_cons, List.take_zero, hq, recv_req]
      cases r with
      | nil => simp_arith [show (((([] : List Str).map D.str).length + 1 + 1 : Nat) : Int) == 2 from rfl, require_t]; rw [List.append_nil]; rfl
      | cons b r =>
        simp_arith [show (((((b :: r).map D.str).length + 1 + 1 : Nat) : Int) == 2) = false from beq_eq_false_iff_ne.mpr (by simp; omega), require_f]
        rw [if_neg (by omega), List.append_nil]
        rfl
    | false =>
      rw [hd] at hq
      have hh : ¬ ((a :: r).head? = some ("-" : Str)) := fun h => by
        have : a = "-" := Option.some.inj h
        rw [this] at hd
        exact absurd hd (by decide +kernel)
      rw [if_neg hh]
      refine ⟨e, ?_⟩
      simp_arith [fFld_words, cut_12, List.take_succ_cons, List.take_zero, hq, recv_sev, he]
      rw [show (if a :: r = [] then Except.error 1 else Except.map D.tup (sevIn v rising 1 [] (a :: r)) : Except Nat D) = sevL v rising (a :: r) from rfl]
      unfold resOf
      cases sevL v rising (a :: r) <;> rfl
theorem calls_cents (w : Str) (hw : w.length + 2 ≤ sizeLine) (π : PH) : Calls tF_StepReader_only_value_of tL_StepReader_only_value_of (.fn 17) centsIn π w := fun δ mf ms h1 h2 => by
  rw [mCallW_ap, h1, bind_ok]
  show mArgs (fCall 1 [] F_cents_or_none) ms δ π = _
  rw [mArgs_ap, h2, bind_ok, fCall_1, cents_or_none_ok w π hw]
theorem calls_name (w : Str) (hw : w.length + 2 ≤ sizeLine) (π : PH) : Calls tF_StepReader_only_value_of tL_StepReader_only_value_of (.lam 0) nameIn π w := fun δ mf ms h1 h2 => by
  rw [mCallW_ap, h1, bind_ok]
  show mArgs (fCall 1 [] F_lam0) ms δ π = _
  rw [mArgs_ap, h2, bind_ok, fCall_1, lam0_ok w π (by omega)]
theorem calls_group (w : Str) (hw : w.length + 2 ≤ sizeLine) (π : PH) : Calls tF_StepReader_several_value_of tL_StepReader_several_value_of (.fn 16) groupIn π w := fun δ mf ms h1 h2 => by
  rw [mCallW_ap, h1, bind_ok]
  show mArgs (fCall 1 [] F_group_or_none) ms δ π = _
  rw [mArgs_ap, h2, bind_ok, fCall_1, group_or_none_ok w π hw]
theorem calls_charge (w : Str) (hw : w.length + 2 ≤ sizeLine) (π : PH) : Calls tF_StepReader_several_value_of tL_StepReader_several_value_of (.lam 1) (pairIn chargeV) π w := fun δ mf ms h1 h2 => by
  rw [mCallW_ap, h1, bind_ok]
  show mArgs (fCall 1 [] F_lam1) ms δ π = _
  rw [mArgs_ap, h2, bind_ok, fCall_1, lam1_ok w π (by omega)]
theorem calls_change (w : Str) (hw : w.length + 2 ≤ sizeLine) (π : PH) : Calls tF_StepReader_several_value_of tL_StepReader_several_value_of (.lam 2) (pairIn changeV) π w := fun δ mf ms h1 h2 => by
  rw [mCallW_ap, h1, bind_ok]
  show mArgs (fCall 1 [] F_lam2) ms δ π = _
  rw [mArgs_ap, h2, bind_ok, fCall_1, lam2_ok w π (by omega)]
theorem pairs_pair (v : Str → Option D) : Pairs (pairIn v) := fun w d h => by
  unfold pairIn at h
  split at h
  · split at h
    · cases e : v (Txt.partition w (ch 58)).2.2 with
      | none => rw [e] at h; cases h
      | some p => rw [e] at h; cases h; exact ⟨_, _, rfl⟩
    · cases h
  · cases h
theorem isName_asc {s : Str} (h : isName s = true) : asc s ∧ s.length ≤ 8 := by
  unfold isName at h
  simp only [Bool.and_eq_true, decide_eq_true_eq] at h
  refine ⟨fun c hc => ?_, h.1.2⟩
  have := List.all_eq_true.mp h.2 c hc
  unfold letter at this
  have := of_decide_eq_true this
  omega
theorem gd_frac {w : Str} {d : D} (h : chargeV w = some d) : Gd 1 131 d := by
  unfold chargeV at h
  have hb : ∀ a b, fracIn w = some (a, b) → (0 ≤ a ∧ a < 10 ^ 60) ∧ (0 ≤ b ∧ b < 10 ^ 60) := fun a b e => by
    unfold fracIn at e
    split at e
    · split at e
      · rename_i e1 e2
        split at e
        · cases e; exact ⟨numIn_lt e1, numIn_lt e2⟩
        · cases e
      · cases e
    · cases en : numIn w with
      | none => rw [en] at e; cases e
      | some i => rw [en] at e; cases e; exact ⟨numIn_lt en, by decide, by decide⟩
  cases e : fracIn w with
  | none => rw [e] at h; cases h
  | some p =>
    obtain ⟨a, b⟩ := p
    obtain ⟨h1, h2⟩ := hb a b e
    rw [e] at h
    cases h
    exact (Gd.tup (Gds.cons (Gd.int (by omega) (by omega)) (Gds.cons (Gd.int (by omega) (by omega)) (Gds.nil 0)))).mono (Nat.le_refl _) (by omega)
theorem whole_lt {s : Str} {i : Int} (h : wholeIn s = some i) : -(10 ^ 60) < i ∧ i < 10 ^ 60 := by
  unfold wholeIn at h
  split at h
  · cases en : numIn (cutS s (some 1) none) with
    | none => rw [en] at h; cases h
    | some j =>
      have := numIn_lt en
      rw [en] at h
      unfold negO at h
      split at h
      · rename_i he; cases he
      · rename_i he
        cases he
        split at h
        · cases h
        · cases h; omega
  · have := numIn_lt h; omega
theorem gd_change {w : Str} {d : D} (h : changeV w = some d) : Gd 1 131 d := by
  unfold changeV at h
  cases e : wholeIn w with
  | none => rw [e] at h; cases h
  | some i =>
    rw [e] at h
    simp only [Option.bind_some] at h
    split at h
    · cases h
    · cases h
      have := whole_lt e
      exact (Gd.int (by omega) (by omega)).mono (by omega) (by omega)
theorem gd_pair {v : Str → Option D} (hv : ∀ w d, v w = some d → Gd 1 131 d) {w : Str} {d : D} (h : pairIn v w = some d) : Gd 10 (200 * (w.length + 1) + 100) d := by
  unfold pairIn at h
  split at h
  · split at h
    · rename_i hn
      obtain ⟨h1, h2⟩ := isName_asc hn
      cases e : v (Txt.partition w (ch 58)).2.2 with
      | none => rw [e] at h; cases h
      | some p =>
        rw [e] at h
        cases h
        exact (Gd.tup (Gds.cons ((Gd.str h1).mono (Nat.zero_le 1) (Nat.le_refl _)) (Gds.cons (hv _ _ e) (Gds.nil 1)))).mono (by omega) (by omega)
    · cases h
  · cases h
theorem gd_group {w : Str} {d : D} (h : groupIn w = some d) : Gd 10 (200 * (w.length + 1) + 100) d := by
  unfold groupIn at h
  split at h
  · rename_i hn
    cases h
    have hl := split_len 43 (by decide) w
    exact (Gd.tup (gds_strs (n := 0) fun x hx => (isName_asc (List.all_eq_true.mp hn x hx)).1)).mono (by omega) (by omega)
  · cases h
theorem gd_cents {w : Str} {d : D} (h : centsIn w = some d) : Gd 10 (200 * (w.length + 1) + 100) d := by
  unfold centsIn at h
  split at h
  · cases h
    exact (Gd.tup (Gds.nil 0)).mono (by omega) (by omega)
  · split at h
    · cases h
    · cases h
      have hl := split_many 44 (by decide) w
      refine (Gd.tup (gds_opts (n := 0) fun o ho i hi => ?_)).mono (by omega) (by rw [List.length_map]; omega)
      obtain ⟨x, _, hx⟩ := List.mem_map.mp ho
      rw [hi] at hx
      have := numIn_lt hx
      omega
theorem gd_name {w : Str} {d : D} (h : nameIn w = some d) : Gd 10 (200 * (w.length + 1) + 100) d := by
  unfold nameIn at h
  split at h
  · rename_i hn
    cases h
    exact (Gd.str (isName_asc hn).1).mono (by omega) (by omega)
  · cases h
end LW

set_option Elab.async false
set_option linter.all false
set_option maxRecDepth 100000
set_option maxHeartbeats 4000000
/-! read_step. -/
namespace LW
open PySem L2 MI TL
def withW (w0 : Str) (e : Except Nat D) : Except Nat D := e.map fun d => .tup [.str w0, d]
def rowDue : List Str → Except Nat D
  | [] => .error 0
  | w0 :: ws =>
    if (["withdraw"] : List Str).any (eqW w0) = true then (if ws = [] then .ok (.tup [.str w0]) else .error 1)
    else if (["add", "end"] : List Str).any (eqW w0) = true then withW w0 (oneIn nameIn ws)
    else if (["send"] : List Str).any (eqW w0) = true then withW w0 (oneIn centsIn ws)
    else if (["sections"] : List Str).any (eqW w0) = true then withW w0 (noneOr groupIn false ws)
    else if (["announce"] : List Str).any (eqW w0) = true then withW w0 (noneOr (pairIn chargeV) true ws)
    else if (["correct"] : List Str).any (eqW w0) = true then withW w0 (sevL (pairIn changeV) true ws)
    else .error 0
theorem rowDue_cons (w0 : Str) (ws : List Str) : rowDue (w0 :: ws) = if (["withdraw"] : List Str).any (eqW w0) = true then (if ws = [] then .ok (.tup [.str w0]) else .error 1)
    else if (["add", "end"] : List Str).any (eqW w0) = true then withW w0 (oneIn nameIn ws)
    else if (["send"] : List Str).any (eqW w0) = true then withW w0 (oneIn centsIn ws)
    else if (["sections"] : List Str).any (eqW w0) = true then withW w0 (noneOr groupIn false ws)
    else if (["announce"] : List Str).any (eqW w0) = true then withW w0 (noneOr (pairIn chargeV) true ws)
    else if (["correct"] : List Str).any (eqW w0) = true then withW w0 (sevL (pairIn changeV) true ws)
    else .error 0 := rfl
theorem pick_some (s : Str) (ws : List Str) (b : MS) (r : List (Option (List Str) × MS)) (δ : MI.Env) (π : PH) : pick s ((some ws, b) :: r) δ π = if (ws.any (eqW s)) = true then b δ π else pick s r δ π := rfl
theorem pick_none (s : Str) (b : MS) (r : List (Option (List Str) × MS)) (δ : MI.Env) (π : PH) : pick s ((none, b) :: r) δ π = b δ π := rfl
theorem mLam_ok {t k : Nat} {q : Str} {δ : MI.Env} {π : PH} (h : π[t]? = some (.tbl q)) : mLam t k q δ π = .ok (.lam k) π := by
  rw [mLam_ap, h]
  show when_ (decide (q = q)) _ = _
  rw [decide_eq_true rfl]; rfl
theorem ok_tail (P : D → SRes) (row : Int) (x : Except Nat D) (w0 : Str) (δ : MI.Env) (π : PH) :
    (match ((resOf row x π).bind fun d π1 => Res.ok [D.str w0, d] π1).sb δ (fun ds π1 => SRes.ret (D.tup ds) π1) with
      | SRes.nx δ π' => Res.ok D.non π' | SRes.ret d π' => Res.ok d π' | SRes.exc x δ π' => Res.exc x π' | x => Res.stuck) = resOf row (withW w0 x) π := by
  cases x <;> rfl
theorem written_ok (row : Int) (w0 : Str) (ws : List Str) (π : PH) (hT : π[0]? = some (.tbl "StepReader.step_written.<locals>.<lambda>")) (hn : ws.length < sizeLine) (hw : ∀ w ∈ ws, asc w ∧ w.length + 2 ≤ sizeLine) :
    ∃ e, F_StepReader_step_written [rdr row (w0 :: ws)] π = resOf row (rowDue (w0 :: ws)) (π ++ e) := by
  unfold F_StepReader_step_written runB m_StepReader_step_written
  rw [rowDue_cons]
  have l0 := mLam_ok (k := 0) (δ := [some (rdr row (w0 :: ws)), some (.str w0)]) hT
  have l1 := mLam_ok (k := 1) (δ := [some (rdr row (w0 :: ws)), some (.str w0)]) hT
  have l2 := mLam_ok (k := 2) (δ := [some (rdr row (w0 :: ws)), some (.str w0)]) hT
  by_cases h1 : (["withdraw"] : List Str).any (eqW w0) = true
  · refine ⟨[], ?_⟩
    rw [if_pos h1, List.append_nil]
    simp_arith [fFld_words, pick_some, pick_none, h1, recv_req]
    cases ws with
    | nil => simp_arith [show (((([] : List Str).map D.str).length + 1 : Nat) : Int) == 1 from rfl, require_t, recv_req]; rfl
    | cons a r =>
      simp_arith [show (((((r).map D.str).length + 1 + 1 : Nat) : Int) == 1) = false from beq_eq_false_iff_ne.mpr (by simp; omega), require_f, recv_req]
      rfl
  rw [if_neg h1]
  by_cases h2 : (["add", "end"] : List Str).any (eqW w0) = true
  · refine ⟨[], ?_⟩
    rw [if_pos h2, List.append_nil]
    have ho := only_ok nameIn solid_name (.lam 0) row w0 ws π (fun w h => calls_name w (hw w h).2 π)
    simp_arith [fFld_words, pick_some, pick_none, h1, h2, recv_only, l0, ho]
    cases oneIn nameIn ws <;> rfl
  rw [if_neg h2]
  by_cases h3 : (["send"] : List Str).any (eqW w0) = true
  · refine ⟨[], ?_⟩
    rw [if_pos h3, List.append_nil]
    have ho := only_ok centsIn solid_cents (.fn 17) row w0 ws π (fun w h => calls_cents w (hw w h).2 π)
    simp_arith [fFld_words, pick_some, pick_none, h1, h2, h3, recv_only, ho]
    cases oneIn centsIn ws <;> rfl
  rw [if_neg h3]
  by_cases h4 : (["sections"] : List Str).any (eqW w0) = true
  · rw [if_pos h4]
    obtain ⟨e, ho⟩ := nos_ok groupIn solid_group false (fun z => by cases z) (.fn 16) row w0 ws π hn (fun w h => (hw w h).1) (fun w h π' => calls_group w (hw w h).2 π') (fun w h d hd => ⟨_, gd_group hd⟩)
    refine ⟨e, ?_⟩
    simp_arith [fFld_words, pick_some, pick_none, h1, h2, h3, h4, recv_nos, ho]
    cases noneOr groupIn false ws <;> rfl
  rw [if_neg h4]
  by_cases h5 : (["announce"] : List Str).any (eqW w0) = true
  · rw [if_pos h5]
    obtain ⟨e, ho⟩ := nos_ok (pairIn chargeV) (solid_pair _) true (fun _ => pairs_pair _) (.lam 1) row w0 ws π hn (fun w h => (hw w h).1) (fun w h π' => calls_charge w (hw w h).2 π') (fun w h d hd => ⟨_, gd_pair (fun w d => gd_frac) hd⟩)
    refine ⟨e, ?_⟩
    simp_arith [fFld_words, pick_some, pick_none, h1, h2, h3, h4, h5, recv_nos, l1, ho]
    cases noneOr (pairIn chargeV) true ws <;> rfl
  rw [if_neg h5]
  by_cases h6 : (["correct"] : List Str).any (eqW w0) = true
  · rw [if_pos h6]
    obtain ⟨e, ho⟩ := several_ok (pairIn changeV) (solid_pair _) true (fun _ => pairs_pair _) (.lam 2) row w0 ws π hn (fun w h π' => calls_change w (hw w h).2 π') (fun w h d hd => ⟨_, gd_pair (fun w d => gd_change) hd⟩)
    refine ⟨e, ?_⟩
    simp_arith [fFld_words, pick_some, pick_none, h1, h2, h3, h4, h5, h6, recv_sev, l2, ho]
    rw [show (if ws = [] then Except.error 1 else Except.map D.tup (sevIn (pairIn changeV) true 1 [] ws) : Except Nat D) = sevL (pairIn changeV) true ws from rfl]
    cases sevL (pairIn changeV) true ws <;> rfl
  rw [if_neg h6]
  refine ⟨[], ?_⟩
  simp_arith [fFld_words, pick_some, pick_none, h1, h2, h3, h4, h5, h6, fFld_row]
  rw [List.append_nil]
  rfl
theorem nr_strs : ∀ l : List Str, nrDs (l.map D.str) = true
  | [] => by simp [nrDs]
  | w :: l => by rw [List.map_cons]; simp [nrDs, nrD, nr_strs l]
theorem init_ok (a b : D) : F_StepReader___init__ [.ref 0, a, b] [.ins 10 []] = .ok .non [.ins 10 [("row_held", a), ("words", b)]] := by rfl
theorem make_ok (row : Int) (ws : List Str) (π : PH) : fMakeF 10 2 [] F_StepReader___init__ [.int row, .lst (ws.map D.str)] π = .ok (rdr row ws) π := by
  unfold fMakeF
  rw [show nrDs [.int row, .lst (ws.map D.str)] = true by simp [nrDs, nrD, nr_strs], when_true, fCall_3, init_ok]
  dsimp only
  rw [show nrFs [(("row_held" : Str), .int row), ("words", .lst (ws.map D.str))] = true by simp [nrFs, nrD, nr_strs]]
  rfl
/-- a text that is read -/
def Ok (s : Str) : Prop := asc s ∧ s.length + 4 ≤ sizeLine
theorem Ok.split {s : Str} (h : Ok s) : ∃ w0 ws, Txt.split s (ch 32) = w0 :: ws ∧ ws.length < sizeLine ∧ ∀ w ∈ ws, asc w ∧ w.length + 2 ≤ sizeLine := by
  cases e : Txt.split s (ch 32) with
  | nil => exact absurd e (split_ne 32 (by decide) s)
  | cons w0 ws =>
    have hm := split_many 32 (by decide) s
    rw [e, List.length_cons] at hm
    have hs := h.2
    refine ⟨w0, ws, rfl, by omega, fun w hw => ?_⟩
    have hw' : w ∈ Txt.split s (ch 32) := by rw [e]; exact List.mem_cons_of_mem _ hw
    have := split_le 32 (by decide) s w hw'
    exact ⟨split_asc 32 (by decide) s h.1 w hw', by omega⟩
theorem read_step_ok (s : Str) (h : Ok s) (π : PH) (hT : π[0]? = some (.tbl "StepReader.step_written.<locals>.<lambda>")) :
    ∃ e, F_read_step [.str s] π = resOf 0 (rowDue (Txt.split s (ch 32))) (π ++ e) := by
  obtain ⟨w0, ws, e, hn, hw⟩ := h.split
  have hs := h.2
  have hsp := fSplit_ch 32 (by decide) s (by omega) π " " rfl
  obtain ⟨e', he⟩ := written_ok 0 w0 ws π hT hn hw
  refine ⟨e', ?_⟩
  unfold F_read_step runB m_read_step
  simp_arith [hsp, make_ok, recv_sw, e]
  have hm := make_ok 0 (w0 :: ws) π
  rw [List.map_cons] at hm
  simp_arith [hm, recv_sw, he]
  rw [← e]
  cases rowDue (Txt.split s (ch 32)) <;> rfl
end LW

set_option Elab.async false
set_option linter.all false
set_option maxRecDepth 100000
set_option maxHeartbeats 4000000
/-! Pairs, lists and single words, as the law reads them. -/
namespace LW
open PySem L2 MI TL
theorem dOf_frac (s : Str) : dOf (chargeV s) = fracD (fracIn s) := by
  unfold chargeV
  cases fracIn s <;> rfl
theorem law_pair_charge (s : Str) (π : PH) (hz : s.length + 2 ≤ sizeLine) (ha : asc s) : F__law_pair_in [.str s, .str "announce"] π = .ok (dOf (pairIn chargeV s)) π := by
  have hsp := fSplit_ch 58 (by decide) s hz π ":" rfl
  unfold F__law_pair_in runB m__law_pair_in pairIn
  rcases split_cut 58 (by decide) s with ⟨h1, h2, h3⟩ | ⟨a, b, h1, h2, h3, h4⟩
  · rw [if_neg h1]
    rw [h2] at hsp
    simp_arith [hsp, show (((0 + 1 : Nat) : Int) == 2) = false from rfl]
    rfl
  · have hm : 58 ∈ tl s := by rw [h2, tl_append, tl_append, tl_ch]; simp
    have hl : a.length ≤ sizeLine ∧ b.length + 2 ≤ sizeLine := by rw [h2, cut_len] at hz; omega
    have hab := ha
    rw [h2] at hab
    have haa : asc a := (asc_app.mp (asc_app.mp hab).1).1
    have hbb : asc b := (asc_app.mp hab).2
    rw [if_pos hm, h4]
    rw [h3] at hsp
    rcases split_cut 58 (by decide) b with ⟨k1, k2, k3⟩ | ⟨c, d, k1, k2, k3, k4⟩
    · rw [k2] at hsp
      simp_arith [hsp, show (((0 + 1 + 1 : Nat) : Int) == 2) = true from rfl, law_is_name_ok a π hl.1 haa]
      cases isName a with
      | false => simp_arith []; rfl
      | true =>
        simp_arith [show (("announce" : Str) == ("announce" : Str)) = true by decide +kernel, law_frac_in_ok b π hl.2 hbb]
        unfold chargeV
        cases fracIn b with
        | none => simp_arith [fracD]; rfl
        | some p => obtain ⟨i, j⟩ := p; simp_arith [fracD, eqS_ti]; rfl
    · have hlen : (((((Txt.split b (ch 58)).map D.str).length + 1 : Nat) : Int) == 2) = false := by
        rw [k3, beq_eq_false_iff_ne]
        have := List.length_pos_iff.mpr (split_ne 58 (by decide) d)
        simp only [List.length_map, List.length_cons]
        omega
      simp_arith [hsp, hlen]
      rw [charge_colon (by rw [k2, tl_append, tl_append, tl_ch]; simp)]
      cases isName a <;> rfl
theorem law_pair_change (s : Str) (π : PH) (hz : s.length + 2 ≤ sizeLine) (ha : asc s) : F__law_pair_in [.str s, .str "correct"] π = .ok (dOf (pairIn changeV s)) π := by
  have hsp := fSplit_ch 58 (by decide) s hz π ":" rfl
  unfold F__law_pair_in runB m__law_pair_in pairIn
  rcases split_cut 58 (by decide) s with ⟨h1, h2, h3⟩ | ⟨a, b, h1, h2, h3, h4⟩
  · rw [if_neg h1]
    rw [h2] at hsp
    simp_arith [hsp, show (((0 + 1 : Nat) : Int) == 2) = false from rfl]
    rfl
  · have hm : 58 ∈ tl s := by rw [h2, tl_append, tl_append, tl_ch]; simp
    have hl : a.length ≤ sizeLine ∧ b.length + 2 ≤ sizeLine := by rw [h2, cut_len] at hz; omega
    have hab := ha
    rw [h2] at hab
    have haa : asc a := (asc_app.mp (asc_app.mp hab).1).1
    have hbb : asc b := (asc_app.mp hab).2
    rw [if_pos hm, h4]
    rw [h3] at hsp
    rcases split_cut 58 (by decide) b with ⟨k1, k2, k3⟩ | ⟨c, d, k1, k2, k3, k4⟩
    · rw [k2] at hsp
      simp_arith [hsp, show (((0 + 1 + 1 : Nat) : Int) == 2) = true from rfl, law_is_name_ok a π hl.1 haa]
      cases isName a with
      | false => simp_arith []; rfl
      | true =>
        simp_arith [show (("correct" : Str) == ("announce" : Str)) = false by decide +kernel, law_whole_in_ok b π (by omega) hbb]
        unfold changeV
        cases wholeIn b with
        | none => simp_arith [optD]; rfl
        | some i =>
          simp_arith [optD]
          by_cases h : i = 0
          · subst h; rfl
          · simp_arith [show (i == 0) = false from beq_eq_false_iff_ne.mpr h]
            simp [h, dOf]
    · have hlen : (((((Txt.split b (ch 58)).map D.str).length + 1 : Nat) : Int) == 2) = false := by
        rw [k3, beq_eq_false_iff_ne]
        have := List.length_pos_iff.mpr (split_ne 58 (by decide) d)
        simp only [List.length_map, List.length_cons]
        omega
      simp_arith [hsp, hlen]
      rw [change_colon (by rw [k2, tl_append, tl_append, tl_ch]; simp)]
      cases isName a <;> rfl
theorem rng_ok (n : Nat) (h : n < 4611686018427387904) (π : PH) : fRng1 [.int n] π = .ok (.fix (rngD 0 n)) π := by
  show when_ (okR n) (Res.ok (Src.fix (rngD 0 ((n : Int)).toNat)) π) = _
  rw [show okR n = true by unfold okR; rw [Bool.and_eq_true]; exact ⟨decide_eq_true (by omega), decide_eq_true (by omega)⟩, when_true, Int.toNat_natCast]
theorem rng_get (n i : Nat) (h : i < n) (π : PH) : Src.get π i (.fix (rngD 0 n)) = some (.int (i : Nat)) := by
  show (rngD 0 n)[i]? = _
  unfold rngD
  rw [List.getElem?_map, List.getElem?_range h]
  simp
theorem rng_len (n : Nat) : (Src.fix (rngD 0 n)).len = n := by
  show (rngD 0 n).length = n
  simp [rngD]
def stepV (v : Str → Option D) (rising : Bool) (acc : List D) (w : Str) : Option D := match v w with
  | none => none
  | some d => if (!rising || (acc.isEmpty || ltS (headS (acc.getLast?.getD .non)) (headS d))) = true then some d else none
theorem sevIn_cons (v : Str → Option D) (rising : Bool) (k : Nat) (acc : List D) (w : Str) (r : List Str) : sevIn v rising k acc (w :: r) = match stepV v rising acc w with
  | none => .error k
  | some d => sevIn v rising (k + 1) (acc ++ [d]) r := by
  conv => lhs; unfold sevIn
  unfold stepV
  cases v w with
  | none => rfl
  | some d =>
    dsimp only
    split <;> rfl
def dueD : Except Nat D → D
  | .ok d => .tup [.str "right", d]
  | .error k => .tup [.str "wrong", .int k]
def lawEnd (δh δ' : MI.Env) (π e : PH) : Except Nat (List D) → SRes
  | .ok l => .nx (δh ++ δ') (π ++ [.lst l])
  | .error k => .ret (dueD (.error k)) (π ++ e)
theorem list_loop (v : Str → Option D) (rising : Bool) (hp : rising = true → Pairs v) (body : MS) (sort ws0 : D) (π : PH) (xs : List Str) (hxs : xs.length < sizeLine) (hg : ∀ w ∈ xs, ∀ d, v w = some d → ∃ z, Gd 10 z d)
    (hb : ∀ (i : Nat) (w : Str) (acc : List D) (x4 x5 : Option D), xs[i]? = some w → acc.length ≤ i → (∃ z, Gds 10 z acc) → (rising = true → ∀ d ∈ acc, ∃ n x, d = .tup [.str n, x]) →
      body [some sort, some ws0, some (.ref π.length), some (.int (i : Nat)), x4, x5] (π ++ [.lst acc]) = match stepV v rising acc w with
        | none => .ret (.tup [.str "wrong", .int ((i : Nat) + 1)]) (π ++ [.lst acc])
        | some d => .nx [some sort, some ws0, some (.ref π.length), some (.int (i : Nat)), some d, x5] (π ++ [.lst (acc ++ [d])])) :
    ∀ (ws : List Str) (i : Nat) (acc : List D) (x3 x4 x5 : Option D), xs.drop i = ws → acc.length ≤ i → (∃ z, Gds 10 z acc) → (rising = true → ∀ d ∈ acc, ∃ n x, d = .tup [.str n, x]) →
    ∃ δ' e, forLoop (.fix (rngD 0 xs.length)) (setN 3) body ws.length i [some sort, some ws0, some (.ref π.length), x3, x4, x5] (π ++ [.lst acc]) =
      lawEnd [some sort, some ws0, some (.ref π.length)] δ' π e (sevIn v rising (i + 1) acc ws) := by
  intro ws
  induction ws with
  | nil =>
    intro i acc x3 x4 x5 _ _ _ _
    exact ⟨[x3, x4, x5], [], forLoop_end rfl⟩
  | cons w r ih =>
    intro i acc x3 x4 x5 hd hi hacc hpa
    have hlt : i < xs.length := by
      by_cases h : i < xs.length
      · exact h
      · rw [List.drop_eq_nil_of_le (by omega)] at hd; cases hd
    have hx : xs[i]? = some w := by rw [← List.head?_drop, hd]; rfl
    have hw : w ∈ xs := List.mem_of_getElem? hx
    have hget := rng_get xs.length i hlt (π ++ [.lst acc])
    have hset : setN 3 (.int (i : Nat)) [some sort, some ws0, some (.ref π.length), x3, x4, x5] = some [some sort, some ws0, some (.ref π.length), some (.int (i : Nat)), x4, x5] := rfl
    have hbb := hb i w acc x4 x5 hx hi hacc hpa
    rw [List.length_cons, sevIn_cons]
    have hsv : stepV v rising acc w = stepV v rising acc w := rfl
    cases e : stepV v rising acc w with
    | none =>
      rw [e] at hbb
      refine ⟨[], [.lst acc], ?_⟩
      rw [forLoop_ret hget hset hbb]
      rfl
    | some d =>
      rw [e] at hbb
      have hvw : v w = some d := by
        unfold stepV at e
        cases e2 : v w with
        | none => rw [e2] at e; cases e
        | some d' =>
          rw [e2] at e
          dsimp only at e
          split at e
          · cases e; rfl
          · cases e
      obtain ⟨z, hz⟩ := hacc
      obtain ⟨zd, hzd⟩ := hg w hw d hvw
      obtain ⟨δ', e', he⟩ := ih (i + 1) (acc ++ [d]) (some (.int (i : Nat))) (some d) x5 (by rw [← List.drop_drop, hd]; rfl) (by simp; omega) ⟨_, hz.app (Gds.cons hzd (Gds.nil 10))⟩ (fun hr x hx => by
        rcases List.mem_append.mp hx with hx | hx
        · exact hpa hr x hx
        · rw [List.mem_singleton.mp hx]; exact hp hr w d hvw)
      exact ⟨δ', e', by rw [forLoop_nx hget hset hbb, he]⟩
def lawBody : MS := (sThen (sIf (mB (mOp (fEqS false) (mVar 0) (mC (.str "sections")))) (sThen (sSet 4 (mArgs fTup (mCons (mBM "str" (fSplit false) (mOp fIx (mVar 1) (mVar 3)) (mCons (mC (.str "+")) (mNil))) (mNil)))) (sSet 4 (mIf (mB (mOp (fEqS true) (mLc false [5] (mUn fSrc (mVar 4)) (setN 5) (mNot (mTru (mArgs (fCall 1 [] F__law_is_name) (mCons (mVar 5) (mNil))))) (mVar 5)) (mLst false (mNil)))) (mC .non) (mVar 4)))) (sThen (sSet 4 (mArgs (fCall 2 [] F__law_pair_in) (mCons (mOp fIx (mVar 1) (mVar 3)) (mCons (mVar 0) (mNil))))) (sIf (mAnd (mB (mOp (fIsN true) (mVar 4) (mC .non))) (mAnd (mB (mOp (fEqS true) (mVar 2) (mLst false (mNil)))) (mB (mOp (fLe) (mOp fIx (mVar 4) (mC (.int 0))) (mOp fIx (mOp fIx (mVar 2) (mUn fNeg (mC (.int 1)))) (mC (.int 0))))))) (sSet 4 (mC .non)) (sNx)))) (sThen (sIf (mB (mOp (fIsN false) (mVar 4) (mC .non))) (sRet (mTup (mCons (mC (.str "wrong")) (mCons (mOp (fAdd false) (mVar 3) (mC (.int 1))) (mNil))))) (sNx)) (sExpr (mBM "list" (fAppend) (mVar 2) (mCons (mVar 4) (mNil))))))
theorem ix_str (ws : List Str) (i : Nat) (w : Str) (h : ws[i]? = some w) (π : PH) : fIx (.lst (ws.map D.str)) (.int (i : Nat)) π = .ok (.str w) π := by
  rw [fIx_lst, atI_n, List.getElem?_map, h]; rfl
theorem isN_some {d : D} (h : isNonD d = false) (neg : Bool) (π : PH) : fIsN neg d .non π = .ok (.bl (false != neg)) π := by
  show Res.ok (D.bl (isNonD d != neg)) π = _
  rw [h]
theorem eqS_nil_words (ws : List Str) (ha : ∀ w ∈ ws, asc w) (neg : Bool) (π : PH) : fEqS neg (.lst (ws.map D.str)) (.lst []) π = .ok (.bl (ws.isEmpty != neg)) π := by
  rw [(gds_strs (n := 0) ha).eq_nilL (by omega) neg π]
  cases ws <;> rfl
theorem body_sections (ws : List Str) (π : PH) (ha : ∀ w ∈ ws, asc w ∧ w.length + 2 ≤ sizeLine) (i : Nat) (w : Str) (acc : List D) (x4 x5 : Option D) (hw : ws[i]? = some w) (hi : acc.length < sizeLine) :
    lawBody [some (.str "sections"), some (.lst (ws.map D.str)), some (.ref π.length), some (.int (i : Nat)), x4, x5] (π ++ [.lst acc]) = match stepV groupIn false acc w with
        | none => .ret (.tup [.str "wrong", .int ((i : Nat) + 1)]) (π ++ [.lst acc])
        | some d => .nx [some (.str "sections"), some (.lst (ws.map D.str)), some (.ref π.length), some (.int (i : Nat)), some d, x5] (π ++ [.lst (acc ++ [d])]) := by
  obtain ⟨haw, hlw⟩ := ha w (List.mem_of_getElem? hw)
  have hsp := fSplit_ch 43 (by decide) w hlw (π ++ [.lst acc]) "+" rfl
  have hn : mLc false [5] (mUn fSrc (mVar 4)) (setN 5) (mNot (mTru (mArgs (fCall 1 [] F__law_is_name) (mCons (mVar 5) (mNil))))) (mVar 5) [some (.str "sections"), some (.lst (ws.map D.str)), some (.ref π.length), some (.int (i : Nat)), some (.tup ((Txt.split w (ch 43)).map D.str)), x5] (π ++ [.lst acc]) = .ok (.lst (((Txt.split w (ch 43)).filter fun x => !isName x).map D.str)) (π ++ [.lst acc]) := by
    rw [mLc_filter (xs := (Txt.split w (ch 43)).map D.str) (fun d => match d with | .str x => !isName x | _ => false) (src_tup rfl) (by rw [List.length_map]; exact Nat.le_trans (split_many 43 (by decide) w) (by omega))]
    · congr 2
      generalize Txt.split w (ch 43) = l
      induction l with
      | nil => rfl
      | cons c l ih =>
        rw [List.map_cons, List.filter_cons, List.filter_cons, ih]
        show (if (!isName c) = true then _ else _) = _
        cases isName c <;> rfl
    · intro d hd
      obtain ⟨x, hx, rfl⟩ := List.mem_map.mp hd
      rw [wipe_cons, wipe_nil]
      simp_arith [law_is_name_ok x _ (Nat.le_trans (split_le 43 (by decide) w x hx) (by omega)) (split_asc 43 (by decide) w haw x hx)]
    · intro d hd
      rw [wipe_cons, wipe_nil]
      simp_arith []
  have hq := eqS_nil_words ((Txt.split w (ch 43)).filter fun x => !isName x) (fun x hx => split_asc 43 (by decide) w haw x (List.mem_filter.mp hx).1) true (π ++ [.lst acc])
  have hall : ((Txt.split w (ch 43)).filter fun x => !isName x).isEmpty = (Txt.split w (ch 43)).all isName := by
    generalize Txt.split w (ch 43) = l
    induction l with
    | nil => rfl
    | cons c l ih =>
      rw [List.filter_cons, List.all_cons]
      cases isName c with
      | true => simpa using ih
      | false => rfl
  rw [hall] at hq
  unfold lawBody stepV groupIn
  simp_arith [ix_str ws i w hw, hsp, hn, hq, show (("sections" : Str) == ("sections" : Str)) = true by decide +kernel]
  cases (Txt.split w (ch 43)).all isName with
  | false => simp_arith []
  | true => simp_arith [tyB_end, append_end π acc _ hi]; rfl
theorem body_pairs (v : Str → Option D) (hv : Solid v) (hp : Pairs v) (sort : Str) (hs : (sort == ("sections" : Str)) = false) (ws : List Str) (π : PH) (i : Nat) (w : Str) (acc : List D) (x4 x5 : Option D) (hw : ws[i]? = some w) (hi : acc.length < sizeLine)
    (hc : ∀ π', F__law_pair_in [.str w, .str sort] π' = .ok (dOf (v w)) π') (hacc : ∃ z, Gds 10 z acc) (hpa : ∀ d ∈ acc, ∃ n x, d = .tup [.str n, x]) :
    lawBody [some (.str sort), some (.lst (ws.map D.str)), some (.ref π.length), some (.int (i : Nat)), x4, x5] (π ++ [.lst acc]) = match stepV v true acc w with
        | none => .ret (.tup [.str "wrong", .int ((i : Nat) + 1)]) (π ++ [.lst acc])
        | some d => .nx [some (.str sort), some (.lst (ws.map D.str)), some (.ref π.length), some (.int (i : Nat)), some d, x5] (π ++ [.lst (acc ++ [d])]) := by
  obtain ⟨z, hz⟩ := hacc
  have hne := hz.eq_nil (by omega) true (π ++ [.lst acc]) π.length (at_end π _)
  unfold lawBody stepV
  simp_arith [ix_str ws i w hw, hc, hs]
  cases e : v w with
  | none => simp_arith [dOf]
  | some d =>
    obtain ⟨m, y, hd⟩ := hp w d e
    subst hd
    simp_arith [dOf, hne]
    cases hl : acc.isEmpty with
    | true =>
      simp_arith [tyB_end, append_end π acc _ hi, Bool.or_true, Bool.true_or]
    | false =>
      rcases List.eq_nil_or_concat acc with h0 | ⟨L, b, h0⟩
      · rw [h0] at hl; cases hl
      · obtain ⟨n, x, hb⟩ := hpa b (by rw [h0]; simp)
        have h0' : acc = L ++ [.tup [.str n, x]] := by rw [h0, hb]; simp
        have hap := append_end π acc (.tup [.str m, y]) hi
        have hty := tyB_end π acc
        rw [h0'] at hap hty ⊢
        have hh : headS ((L ++ [D.tup [.str n, x]]).getLast?.getD .non) = n := by simp [headS]
        rw [hh]
        show _ = match (if (!true || (false || ltS n m)) = true then some (D.tup [.str m, y]) else none) with | none => _ | some d => _
        cases hlt : ltS n m with
        | true => simp_arith [ix_end, atI_last, hlt, hap, hty, Bool.or_true]
        | false => simp_arith [ix_end, atI_last, hlt, hap, hty, Bool.or_false]
end LW

set_option Elab.async false
set_option linter.all false
set_option maxRecDepth 100000
set_option maxHeartbeats 4000000
/-! The law's reading of a row. -/
namespace LW
open PySem L2 MI TL
theorem line_lt : sizeLine < 4611686018427387904 := by rw [show sizeLine = 16777216 from rfl]; omega
theorem list_gen (v : Str → Option D) (rising : Bool) (hp : rising = true → Pairs v) (sort : Str) (ws : List Str) (π : PH) (hxs : ws.length < sizeLine) (ha : ∀ w ∈ ws, asc w ∧ w.length + 2 ≤ sizeLine) (hg : ∀ w ∈ ws, ∀ d, v w = some d → ∃ z, Gd 10 z d)
    (hb : ∀ (i : Nat) (w : Str) (acc : List D) (x4 x5 : Option D), ws[i]? = some w → acc.length ≤ i → (∃ z, Gds 10 z acc) → (rising = true → ∀ d ∈ acc, ∃ n x, d = .tup [.str n, x]) →
      lawBody [some (.str sort), some (.lst (ws.map D.str)), some (.ref π.length), some (.int (i : Nat)), x4, x5] (π ++ [.lst acc]) = match stepV v rising acc w with
        | none => .ret (.tup [.str "wrong", .int ((i : Nat) + 1)]) (π ++ [.lst acc])
        | some d => .nx [some (.str sort), some (.lst (ws.map D.str)), some (.ref π.length), some (.int (i : Nat)), some d, x5] (π ++ [.lst (acc ++ [d])])) :
    ∃ e, F__law_list_in [.str sort, .lst (ws.map D.str)] π = .ok (dueD (if (sort == ("correct" : Str)) = true then sevL v rising ws else noneOr v rising ws)) (π ++ e) := by
  have hq := eqS_nil_words ws (fun w h => (ha w h).1) false (π ++ [.lst []])
  rw [Bool.bne_false] at hq
  unfold F__law_list_in runB m__law_list_in
  cases ws with
  | nil =>
    refine ⟨[.lst []], ?_⟩
    simp_arith [hq, List.isEmpty_nil]
    cases (sort == ("correct" : Str)) <;> rfl
  | cons a r =>
    obtain ⟨δ', e, he⟩ := list_loop v rising hp lawBody (.str sort) (.lst ((a :: r).map D.str)) π (a :: r) hxs hg hb (a :: r) 0 [] none none none rfl (Nat.le_refl _) ⟨0, Gds.nil 10⟩ (fun _ d hd => by cases hd)
    have hfor : sFor (mSrcA fRng1 (mCons (mArgs fLen (mCons (mVar 1) (mNil))) (mNil))) (setN 3) lawBody [some (.str sort), some (.lst ((a :: r).map D.str)), some (.ref π.length), none, none, none] (π ++ [.lst []]) = lawEnd [some (.str sort), some (.lst ((a :: r).map D.str)), some (.ref π.length)] δ' π e (sevIn v rising (0 + 1) [] (a :: r)) := by
      rw [← he, sFor_ap]
      have hr := rng_ok (a :: r).length (Nat.lt_trans hxs line_lt) (π ++ [.lst []])
      simp_arith [mSrcA_ap, List.length_map, hr, rng_len]
      rw [List.length_cons] at hr
      simp_arith [hr, rng_len]
    have hfor' := hfor
    unfold lawBody at hfor'
    rw [List.map_cons] at hfor' hq
    rw [List.isEmpty_cons] at hq
    have hcor : ∀ x, (sort == x) = (sort == x) := fun _ => rfl
    have tail : ∀ δ0 : MI.Env, (match SRes.then_ (lawEnd [some (.str sort), some (.lst ((a :: r).map D.str)), some (.ref π.length)] δ' π e (sevIn v rising (0 + 1) [] (a :: r))) (sRet (mTup (mCons (mC (.str "right")) (mCons (mArgs fTup (mCons (mVar 2) (mNil))) (mNil))))) with
          | SRes.nx δ π' => Res.ok D.non π' | SRes.ret d π' => Res.ok d π' | SRes.exc x δ π' => Res.exc x π' | x => Res.stuck) = .ok (dueD (sevL v rising (a :: r))) (match sevIn v rising 1 [] (a :: r) with | .ok l => π ++ [.lst l] | .error _ => π ++ e) := by
      intro _
      unfold sevL
      rw [if_neg (by simp)]
      cases sevIn v rising (0 + 1) [] (a :: r) with
      | ok l => unfold lawEnd; simp_arith [tup_end]; rfl
      | error k => rfl
    have fin : ∃ e', (match sevIn v rising 1 [] (a :: r) with | .ok l => π ++ [O.lst l] | .error _ => π ++ e) = π ++ e' := by
      cases sevIn v rising 1 [] (a :: r) with
      | ok l => exact ⟨_, rfl⟩
      | error k => exact ⟨_, rfl⟩
    cases hc : (sort == ("correct" : Str)) with
    | true =>
      rw [if_pos rfl]
      obtain ⟨e', hfin⟩ := fin
      refine ⟨e', ?_⟩
      rw [← hfin, ← tail []]
      cases hd : (a == ("-" : Str)) with
      | true => simp_arith [hq, hd, hc, hfor'] <;> rfl
      | false => simp_arith [hq, hd, hc, hfor'] <;> rfl
    | false =>
      rw [if_neg (by simp)]
      unfold noneOr
      cases hd : (a == ("-" : Str)) with
      | true =>
        have e1 : a = "-" := eq_of_beq hd
        rw [if_pos (by rw [e1]; rfl)]
        refine ⟨[.lst []], ?_⟩
        cases r with
        | nil =>
          rw [List.map_nil] at hq
          simp_arith [hq, hd, hc]
          rfl
        | cons b r =>
          rw [List.map_cons] at hq
          simp_arith [hq, hd, hc, show decide ((1 : Int) < ((((r.map D.str).length + 1 + 1) : Nat) : Int)) = true from decide_eq_true (by omega)]
          rw [if_neg (by omega)]
          rfl
      | false =>
        have hh : ¬ ((a :: r).head? = some ("-" : Str)) := fun h => by
          have : a = "-" := Option.some.inj h
          rw [this] at hd
          exact absurd hd (by decide +kernel)
        rw [if_neg hh]
        obtain ⟨e', hfin⟩ := fin
        refine ⟨e', ?_⟩
        rw [← hfin, ← tail []]
        simp_arith [hq, hd, hc, hfor'] <;> rfl
theorem list_sections (ws : List Str) (π : PH) (hxs : ws.length < sizeLine) (ha : ∀ w ∈ ws, asc w ∧ w.length + 2 ≤ sizeLine) : ∃ e, F__law_list_in [.str "sections", .lst (ws.map D.str)] π = .ok (dueD (noneOr groupIn false ws)) (π ++ e) := by
  have h := list_gen groupIn false (fun z => by cases z) "sections" ws π hxs ha (fun w _ d hd => ⟨_, gd_group hd⟩) (fun i w acc x4 x5 h1 h2 h3 h4 => body_sections ws π ha i w acc x4 x5 h1 (by
    have := (List.getElem?_eq_some_iff.mp h1).1; omega))
  rw [show (("sections" : Str) == ("correct" : Str)) = false by decide +kernel] at h
  exact h
theorem list_announce (ws : List Str) (π : PH) (hxs : ws.length < sizeLine) (ha : ∀ w ∈ ws, asc w ∧ w.length + 2 ≤ sizeLine) : ∃ e, F__law_list_in [.str "announce", .lst (ws.map D.str)] π = .ok (dueD (noneOr (pairIn chargeV) true ws)) (π ++ e) := by
  have h := list_gen (pairIn chargeV) true (fun _ => pairs_pair _) "announce" ws π hxs ha (fun w _ d hd => ⟨_, gd_pair (fun w d => gd_frac) hd⟩) (fun i w acc x4 x5 h1 h2 h3 h4 => body_pairs (pairIn chargeV) (solid_pair _) (pairs_pair _) "announce" (by decide +kernel) ws π i w acc x4 x5 h1 (by
    have := (List.getElem?_eq_some_iff.mp h1).1; omega) (fun π' => law_pair_charge w π' (ha w (List.mem_of_getElem? h1)).2 (ha w (List.mem_of_getElem? h1)).1) h3 (h4 rfl))
  rw [show (("announce" : Str) == ("correct" : Str)) = false by decide +kernel] at h
  exact h
theorem list_correct (ws : List Str) (π : PH) (hxs : ws.length < sizeLine) (ha : ∀ w ∈ ws, asc w ∧ w.length + 2 ≤ sizeLine) : ∃ e, F__law_list_in [.str "correct", .lst (ws.map D.str)] π = .ok (dueD (sevL (pairIn changeV) true ws)) (π ++ e) := by
  have h := list_gen (pairIn changeV) true (fun _ => pairs_pair _) "correct" ws π hxs ha (fun w _ d hd => ⟨_, gd_pair (fun w d => gd_change) hd⟩) (fun i w acc x4 x5 h1 h2 h3 h4 => body_pairs (pairIn changeV) (solid_pair _) (pairs_pair _) "correct" (by decide +kernel) ws π i w acc x4 x5 h1 (by
    have := (List.getElem?_eq_some_iff.mp h1).1; omega) (fun π' => law_pair_change w π' (ha w (List.mem_of_getElem? h1)).2 (ha w (List.mem_of_getElem? h1)).1) h3 (h4 rfl))
  rw [show (("correct" : Str) == ("correct" : Str)) = true by decide +kernel] at h
  exact h
theorem one_withdraw (ws : List Str) (π : PH) (ha : ∀ w ∈ ws, asc w ∧ w.length + 2 ≤ sizeLine) : F__law_one_in [.str "withdraw", .lst (ws.map D.str)] π = .ok (if ws = [] then .tup [.str "right", .non] else .tup [.str "wrong", .int 1]) π := by
  have hq := eqS_nil_words ws (fun w h => (ha w h).1) false π
  rw [Bool.bne_false] at hq
  unfold F__law_one_in runB m__law_one_in
  simp_arith [hq, show (("withdraw" : Str) == ("withdraw" : Str)) = true by decide +kernel]
  cases ws with
  | nil => simp_arith [List.isEmpty_nil]
  | cons a r => simp_arith [List.isEmpty_cons]; rfl
theorem one_name (sort : Str) (hs : (sort == ("withdraw" : Str)) = false) (h2 : (sort == ("send" : Str)) = false) (ws : List Str) (π : PH) (ha : ∀ w ∈ ws, asc w ∧ w.length + 2 ≤ sizeLine) : F__law_one_in [.str sort, .lst (ws.map D.str)] π = .ok (dueD (oneIn nameIn ws)) π := by
  have hq := eqS_nil_words ws (fun w h => (ha w h).1) false π
  rw [Bool.bne_false] at hq
  unfold F__law_one_in runB m__law_one_in oneIn
  simp_arith [hq, hs]
  cases ws with
  | nil => simp_arith [List.isEmpty_nil]; rfl
  | cons a r =>
    obtain ⟨h3, h4⟩ := ha a List.mem_cons_self
    have hn := law_is_name_ok a π (by omega) h3
    unfold nameIn
    simp_arith [List.isEmpty_cons, hn, h2]
    cases isName a with
    | false => simp_arith [h2]; rfl
    | true =>
      simp_arith [h2]
      cases r with
      | nil => simp_arith [show (((([] : List Str).map D.str).length + 1 : Nat) : Int) == 1 from rfl, h2]; rfl
      | cons b r => simp_arith [show (((((r).map D.str).length + 1 + 1 : Nat) : Int) == 1) = false from beq_eq_false_iff_ne.mpr (by simp; omega), h2]; rfl
theorem one_send (ws : List Str) (π : PH) (ha : ∀ w ∈ ws, asc w ∧ w.length + 2 ≤ sizeLine) : F__law_one_in [.str "send", .lst (ws.map D.str)] π = .ok (dueD (oneIn centsIn ws)) π := by
  have hq := eqS_nil_words ws (fun w h => (ha w h).1) false π
  rw [Bool.bne_false] at hq
  unfold F__law_one_in runB m__law_one_in oneIn
  simp_arith [hq, show (("send" : Str) == ("withdraw" : Str)) = false by decide +kernel]
  cases ws with
  | nil => simp_arith [List.isEmpty_nil]; rfl
  | cons a r =>
    obtain ⟨h3, h4⟩ := ha a List.mem_cons_self
    have hn := law_is_name_ok a π (by omega) h3
    have hsp := fSplit_ch 44 (by decide) a h4 π "," rfl
    have hnm := fun x2 => law_nums (Txt.split a (ch 44)) [some (.str "send"), some (.lst (.str a :: r.map D.str)), x2, none, none] π 0 4 (mUn fSrc (mBM "str" (fSplit false) (mOp fIx (mVar 1) (mC (.int 0))) (mCons (mC (.str ",")) (mNil)))) (by simp_arith [hsp]; rfl) (by simp) (Nat.le_trans (split_many 44 (by decide) a) (by omega)) (fun w hw => ⟨Nat.le_trans (split_le 44 (by decide) a w hw) (by omega), split_asc 44 (by decide) a h3 w hw⟩)
    have hin := none_in_l ((Txt.split a (ch 44)).map numIn) π
    have hin0 : fIn false .non (.lst []) π = .ok (.bl false) π := none_in_l [] π
    unfold centsIn
    simp_arith [List.isEmpty_cons, hn, show (("send" : Str) == ("send" : Str)) = true by decide +kernel]
    have tl : ∀ d : D, isNonD d = false → (match (Res.sb [some (.str "send"), some (.lst (.str a :: r.map D.str)), some d, none, none] (fIsN false d .non π) fun d π1 => SRes.nx [] π1) with | _ => True) := fun _ _ => trivial
    cases hb : isName a <;> cases hd : (a == ("-" : Str)) <;> simp_arith [hnm, hin, hin0, hd]
    all_goals (try (cases h9 : ((Txt.split a (ch 44)).map numIn).any Option.isNone <;> simp_arith []))
    all_goals (try rfl)
    all_goals (cases r with
      | nil => simp_arith [show (((([] : List Str).map D.str).length + 1 : Nat) : Int) == 1 from rfl]; rfl
      | cons b r => simp_arith [show (((((r).map D.str).length + 1 + 1 : Nat) : Int) == 1) = false from beq_eq_false_iff_ne.mpr (by simp; omega)]; rfl)
end LW

set_option Elab.async false
set_option linter.all false
set_option maxRecDepth 100000
set_option maxHeartbeats 4000000
/-! _law_row_due; the logs. -/
namespace LW
open PySem L2 MI TL
theorem in_strs (w : Str) (l : List Str) (π : PH) : fIn false (.str w) (.tup (l.map D.str)) π = .ok (.bl (l.any (· == w))) π := by
  show opt (sqOf π (.tup (l.map D.str))) (fun ds => when_ (flatD (.str w) && ds.all flatD) (Res.ok (D.bl (ds.any (fun y => eqF y (.str w)) != false)) π)) = _
  have e1 : (l.map D.str).all flatD = true := by rw [List.all_map, List.all_eq_true]; intro _ _; rfl
  have e2 : (l.map D.str).any (fun y => eqF y (.str w)) = l.any (· == w) := by rw [List.any_map]; rfl
  rw [show sqOf π (.tup (l.map D.str)) = some (l.map D.str) from rfl, opt_some, e1, e2, Bool.bne_false]
  rfl
/-- what _law_row_due says -/
def resultD (at_ : Int) : Except Nat D → D
  | .ok d => .tup [.str "told", d]
  | .error k => .tup [.str "no", .str "text", .int at_, .int k]
theorem cut_from {β : Type} (l : List β) : cut l (some 1) none = l.drop 1 := by
  cases l with
  | nil => rfl
  | cons a l => rw [cut_1]; rfl
theorem row_due_ok (s : Str) (h : Ok s) (at_ : Int) (π : PH) : ∃ e, F__law_row_due [.str s, .int at_] π = .ok (resultD at_ (rowDue (Txt.split s (ch 32)))) (π ++ e) := by
  obtain ⟨w0, ws, e, hn, hw⟩ := h.split
  have hs := h.2
  have hsp := fSplit_ch 32 (by decide) s (by omega) π " " rfl
  rw [e, List.map_cons] at hsp
  have h3 : ∀ π, fIn false (.str w0) (.tup [.str "sections", .str "announce", .str "correct"]) π = .ok (.bl ((["sections", "announce", "correct"] : List Str).any (· == w0))) π := fun π => in_strs w0 ["sections", "announce", "correct"] π
  have h4 : ∀ π, fIn false (.str w0) (.tup [.str "add", .str "end", .str "withdraw", .str "send"]) π = .ok (.bl ((["add", "end", "withdraw", "send"] : List Str).any (· == w0))) π := fun π => in_strs w0 ["add", "end", "withdraw", "send"] π
  rw [e, rowDue_cons]
  unfold F__law_row_due runB m__law_row_due
  by_cases c1 : w0 = "withdraw"
  · subst c1
    have ho := one_withdraw ws π hw
    rw [show (["sections", "announce", "correct"] : List Str).any (· == ("withdraw" : Str)) = false by decide +kernel] at h3
    rw [show (["add", "end", "withdraw", "send"] : List Str).any (· == ("withdraw" : Str)) = true by decide +kernel] at h4
    refine ⟨[], ?_⟩
    rw [if_pos (by decide +kernel), List.append_nil]
    simp_arith [hsp, cut_1, h3, h4, ho]
    cases ws with
    | nil => rw [if_pos rfl, if_pos rfl]; simp_arith [show (("right" : Str) == ("wrong" : Str)) = false by decide +kernel, show (("withdraw" : Str) == ("withdraw" : Str)) = true by decide +kernel]; rfl
    | cons a r => rw [if_neg (by simp), if_neg (by simp)]; simp_arith [show (("wrong" : Str) == ("wrong" : Str)) = true by decide +kernel]; rfl
  by_cases c2 : w0 = "add"
  · subst c2
    have ho := one_name "add" (by decide +kernel) (by decide +kernel) ws π hw
    rw [show (["sections", "announce", "correct"] : List Str).any (· == ("add" : Str)) = false by decide +kernel] at h3
    rw [show (["add", "end", "withdraw", "send"] : List Str).any (· == ("add" : Str)) = true by decide +kernel] at h4
    refine ⟨[], ?_⟩
    rw [if_neg (by decide +kernel), if_pos (by decide +kernel), List.append_nil]
    simp_arith [hsp, cut_1, h3, h4, ho]
    cases oneIn nameIn ws with
    | ok d => simp_arith [dueD, show (("right" : Str) == ("wrong" : Str)) = false by decide +kernel, show (("add" : Str) == ("withdraw" : Str)) = false by decide +kernel]; rfl
    | error k => simp_arith [dueD, show (("wrong" : Str) == ("wrong" : Str)) = true by decide +kernel]; rfl
  by_cases c3 : w0 = "end"
  · subst c3
    have ho := one_name "end" (by decide +kernel) (by decide +kernel) ws π hw
    rw [show (["sections", "announce", "correct"] : List Str).any (· == ("end" : Str)) = false by decide +kernel] at h3
    rw [show (["add", "end", "withdraw", "send"] : List Str).any (· == ("end" : Str)) = true by decide +kernel] at h4
    refine ⟨[], ?_⟩
    rw [if_neg (by decide +kernel), if_pos (by decide +kernel), List.append_nil]
    simp_arith [hsp, cut_1, h3, h4, ho]
    cases oneIn nameIn ws with
    | ok d => simp_arith [dueD, show (("right" : Str) == ("wrong" : Str)) = false by decide +kernel, show (("end" : Str) == ("withdraw" : Str)) = false by decide +kernel]; rfl
    | error k => simp_arith [dueD, show (("wrong" : Str) == ("wrong" : Str)) = true by decide +kernel]; rfl
  by_cases c4 : w0 = "send"
  · subst c4
    have ho := one_send ws π hw
    rw [show (["sections", "announce", "correct"] : List Str).any (· == ("send" : Str)) = false by decide +kernel] at h3
    rw [show (["add", "end", "withdraw", "send"] : List Str).any (· == ("send" : Str)) = true by decide +kernel] at h4
    refine ⟨[], ?_⟩
    rw [if_neg (by decide +kernel), if_neg (by decide +kernel), if_pos (by decide +kernel), List.append_nil]
    simp_arith [hsp, cut_1, h3, h4, ho]
    cases oneIn centsIn ws with
    | ok d => simp_arith [dueD, show (("right" : Str) == ("wrong" : Str)) = false by decide +kernel, show (("send" : Str) == ("withdraw" : Str)) = false by decide +kernel]; rfl
    | error k => simp_arith [dueD, show (("wrong" : Str) == ("wrong" : Str)) = true by decide +kernel]; rfl
  by_cases c5 : w0 = "sections"
  · subst c5
    obtain ⟨e', ho⟩ := list_sections ws π hn hw
    rw [show (["sections", "announce", "correct"] : List Str).any (· == ("sections" : Str)) = true by decide +kernel] at h3
    refine ⟨e', ?_⟩
    rw [if_neg (by decide +kernel), if_neg (by decide +kernel), if_neg (by decide +kernel), if_pos (by decide +kernel)]
    simp_arith [hsp, cut_1, h3, h4, ho]
    cases noneOr groupIn false ws with
    | ok d => simp_arith [dueD, show (("right" : Str) == ("wrong" : Str)) = false by decide +kernel, show (("sections" : Str) == ("withdraw" : Str)) = false by decide +kernel]; rfl
    | error k => simp_arith [dueD, show (("wrong" : Str) == ("wrong" : Str)) = true by decide +kernel]; rfl
  by_cases c6 : w0 = "announce"
  · subst c6
    obtain ⟨e', ho⟩ := list_announce ws π hn hw
    rw [show (["sections", "announce", "correct"] : List Str).any (· == ("announce" : Str)) = true by decide +kernel] at h3
    refine ⟨e', ?_⟩
    rw [if_neg (by decide +kernel), if_neg (by decide +kernel), if_neg (by decide +kernel), if_neg (by decide +kernel), if_pos (by decide +kernel)]
    simp_arith [hsp, cut_1, h3, h4, ho]
    cases noneOr (pairIn chargeV) true ws with
    | ok d => simp_arith [dueD, show (("right" : Str) == ("wrong" : Str)) = false by decide +kernel, show (("announce" : Str) == ("withdraw" : Str)) = false by decide +kernel]; rfl
    | error k => simp_arith [dueD, show (("wrong" : Str) == ("wrong" : Str)) = true by decide +kernel]; rfl
  by_cases c7 : w0 = "correct"
  · subst c7
    obtain ⟨e', ho⟩ := list_correct ws π hn hw
    rw [show (["sections", "announce", "correct"] : List Str).any (· == ("correct" : Str)) = true by decide +kernel] at h3
    refine ⟨e', ?_⟩
    rw [if_neg (by decide +kernel), if_neg (by decide +kernel), if_neg (by decide +kernel), if_neg (by decide +kernel), if_neg (by decide +kernel), if_pos (by decide +kernel)]
    simp_arith [hsp, cut_1, h3, h4, ho]
    cases sevL (pairIn changeV) true ws with
    | ok d => simp_arith [dueD, show (("right" : Str) == ("wrong" : Str)) = false by decide +kernel, show (("correct" : Str) == ("withdraw" : Str)) = false by decide +kernel]; rfl
    | error k => simp_arith [dueD, show (("wrong" : Str) == ("wrong" : Str)) = true by decide +kernel]; rfl
  · have nb : ∀ x : Str, w0 ≠ x → (w0 == x) = false ∧ (x == w0) = false := fun x hx => ⟨beq_eq_false_iff_ne.mpr hx, beq_eq_false_iff_ne.mpr (Ne.symm hx)⟩
    have f3 : (["sections", "announce", "correct"] : List Str).any (· == w0) = false := by
      simp only [List.any_cons, List.any_nil, (nb _ c5).2, (nb _ c6).2, (nb _ c7).2, Bool.or_false]
    have f4 : (["add", "end", "withdraw", "send"] : List Str).any (· == w0) = false := by
      simp only [List.any_cons, List.any_nil, (nb _ c1).2, (nb _ c2).2, (nb _ c3).2, (nb _ c4).2, Bool.or_false]
    rw [f3] at h3
    rw [f4] at h4
    refine ⟨[], ?_⟩
    have g : ∀ x : Str, w0 ≠ x → ¬ (([x] : List Str).any (eqW w0) = true) := fun x hx => by
      simp only [List.any_cons, List.any_nil, eqW, (nb x hx).1, Bool.or_false]; simp
    have g2 : ¬ ((["add", "end"] : List Str).any (eqW w0) = true) := by
      simp only [List.any_cons, List.any_nil, eqW, (nb _ c2).1, (nb _ c3).1, Bool.or_false]; simp
    rw [if_neg (g _ c1), if_neg g2, if_neg (g _ c4), if_neg (g _ c5), if_neg (g _ c6), if_neg (g _ c7), List.append_nil]
    simp_arith [hsp, cut_1, h3, h4, show (("wrong" : Str) == ("wrong" : Str)) = true by decide +kernel]
    rfl
end LW

set_option Elab.async false
set_option linter.all false
set_option maxRecDepth 100000
set_option maxHeartbeats 4000000
/-! How large a step can be; the logs. -/
namespace LW
open PySem L2 MI TL
def wz (ws : List Str) : Nat := 302 * ((ws.map (·.length)).sum + ws.length)
theorem wz_cons (w : Str) (ws : List Str) : wz (w :: ws) = 302 * (w.length + 1) + wz ws := by
  unfold wz
  simp only [List.map_cons, List.sum_cons, List.length_cons]
  omega
def Small (v : Str → Option D) : Prop := ∀ w d, v w = some d → Gd 10 (200 * (w.length + 1) + 100) d
theorem sevIn_gd {v : Str → Option D} (hv : Small v) (rising : Bool) : ∀ (ws : List Str) (k : Nat) (acc : List D) (z : Nat) (l : List D), Gds 10 z acc → sevIn v rising k acc ws = .ok l → Gds 10 (z + wz ws) l := by
  intro ws
  induction ws with
  | nil =>
    intro k acc z l h e
    simp only [sevIn] at e
    cases e
    exact h.mono (Nat.le_refl _) (by omega)
  | cons w r ih =>
    intro k acc z l h e
    rw [sevIn_cons] at e
    unfold stepV at e
    cases hw : v w with
    | none => rw [hw] at e; cases e
    | some d =>
      rw [hw] at e
      dsimp only at e
      by_cases hb : (!rising || (acc.isEmpty || ltS (headS (acc.getLast?.getD .non)) (headS d))) = true
      · rw [if_pos hb] at e
        have := ih _ _ _ _ (h.app (Gds.cons (hv w d hw) (Gds.nil 10))) e
        exact this.mono (Nat.le_refl _) (by rw [wz_cons]; omega)
      · rw [if_neg hb] at e
        cases e
theorem sevIn_err {v : Str → Option D} (rising : Bool) : ∀ (ws : List Str) (k : Nat) (acc : List D) (j : Nat), sevIn v rising k acc ws = .error j → j ≤ k + ws.length := by
  intro ws
  induction ws with
  | nil => intro k acc j e; simp only [sevIn] at e; cases e
  | cons w r ih =>
    intro k acc j e
    rw [sevIn_cons] at e
    rw [List.length_cons]
    split at e
    · cases e; omega
    · have := ih _ _ _ e
      omega
theorem sevL_gd {v : Str → Option D} (hv : Small v) {rising : Bool} {ws : List Str} {d : D} (h : sevL v rising ws = .ok d) : Gd 11 (wz ws + 3) d := by
  unfold sevL at h
  split at h
  · cases h
  · cases e : sevIn v rising 1 [] ws with
    | ok l =>
      rw [e] at h
      cases h
      exact (Gd.tup (sevIn_gd hv rising ws 1 [] 0 l (Gds.nil 10) e)).mono (Nat.le_refl _) (by omega)
    | error k => rw [e] at h; cases h
theorem sevL_err {v : Str → Option D} {rising : Bool} {ws : List Str} {j : Nat} (h : sevL v rising ws = .error j) : j ≤ 1 + ws.length := by
  unfold sevL at h
  split at h
  · cases h; omega
  · cases e : sevIn v rising 1 [] ws with
    | ok l => rw [e] at h; cases h
    | error k => rw [e] at h; cases h; exact sevIn_err rising ws 1 [] _ e
theorem noneOr_gd {v : Str → Option D} (hv : Small v) {rising : Bool} {ws : List Str} {d : D} (h : noneOr v rising ws = .ok d) : Gd 11 (wz ws + 3) d := by
  unfold noneOr at h
  split at h
  · split at h
    · cases h; exact (Gd.tup (Gds.nil 0)).mono (by omega) (by omega)
    · cases h
  · exact sevL_gd hv h
theorem noneOr_err {v : Str → Option D} {rising : Bool} {ws : List Str} {j : Nat} (h : noneOr v rising ws = .error j) : j ≤ 2 + ws.length := by
  unfold noneOr at h
  split at h
  · split at h
    · cases h
    · cases h; omega
  · have := sevL_err h; omega
theorem oneIn_gd {v : Str → Option D} (hv : Small v) {ws : List Str} {d : D} (h : oneIn v ws = .ok d) : Gd 11 (wz ws + 3) d := by
  unfold oneIn at h
  split at h
  · cases h
  · rename_i w r
    split at h
    · cases h
    · rename_i d' hd
      split at h
      · cases h
        exact (hv w _ hd).mono (by omega) (by rw [wz_cons]; omega)
      · cases h
theorem oneIn_err {v : Str → Option D} {ws : List Str} {j : Nat} (h : oneIn v ws = .error j) : j ≤ 2 := by
  unfold oneIn at h
  split at h
  · cases h; omega
  · split at h
    · cases h; omega
    · split at h
      · cases h
      · cases h; omega
theorem withW_gd {w0 : Str} (ha : asc w0) {z : Nat} {x : Except Nat D} {d : D} (hx : ∀ d, x = .ok d → Gd 11 z d) (h : withW w0 x = .ok d) : Gd 12 (10 * w0.length + z + 9) d := by
  cases x with
  | error k => cases h
  | ok y =>
    cases h
    exact (Gd.tup (Gds.cons ((Gd.str ha).mono (Nat.zero_le 11) (Nat.le_refl _)) (Gds.cons (hx y rfl) (Gds.nil 11)))).mono (Nat.le_refl _) (by omega)
theorem withW_err {w0 : Str} {n : Nat} {x : Except Nat D} {j : Nat} (hx : ∀ j, x = .error j → j ≤ n) (h : withW w0 x = .error j) : j ≤ n := by
  cases x with
  | error k => cases h; exact hx _ rfl
  | ok y => cases h
theorem small_name : Small nameIn := fun _ _ h => gd_name h
theorem small_cents : Small centsIn := fun _ _ h => gd_cents h
theorem small_group : Small groupIn := fun _ _ h => gd_group h
theorem small_charge : Small (pairIn chargeV) := fun _ _ h => gd_pair (fun _ _ => gd_frac) h
theorem small_change : Small (pairIn changeV) := fun _ _ h => gd_pair (fun _ _ => gd_change) h
theorem rowDue_gd (s : Str) (h : Ok s) {d : D} (e : rowDue (Txt.split s (ch 32)) = .ok d) : Gd 12 (302 * (s.length + 1) + 12) d := by
  obtain ⟨w0, ws, hs, _, _⟩ := h.split
  have hl := split_len 32 (by decide) s
  have ha : asc w0 := split_asc 32 (by decide) s h.1 w0 (by rw [hs]; exact List.mem_cons_self)
  rw [hs] at e hl
  simp only [List.map_cons, List.sum_cons, List.length_cons] at hl
  have hz : wz ws = 302 * ((ws.map (·.length)).sum + ws.length) := rfl
  have key : ∀ x : Except Nat D, (∀ d, x = .ok d → Gd 11 (wz ws + 3) d) → withW w0 x = .ok d → Gd 12 (302 * (s.length + 1) + 12) d := fun x hx he => (withW_gd ha hx he).mono (Nat.le_refl _) (by omega)
  rw [rowDue_cons] at e
  split at e
  · split at e
    · cases e
      exact (Gd.tup (Gds.cons ((Gd.str ha).mono (Nat.zero_le 11) (Nat.le_refl _)) (Gds.nil 11))).mono (Nat.le_refl _) (by omega)
    · cases e
  split at e
  · exact key _ (fun d hd => oneIn_gd small_name hd) e
  split at e
  · exact key _ (fun d hd => oneIn_gd small_cents hd) e
  split at e
  · exact key _ (fun d hd => noneOr_gd small_group hd) e
  split at e
  · exact key _ (fun d hd => noneOr_gd small_charge hd) e
  split at e
  · exact key _ (fun d hd => sevL_gd small_change hd) e
  · cases e
theorem rowDue_err (s : Str) (h : Ok s) {j : Nat} (e : rowDue (Txt.split s (ch 32)) = .error j) : j ≤ s.length + 3 := by
  obtain ⟨w0, ws, hs, _, _⟩ := h.split
  have hl := split_len 32 (by decide) s
  rw [hs] at e hl
  simp only [List.map_cons, List.sum_cons, List.length_cons] at hl
  have key : ∀ x : Except Nat D, (∀ j, x = .error j → j ≤ 2 + ws.length) → withW w0 x = .error j → j ≤ s.length + 3 := fun x hx he => by
    have := withW_err hx he
    omega
  rw [rowDue_cons] at e
  split at e
  · split at e
    · cases e
    · cases e; omega
  split at e
  · exact key _ (fun d hd => by have := oneIn_err hd; omega) e
  split at e
  · exact key _ (fun d hd => by have := oneIn_err hd; omega) e
  split at e
  · exact key _ (fun d hd => noneOr_err hd) e
  split at e
  · exact key _ (fun d hd => noneOr_err hd) e
  split at e
  · exact key _ (fun d hd => by have := sevL_err hd; omega) e
  · cases e; omega
theorem asc_lit (x : Str) (h : x.cps.toList.all (fun c => decide (c < 128)) = true) : asc x := fun c hc => of_decide_eq_true (List.all_eq_true.mp h c hc)
theorem resultD_gd (s : Str) (h : Ok s) (at_ : Int) (h0 : 0 ≤ at_) (h1 : at_ < 10 ^ 61) : Gd 13 (302 * (s.length + 1) + 400) (resultD at_ (rowDue (Txt.split s (ch 32)))) := by
  cases e : rowDue (Txt.split s (ch 32)) with
  | ok d =>
    exact (Gd.tup (Gds.cons ((Gd.str (asc_lit "told" (by decide +kernel))).mono (Nat.zero_le 12) (Nat.le_refl _)) (Gds.cons (rowDue_gd s h e) (Gds.nil 12)))).mono (Nat.le_refl _) (by
      have : ("told" : Str).length = 4 := by decide +kernel
      omega)
  | error k =>
    have hk := rowDue_err s h e
    have hs := h.2
    have hz : sizeLine = 16777216 := rfl
    exact (Gd.tup (Gds.cons (Gd.str (asc_lit "no" (by decide +kernel))) (Gds.cons (Gd.str (asc_lit "text" (by decide +kernel))) (Gds.cons (Gd.int (by omega) h1) (Gds.cons (Gd.int (i := (k : Int)) (by omega) (by omega)) (Gds.nil 0)))))).mono (by omega) (by
      have : ("no" : Str).length = 2 := by decide +kernel
      have : ("text" : Str).length = 4 := by decide +kernel
      omega)
end LW

set_option Elab.async false
set_option linter.all false
set_option maxRecDepth 100000
set_option maxHeartbeats 4000000
/-! read_log, _law_log_due. -/
namespace LW
open PySem L2 MI TL
def logGo : Nat → List D → List Str → Except (Nat × Nat) (List D)
  | _, acc, [] => .ok acc
  | i, acc, s :: r => match rowDue (Txt.split s (ch 32)) with
    | .ok d => logGo (i + 1) (acc ++ [d]) r
    | .error k => .error (i, k)
theorem lcX_nx {s : Src} {set : SetD} {te : M D} {δ δ1 : MI.Env} {k i : Nat} {acc : List D} {π π3 : PH} {d e : D} (h1 : s.get π i = some d) (h2 : set d δ = some δ1) (h3 : te δ1 π = .ok e π3) (hz : acc.length < sizeLine) : lcLoopX s set mYes te δ (k + 1) i acc π = lcLoopX s set mYes te δ k (i + 1) (acc ++ [e]) π3 := by
  show (match s.get π i with | none => _ | some d => _) = _
  rw [h1]
  dsimp only
  rw [h2]
  dsimp only
  rw [mYes_ap]
  dsimp only
  rw [if_pos rfl, h3]
  dsimp only
  rw [if_pos hz]
theorem lcX_exc {s : Src} {set : SetD} {te : M D} {δ δ1 : MI.Env} {k i : Nat} {acc : List D} {π π3 : PH} {d : D} {x : Xc} (h1 : s.get π i = some d) (h2 : set d δ = some δ1) (h3 : te δ1 π = .exc x π3) : lcLoopX s set mYes te δ (k + 1) i acc π = .exc x π3 := by
  show (match s.get π i with | none => _ | some d => _) = _
  rw [h1]
  dsimp only
  rw [h2]
  dsimp only
  rw [mYes_ap]
  dsimp only
  rw [if_pos rfl, h3]
theorem lcX_end {s : Src} {set : SetD} {te : M D} {δ : MI.Env} {i : Nat} {acc : List D} {π : PH} (h : s.fin π = true) : lcLoopX s set mYes te δ 0 i acc π = .ok acc π := if_pos h
def logEnd (π e : PH) : Except (Nat × Nat) (List D) → Res (List D)
  | .ok l => .ok l (π ++ e)
  | .error p => .exc (excR p.1 p.2) (π ++ e)
theorem tab_app {π e : PH} {i : Nat} {o : O} (h : π[i]? = some o) : (π ++ e)[i]? = some o := by
  rw [List.getElem?_append_left (List.getElem?_eq_some_iff.mp h).1]; exact h
def logElt : M D := (mMeth 10 "step_written" 1 [] F_StepReader_step_written (mArgs (fMakeF 10 2 [] F_StepReader___init__) (mCons (mVar 1) (mCons (mBM "str" (fSplit false) (mVar 2) (mCons (mC (.str " ")) (mNil))) (mNil)))) mNil)
theorem logElt_ok (d0 : D) (i : Nat) (s : Str) (h : Ok s) (π : PH) (hT : π[0]? = some (.tbl "StepReader.step_written.<locals>.<lambda>")) : ∃ e, logElt [some d0, some (.int i), some (.str s)] π = resOf i (rowDue (Txt.split s (ch 32))) (π ++ e) := by
  obtain ⟨w0, ws, e, hn, hw⟩ := h.split
  have hs := h.2
  have hsp := fSplit_ch 32 (by decide) s (by omega) π " " rfl
  obtain ⟨e', he⟩ := written_ok i w0 ws π hT hn hw
  refine ⟨e', ?_⟩
  unfold logElt
  rw [e] at hsp ⊢
  have hm := make_ok i (w0 :: ws) π
  rw [List.map_cons] at hm hsp
  simp_arith [hsp, hm, recv_sw, he]
theorem log_loop (d0 : D) (src : Src) (rows : List Str) (hr : ∀ s ∈ rows, Ok s) (hn : rows.length < sizeLine) (π : PH) (hT : π[0]? = some (.tbl "StepReader.step_written.<locals>.<lambda>"))
    (hg : ∀ i s, rows[i]? = some s → ∀ e, src.get (π ++ e) i = some (.tup [.int (i : Nat), .str s])) (hf : ∀ e, src.fin (π ++ e) = true) :
    ∀ (l : List Str) (i : Nat) (acc : List D) (e : PH), rows.drop i = l → acc.length ≤ i → ∃ e', lcLoopX src (setT [1, 2]) mYes logElt [some d0, none, none] l.length i acc (π ++ e) = logEnd π e' (logGo i acc l) := by
  intro l
  induction l with
  | nil =>
    intro i acc e _ _
    exact ⟨e, lcX_end (hf e)⟩
  | cons s r ih =>
    intro i acc e hd hi
    have hlt : i < rows.length := by
      by_cases h : i < rows.length
      · exact h
      · rw [List.drop_eq_nil_of_le (by omega)] at hd; cases hd
    have hx : rows[i]? = some s := by rw [← List.head?_drop, hd]; rfl
    have hs := hr s (List.mem_of_getElem? hx)
    obtain ⟨e1, he1⟩ := logElt_ok d0 i s hs (π ++ e) (tab_app hT)
    rw [List.length_cons]
    unfold logGo
    cases er : rowDue (Txt.split s (ch 32)) with
    | ok d =>
      rw [er] at he1
      rw [List.append_assoc] at he1
      obtain ⟨e2, he2⟩ := ih (i + 1) (acc ++ [d]) (e ++ e1) (by rw [← List.drop_drop, hd]; rfl) (by simp; omega)
      exact ⟨e2, by rw [lcX_nx (hg i s hx e) rfl he1 (by omega), he2]⟩
    | error k =>
      rw [er] at he1
      rw [List.append_assoc] at he1
      exact ⟨e ++ e1, by rw [lcX_exc (hg i s hx e) rfl he1]; rfl⟩
def logRes (π e : PH) : Except (Nat × Nat) (List D) → Res D
  | .ok l => .ok (.tup l) (π ++ e)
  | .error p => .exc (excR p.1 p.2) (π ++ e)
theorem read_log_gen (d0 : D) (src : Src) (rows : List Str) (hr : ∀ s ∈ rows, Ok s) (hn : rows.length < sizeLine) (π : PH) (hT : π[0]? = some (.tbl "StepReader.step_written.<locals>.<lambda>")) (h1 : fEnu1 [d0] π = .ok src π) (hl : src.len = rows.length)
    (hg : ∀ i s, rows[i]? = some s → ∀ e, src.get (π ++ e) i = some (.tup [.int (i : Nat), .str s])) (hf : ∀ e, src.fin (π ++ e) = true) : ∃ e, F_read_log [d0] π = logRes π e (logGo 0 [] rows) := by
  obtain ⟨e, he⟩ := log_loop d0 src rows hr hn π hT hg hf rows 0 [] [] rfl (Nat.le_refl _)
  rw [List.append_nil] at he
  refine ⟨e, ?_⟩
  have hx : mLcX false [1, 2] (mSrcA fEnu1 (mCons (mVar 0) (mNil))) (setT [1, 2]) mYes logElt [some d0, none, none] π = (logEnd π e (logGo 0 [] rows)).bind fun ds π2 => alloc false ds π2 := by
    unfold mLcX
    have h2 : mSrcA fEnu1 (mCons (mVar 0) (mNil)) [some d0, none, none] π = .ok src π := by simp_arith [mSrcA_ap, h1]
    rw [h2, bind_ok, hl]
    show (lcLoopX src (setT [1, 2]) mYes logElt [some d0, none, none] rows.length 0 [] π).bind _ = _
    rw [he]
  have hx' := hx
  unfold logElt at hx'
  unfold F_read_log runB m_read_log
  simp_arith [hx']
  cases logGo 0 [] rows with
  | ok l => rfl
  | error p => rfl
theorem read_log_lst (rows : List Str) (hr : ∀ s ∈ rows, Ok s) (hn : rows.length < sizeLine) (π : PH) (hT : π[0]? = some (.tbl "StepReader.step_written.<locals>.<lambda>")) : ∃ e, F_read_log [.lst (rows.map D.str)] π = logRes π e (logGo 0 [] rows) := by
  refine read_log_gen _ (.enu 0 (.fix (rows.map D.str))) rows hr hn π hT rfl (by show (rows.map D.str).length = _; simp) (fun i s h e => ?_) (fun e => rfl)
  show ((rows.map D.str)[i]?).map _ = _
  rw [List.getElem?_map, h]
  simp
theorem read_log_ref (r : Nat) (rows : List Str) (hr : ∀ s ∈ rows, Ok s) (hn : rows.length < sizeLine) (π : PH) (hT : π[0]? = some (.tbl "StepReader.step_written.<locals>.<lambda>")) (hp : π[r]? = some (.lst (rows.map D.str))) : ∃ e, F_read_log [.ref r] π = logRes π e (logGo 0 [] rows) := by
  have h1 : fEnu1 [.ref r] π = .ok (.enu 0 (.mut r rows.length)) π := by
    show opt (lsOf π (.ref r)) (fun _ => opt (srcOf π (.ref r)) fun s => Res.ok (Src.enu 0 s) π) = _
    rw [show lsOf π (.ref r) = some (rows.map D.str) by show (match π[r]? with | some (.lst ds) => some ds | _ => none) = _; rw [hp], opt_some,
      show srcOf π (.ref r) = some (.mut r rows.length) by show (match π[r]? with | some (.lst ys) => some (Src.mut r ys.length) | _ => none) = _; rw [hp]; simp]
    rfl
  refine read_log_gen _ _ rows hr hn π hT h1 rfl (fun i s h e => ?_) (fun e => ?_)
  · show (Src.get (π ++ e) i (.mut r rows.length)).map _ = _
    rw [show Src.get (π ++ e) i (.mut r rows.length) = some (.str s) by
      show (match (π ++ e)[r]? with | some (.lst ys) => if ys.length = rows.length then ys[i]? else none | _ => none) = _
      rw [tab_app hp]
      dsimp only
      rw [if_pos (by simp), List.getElem?_map, h]; rfl]
    simp
  · show (match (π ++ e)[r]? with | some (.lst ys) => decide (ys.length = rows.length) | _ => false) = true
    rw [tab_app hp]
    simp
def logBody : MS := (sThen (sSet 3 (mArgs (fCall 2 [] F__law_row_due) (mCons (mOp fIx (mVar 0) (mVar 2)) (mCons (mVar 2) (mNil))))) (sThen (sIf (mB (mOp (fEqS true) (mOp fIx (mVar 3) (mC (.int 0))) (mC (.str "told")))) (sRet (mVar 3)) (sNx)) (sExpr (mBM "list" (fAppend) (mVar 1) (mCons (mOp fIx (mVar 3) (mC (.int 1))) (mNil))))))
def logD : Except (Nat × Nat) (List D) → D
  | .ok l => .tup [.str "told", .tup l]
  | .error p => .tup [.str "no", .str "text", .int p.1, .int p.2]
def ldEnd (δ : MI.Env) (r : Nat) (π : PH) (f : List D → PH) (e : PH) : Except (Nat × Nat) (List D) → SRes
  | .ok l => .nx δ (f l)
  | .error p => .ret (logD (.error p)) (π ++ e)
theorem ix_ref {π : PH} {r : Nat} {l : List D} (h : π[r]? = some (.lst l)) (i : Int) : fIx (.ref r) (.int i) π = opt (atI l i) fun e => .ok e π := by
  show opt (sqOf π (.ref r)) _ = _
  rw [show sqOf π (.ref r) = some l by show (match π[r]? with | some (.lst ds) => some ds | _ => none) = _; rw [h], opt_some]
theorem len_ref {π : PH} {r : Nat} {l : List D} (h : π[r]? = some (.lst l)) : fLen [.ref r] π = .ok (.int l.length) π := by
  show opt (sqOf π (.ref r)) _ = _
  rw [show sqOf π (.ref r) = some l by show (match π[r]? with | some (.lst ds) => some ds | _ => none) = _; rw [h], opt_some]
theorem tyB_ref {π : PH} {r : Nat} {l : List D} (h : π[r]? = some (.lst l)) : tyB "list" π (.ref r) = true := by
  show (decide ("list" = "list") && (lsOf π (.ref r)).isSome) = true
  rw [show lsOf π (.ref r) = some l by show (match π[r]? with | some (.lst ds) => some ds | _ => none) = _; rw [h]]; rfl
theorem append_ref {π : PH} {r : Nat} {l : List D} (h : π[r]? = some (.lst l)) (d : D) (hz : l.length < sizeLine) : fAppend (.ref r) [d] π = .ok .non (π.set r (.lst (l ++ [d]))) := by
  show (match π[r]? with | some (.lst xs) => if xs.length < sizeLine then Res.ok D.non (π.set r (.lst (xs ++ [d]))) else .stuck | _ => .stuck) = _
  rw [h]
  dsimp only
  rw [if_pos hz]
theorem tup_ref {π : PH} {r : Nat} {l : List D} (h : π[r]? = some (.lst l)) : fTup [.ref r] π = .ok (.tup l) π := by
  show opt (sqOf π (.ref r)) _ = _
  rw [show sqOf π (.ref r) = some l by show (match π[r]? with | some (.lst ds) => some ds | _ => none) = _; rw [h], opt_some]
theorem mid_get (π e : PH) (o : O) : (π ++ o :: e)[π.length]? = some o := by simp
theorem mid_set (π e : PH) (o o' : O) : (π ++ o :: e).set π.length o' = π ++ o' :: e := by simp
theorem due_loop (r : Nat) (rows : List Str) (hr : ∀ s ∈ rows, Ok s) (hn : rows.length < sizeLine) (π : PH) (hp : π[r]? = some (.lst (rows.map D.str))) :
    ∀ (l : List Str) (i : Nat) (acc : List D) (e : PH) (x2 x3 : Option D), rows.drop i = l → acc.length ≤ i → ∃ δ' e', forLoop (.fix (rngD 0 rows.length)) (setN 2) logBody l.length i [some (.ref r), some (.ref π.length), x2, x3] (π ++ .lst acc :: e) =
      ldEnd ([some (.ref r), some (.ref π.length)] ++ δ') π.length π (fun l => π ++ .lst l :: e') e' (logGo i acc l) := by
  intro l
  induction l with
  | nil =>
    intro i acc e x2 x3 _ _
    exact ⟨[x2, x3], e, forLoop_end rfl⟩
  | cons s t ih =>
    intro i acc e x2 x3 hd hi
    have hlt : i < rows.length := by
      by_cases h : i < rows.length
      · exact h
      · rw [List.drop_eq_nil_of_le (by omega)] at hd; cases hd
    have hx : rows[i]? = some s := by rw [← List.head?_drop, hd]; rfl
    have hs := hr s (List.mem_of_getElem? hx)
    have hget := rng_get rows.length i hlt (π ++ .lst acc :: e)
    have hset : setN 2 (.int (i : Nat)) [some (.ref r), some (.ref π.length), x2, x3] = some [some (.ref r), some (.ref π.length), some (.int (i : Nat)), x3] := rfl
    obtain ⟨e1, he1⟩ := row_due_ok s hs i (π ++ .lst acc :: e)
    have e3 : π ++ O.lst acc :: e ++ e1 = π ++ O.lst acc :: (e ++ e1) := by simp
    rw [e3] at he1
    have hix : fIx (.ref r) (.int (i : Nat)) (π ++ .lst acc :: e) = .ok (.str s) (π ++ .lst acc :: e) := by
      rw [ix_ref (tab_app hp), atI_n, List.getElem?_map, hx]; rfl
    rw [List.length_cons]
    unfold logGo
    cases er : rowDue (Txt.split s (ch 32)) with
    | ok d =>
      rw [er] at he1
      obtain ⟨δ', e2, he2⟩ := ih (i + 1) (acc ++ [d]) (e ++ e1) (some (.int (i : Nat))) (some (resultD i (.ok d))) (by rw [← List.drop_drop, hd]; rfl) (by simp; omega)
      refine ⟨δ', e2, ?_⟩
      have hap := append_ref (mid_get π (e ++ e1) (.lst acc)) d (by omega)
      rw [mid_set] at hap
      have hty := tyB_ref (mid_get π (e ++ e1) (.lst acc))
      rw [forLoop_nx hget hset (δ2 := [some (.ref r), some (.ref π.length), some (.int (i : Nat)), some (resultD i (.ok d))]) (π2 := π ++ .lst (acc ++ [d]) :: (e ++ e1)), he2]
      unfold logBody
      simp_arith [hix, he1, resultD, show (("told" : Str) == ("told" : Str)) = true by decide +kernel, hty, hap]
    | error k =>
      rw [er] at he1
      refine ⟨[], .lst acc :: (e ++ e1), ?_⟩
      refine forLoop_ret hget hset ?_
      unfold logBody
      simp_arith [hix, he1, resultD, show (("no" : Str) == ("told" : Str)) = false by decide +kernel]
      rfl
theorem log_due_ok (r : Nat) (rows : List Str) (hr : ∀ s ∈ rows, Ok s) (hn : rows.length < sizeLine) (π : PH) (hp : π[r]? = some (.lst (rows.map D.str))) : ∃ e, F__law_log_due [.ref r] π = .ok (logD (logGo 0 [] rows)) (π ++ e) := by
  obtain ⟨δ', e, he⟩ := due_loop r rows hr hn π hp rows 0 [] [] none none rfl (Nat.le_refl _)
  have hfor : sFor (mSrcA fRng1 (mCons (mArgs fLen (mCons (mVar 0) (mNil))) (mNil))) (setN 2) logBody [some (.ref r), some (.ref π.length), none, none] (π ++ [.lst []]) = ldEnd ([some (.ref r), some (.ref π.length)] ++ δ') π.length π (fun l => π ++ .lst l :: e) e (logGo 0 [] rows) := by
    rw [← he, sFor_ap]
    have hln := len_ref (tab_app (e := [O.lst []]) hp)
    rw [List.length_map] at hln
    have hrr := rng_ok rows.length (Nat.lt_trans hn line_lt) (π ++ [.lst []])
    simp_arith [mSrcA_ap, hln, hrr, rng_len]
  have hfor' := hfor
  unfold logBody at hfor'
  unfold F__law_log_due runB m__law_log_due
  simp_arith [hfor']
  cases logGo 0 [] rows with
  | ok l =>
    refine ⟨.lst l :: e, ?_⟩
    unfold ldEnd
    simp_arith [tup_ref (mid_get π e (.lst l))]
    rfl
  | error p => exact ⟨e, rfl⟩
end LW

set_option Elab.async false
set_option linter.all false
set_option maxRecDepth 100000
set_option maxHeartbeats 4000000
/-! What _law_said makes of a call. -/
namespace LW
open PySem L2 MI TL
theorem law_error_ok (row k : Int) (π : PH) : F__law_error [.exv 8 [("row", .int row), ("field", .int k)]] π = .ok (.tup [.str "no", .str "text", .int row, .int k]) π := by rfl
def saidRes : Res D → Res D
  | .ok d π => .ok (.tup [.str "told", d]) π
  | .exc ⟨8, [(_, a), (_, b)]⟩ π => .ok (.tup [.str "no", .str "text", a, b]) π
  | _ => .stuck
theorem said_ok (ask : PH → Res D) (π π' : PH) (d : D) (h : ask π = .ok d π') : R__law_said ask π = .ok (.tup [.str "told", d]) π' := by
  have e2 : mAsk 0 0 0 "" [] [] ask [some (.clo 0 0 "" [] []), some .non, none] π = ask π := mAsk_of rfl
  unfold R__law_said runB m__law_said
  simp_arith [e2, h, show ∀ (cau : Nat → Option Bool) (i j : Nat) (mb : MS) (δ : MI.Env) (π : PH), sTry cau i j mb δ π = (match mb δ π with
    | .exc x δ1 π1 => match cau x.c with
      | some true => .nx (((δ1.set i none).set j (some (.exv x.c x.fs))).set i none) π1
      | some false => .exc x δ1 π1
      | none => .stuck
    | r => r) from fun _ _ _ _ _ _ => rfl]
theorem said_exc (ask : PH → Res D) (π π' : PH) (row k : Int) (h : ask π = .exc (excR row k) π') : R__law_said ask π = .ok (.tup [.str "no", .str "text", .int row, .int k]) π' := by
  have e2 : mAsk 0 0 0 "" [] [] ask [some (.clo 0 0 "" [] []), some .non, none] π = ask π := mAsk_of rfl
  have e3 := law_error_ok row k π'
  unfold R__law_said runB m__law_said
  simp_arith [e2, h, excR, show cau_CentError 8 = some true from rfl, e3, show ∀ (cau : Nat → Option Bool) (i j : Nat) (mb : MS) (δ : MI.Env) (π : PH), sTry cau i j mb δ π = (match mb δ π with
    | .exc x δ1 π1 => match cau x.c with
      | some true => .nx (((δ1.set i none).set j (some (.exv x.c x.fs))).set i none) π1
      | some false => .exc x δ1 π1
      | none => .stuck
    | r => r) from fun _ _ _ _ _ _ => rfl]
theorem mSaid_ok {t n i : Nat} {q : Str} {ml : M D} {R : (PH → Res D) → PH → Res D} {δ : MI.Env} {π : PH} {d : D} (h1 : π[t]? = some (.tbl q)) (h2 : δ[i]? = some (some d)) : mSaid t q [i] n ml R δ π = noX (R (askE n [i] ml [d]) π) := by
  unfold mSaid
  rw [h1]
  dsimp only
  rw [decide_eq_true rfl, when_true]
  have e : capt δ [i] = some [d] := by
    unfold capt capt
    rw [h2]
  rw [e, opt_some]
/-- a step read by both -/
theorem said_step (s : Str) (h : Ok s) (ask : PH → Res D) (π : PH) (e : PH) (ha : ask π = resOf 0 (rowDue (Txt.split s (ch 32))) (π ++ e)) : noX (R__law_said ask π) = .ok (resultD 0 (rowDue (Txt.split s (ch 32)))) (π ++ e) := by
  cases er : rowDue (Txt.split s (ch 32)) with
  | ok d => rw [er] at ha; rw [said_ok ask π _ d ha]; rfl
  | error k => rw [er] at ha; rw [said_exc ask π _ 0 k ha]; rfl
theorem said_log (x : Except (Nat × Nat) (List D)) (ask : PH → Res D) (π : PH) (e : PH) (ha : ask π = logRes π e x) : noX (R__law_said ask π) = .ok (logD x) (π ++ e) := by
  cases x with
  | ok l => rw [said_ok ask π _ _ ha]; rfl
  | error p => rw [said_exc ask π _ p.1 p.2 ha]; rfl
def rz (rows : List Str) : Nat := 310 * ((rows.map (·.length)).sum + rows.length) + 20 * rows.length
theorem logGo_gd : ∀ (rows : List Str) (i : Nat) (acc : List D) (z : Nat) (l : List D), (∀ s ∈ rows, Ok s) → Gds 12 z acc → logGo i acc rows = .ok l → Gds 12 (z + rz rows) l := by
  intro rows
  induction rows with
  | nil =>
    intro i acc z l _ h e
    simp only [logGo] at e
    cases e
    exact h.mono (Nat.le_refl _) (by omega)
  | cons s r ih =>
    intro i acc z l hr h e
    unfold logGo at e
    have hs := hr s List.mem_cons_self
    cases er : rowDue (Txt.split s (ch 32)) with
    | error k => rw [er] at e; cases e
    | ok d =>
      rw [er] at e
      have := ih _ _ _ _ (fun x hx => hr x (List.mem_cons_of_mem _ hx)) (h.app (Gds.cons (rowDue_gd s hs er) (Gds.nil 12))) e
      refine this.mono (Nat.le_refl _) ?_
      unfold rz
      simp only [List.map_cons, List.sum_cons, List.length_cons]
      omega
theorem logGo_err : ∀ (rows : List Str) (i : Nat) (acc : List D) (p : Nat × Nat), (∀ s ∈ rows, Ok s) → logGo i acc rows = .error p → p.1 ≤ i + rows.length ∧ p.2 ≤ sizeLine := by
  intro rows
  induction rows with
  | nil => intro i acc p _ e; simp only [logGo] at e; cases e
  | cons s r ih =>
    intro i acc p hr e
    unfold logGo at e
    have hs := hr s List.mem_cons_self
    rw [List.length_cons]
    cases er : rowDue (Txt.split s (ch 32)) with
    | error k =>
      rw [er] at e
      cases e
      have := rowDue_err s hs er
      have := hs.2
      exact ⟨by omega, by show k ≤ _; omega⟩
    | ok d =>
      rw [er] at e
      have := ih _ _ _ (fun x hx => hr x (List.mem_cons_of_mem _ hx)) e
      exact ⟨by omega, this.2⟩
theorem logD_gd (rows : List Str) (hr : ∀ s ∈ rows, Ok s) (hn : rows.length < sizeLine) : Gd 14 (rz rows + 400) (logD (logGo 0 [] rows)) := by
  have hz : sizeLine = 16777216 := rfl
  cases e : logGo 0 [] rows with
  | ok l =>
    exact (Gd.tup (Gds.cons ((Gd.str (asc_lit "told" (by decide +kernel))).mono (Nat.zero_le 13) (Nat.le_refl _)) (Gds.cons (Gd.tup (logGo_gd rows 0 [] 0 l hr (Gds.nil 12) e)) (Gds.nil 13)))).mono (Nat.le_refl _) (by
      have : ("told" : Str).length = 4 := by decide +kernel
      omega)
  | error p =>
    have hp := logGo_err rows 0 [] p hr e
    exact (Gd.tup (Gds.cons (Gd.str (asc_lit "no" (by decide +kernel))) (Gds.cons (Gd.str (asc_lit "text" (by decide +kernel))) (Gds.cons (Gd.int (i := (p.1 : Int)) (by omega) (by omega)) (Gds.cons (Gd.int (i := (p.2 : Int)) (by omega) (by omega)) (Gds.nil 0)))))).mono (by omega) (by
      have : ("no" : Str).length = 2 := by decide +kernel
      have : ("text" : Str).length = 4 := by decide +kernel
      omega)
end LW

set_option Elab.async false
set_option linter.all false
set_option maxRecDepth 100000
set_option maxHeartbeats 4000000
/-! Draws. -/
namespace LW
open PySem L2 MI TL
theorem pds_ints : ∀ ns : List Int, pds (ns.map D.int) = some (ns.map PyData.int)
  | [] => by simp [pds]
  | n :: ns => by rw [List.map_cons, List.map_cons]; simp only [pds, pd, pds_ints ns]
theorem can_ints : ∀ ns : List Int, PyData.canLayAll0 (ns.map PyData.int) = true
  | [] => by simp [PyData.canLayAll0]
  | n :: ns => by rw [List.map_cons]; simp only [PyData.canLayAll0, PyData.canLay0, can_ints ns, Bool.and_true]
theorem dep_ints : ∀ ns : List Int, PyData.depthAll (ns.map PyData.int) = 0
  | [] => by simp [PyData.depthAll]
  | n :: ns => by rw [List.map_cons]; simp only [PyData.depthAll, PyData.depth, dep_ints ns]; rfl
theorem eqS_ints (ns : List Int) (neg : Bool) (π : PH) : fEqS neg (.lst (ns.map D.int)) (.lst []) π = .ok (.bl (ns.isEmpty != neg)) π := by
  have e1 : pdH π (.lst (ns.map D.int)) = some (.list (ns.map PyData.int)) := by
    show pd _ = _
    simp only [pd, pds_ints, Option.map_some]
  have e2 : pdH π (.lst []) = some (.list []) := by
    show pd _ = _
    simp only [pd, pds, Option.map_some]
  have s1 : SeqAt.shaped (.list (ns.map PyData.int)) = true := by
    unfold SeqAt.shaped
    simp only [PyData.canLay0, can_ints, PyData.depth, dep_ints, Bool.true_and]
    rfl
  show opt (eqD π _ _) _ = _
  unfold eqD
  rw [e1, e2]
  dsimp only
  rw [if_pos ⟨s1, by decide⟩, opt_some]
  cases ns <;> rfl
theorem fMulS_int (i j : Int) (hi : i.natAbs < 2 ^ 64) (hj : j.natAbs < 2 ^ 64) (π : PH) : fMulS (.int i) (.int j) π = .ok (.int (i * j)) π := by
  show when_ (cMul i j) (Res.ok (D.int (i * j)) π) = _
  have l : ∀ n : Nat, n < 2 ^ 64 → n.log2 < 64 := fun n h => by
    by_cases h0 : n = 0
    · subst h0; decide
    · exact (Nat.log2_lt h0).mpr h
  rw [show cMul i j = true from decide_eq_true (by have := l _ hi; have := l _ hj; omega)]
  rfl
theorem fPow_lit (i : Int) (k : Nat) (hi : i.natAbs < 2 ^ 64) (hk : k ≤ 1000) (π : PH) : fPow (.int i) (.int (k : Nat)) π = .ok (.int (i ^ k)) π := by
  show when_ (cPow i k) (Res.ok (D.int (i ^ ((k : Nat) : Int).toNat)) π) = _
  rw [show cPow i k = true by
    unfold cPow
    rw [Bool.and_eq_true, Bool.and_eq_true]
    exact ⟨⟨decide_eq_true (by omega), decide_eq_true (by omega)⟩, decide_eq_true (by omega)⟩, Int.toNat_natCast]
  rfl
/-- the source stands, with at most C draws -/
def srcO (ns : List Int) (at_ rest cnt : Int) : O := .lst [.lst (ns.map D.int), .int at_, .int rest, .int cnt]
def SrcOk (C : Nat) (π : PH) : Prop := ∃ (ns : List Int) (at_ rest cnt : Int), π[2]? = some (srcO ns at_ rest cnt) ∧ 0 ≤ at_ ∧ 0 ≤ cnt ∧ cnt ≤ C
theorem put_set {π : PH} (h : 2 < π.length) (xs : List D) (i : Int) (v : D) : fPut (.ref 2) (.int i) v (π.set 2 (.lst xs)) = (ixN xs.length i).map fun j => π.set 2 (.lst (xs.set j v)) := by
  show (match (π.set 2 (.lst xs))[2]? with | some (.lst ys) => (ixN ys.length i).map fun j => (π.set 2 (.lst xs)).set 2 (.lst (ys.set j v)) | _ => none) = _
  rw [List.getElem?_set_self h]
  dsimp only
  congr 1
  funext j
  rw [List.set_set]
theorem ix_set {π : PH} (h : 2 < π.length) (xs : List D) (i : Int) : fIx (.ref 2) (.int i) (π.set 2 (.lst xs)) = opt (atI xs i) fun e => .ok e (π.set 2 (.lst xs)) := ix_ref (by rw [List.getElem?_set_self h]) i
theorem at4_0 (a b c d : D) : atI [a, b, c, d] 0 = some a := rfl
theorem at4_1 (a b c d : D) : atI [a, b, c, d] 1 = some b := rfl
theorem at4_2 (a b c d : D) : atI [a, b, c, d] 2 = some c := rfl
theorem at4_3 (a b c d : D) : atI [a, b, c, d] 3 = some d := rfl
theorem mod_range (x m : Int) (h : 0 < m) : 0 ≤ x % m ∧ x % m < m := ⟨Int.emod_nonneg _ (by omega), Int.emod_lt_of_pos _ h⟩
theorem draw_set {π : PH} (h : 2 < π.length) (ns : List Int) (at_ rest cnt many : Int) (h0 : 0 ≤ at_) (h1 : 0 ≤ cnt) (h2 : cnt < 1000000) (hm : 0 < many) (hm2 : many < 10 ^ 61) :
    ∃ v at' rest', 0 ≤ v ∧ v < many ∧ 0 ≤ at' ∧ F__law_draw [.ref 2, .int many] (π.set 2 (srcO ns at_ rest cnt)) = .ok (.int v) (π.set 2 (srcO ns at' rest' (cnt + 1))) := by
  have hml : many.natAbs.log2 < 9000 := Nat.lt_trans (log_ok hm hm2) (by decide)
  unfold F__law_draw runB m__law_draw srcO
  simp_arith [sPut_ap, put_set h, ix_set h, at4_0, at4_1, at4_2, at4_3, show ∀ n : Nat, n = 4 → ixN n 3 = some 3 from fun n e => by subst e; rfl, show ixN 4 3 = some 3 from rfl, show ixN 4 2 = some 2 from rfl, show ixN 4 1 = some 1 from rfl, Option.map_some, fMod_pos _ _ hm, fDiv_pos _ _ hm hml]
  by_cases hr : 0 < rest
  · refine ⟨rest % many, at_, rest / many, (mod_range _ _ hm).1, (mod_range _ _ hm).2, h0, ?_⟩
    simp_arith [hr, decide_true, sPut_ap, put_set h, ix_set h, at4_0, at4_1, at4_2, at4_3, show ixN 4 3 = some 3 from rfl, show ixN 4 2 = some 2 from rfl, show ixN 4 1 = some 1 from rfl, Option.map_some, fMod_pos _ _ hm, fDiv_pos _ _ hm hml]
  · simp_arith [hr, decide_false, sPut_ap, put_set h, ix_set h, at4_0, at4_1, at4_2, at4_3, show ixN 4 3 = some 3 from rfl, show ixN 4 2 = some 2 from rfl, show ixN 4 1 = some 1 from rfl, Option.map_some, fMod_pos _ _ hm, fDiv_pos _ _ hm hml, eqS_ints, List.length_map]
    have cell : ∃ c : Int, (if (!ns.isEmpty) = true then (fMod (.int at_) (.int (ns.length : Nat)) (π.set 2 (.lst [.lst (ns.map D.int), .int (at_ + 1), .int rest, .int (cnt + 1)]))).bind (fun e π2 => fIx (.lst (ns.map D.int)) e π2) else Res.ok (.int 337) (π.set 2 (.lst [.lst (ns.map D.int), .int (at_ + 1), .int rest, .int (cnt + 1)]))) = .ok (.int c) (π.set 2 (.lst [.lst (ns.map D.int), .int (at_ + 1), .int rest, .int (cnt + 1)])) := by
      cases ns with
      | nil => exact ⟨337, rfl⟩
      | cons n ns =>
        have hl : (0 : Int) < (((n :: ns).length : Nat) : Int) := by rw [List.length_cons]; omega
        have hr2 := mod_range at_ _ hl
        obtain ⟨k, hk⟩ := Int.eq_ofNat_of_zero_le hr2.1
        have hk2 : k < (n :: ns).length := by rw [hk] at hr2; omega
        refine ⟨(n :: ns)[k], ?_⟩
        rw [if_pos (by simp), fMod_pos _ _ hl, bind_ok, hk, fIx_lst, atI_n, List.getElem?_map, List.getElem?_eq_getElem hk2]
        rfl
    obtain ⟨c, hc⟩ := cell
    rw [hc]
    have p18 : ∀ π, fPow (.int 10) (.int 18) π = .ok (.int (10 ^ 18)) π := fun π => fPow_lit 10 18 (by decide) (by decide) π
    have hA : 0 ≤ c % 1999999943 ∧ c % 1999999943 < 1999999943 := mod_range _ _ (by decide)
    have m1 : ∀ π, fMod (.int c) (.int 1999999943) π = .ok (.int (c % 1999999943)) π := fun π => fMod_pos _ _ (by decide)
    have m2 : ∀ π, fMulS (.int 50051) (.int (cnt + 1)) π = .ok (.int (50051 * (cnt + 1))) π := fun π => fMulS_int _ _ (by decide) (by omega) π
    have m3 : ∀ π, fPow (.int (c % 1999999943 + 50051 * (cnt + 1) + 71)) (.int 3) π = .ok (.int ((c % 1999999943 + 50051 * (cnt + 1) + 71) ^ 3)) π := fun π => fPow_lit _ 3 (by omega) (by decide) π
    generalize hX : (c % 1999999943 + 50051 * (cnt + 1) + 71) ^ 3 = X at m3
    have m4 : ∀ π, fMod (.int X) (.int 2147483543) π = .ok (.int (X % 2147483543)) π := fun π => fMod_pos _ _ (by decide)
    have hB : 0 ≤ X % 2147483543 ∧ X % 2147483543 < 2147483543 := mod_range _ _ (by decide)
    have m5 : ∀ π, fMulS (.int 6011) (.int (cnt + 1)) π = .ok (.int (6011 * (cnt + 1))) π := fun π => fMulS_int _ _ (by decide) (by omega) π
    have m6 : ∀ π, fMulS (.int (6011 * (cnt + 1))) (.int (cnt + 1)) π = .ok (.int (6011 * (cnt + 1) * (cnt + 1))) π := fun π => fMulS_int _ _ (by omega) (by omega) π
    have hY : 0 ≤ 6011 * (cnt + 1) * (cnt + 1) ∧ 6011 * (cnt + 1) * (cnt + 1) ≤ 6011 * 1000000 * 1000000 :=
      ⟨Int.mul_nonneg (by omega) (by omega), Int.mul_le_mul (by omega) (by omega) (by omega) (by omega)⟩
    generalize 6011 * (cnt + 1) * (cnt + 1) = Y at m6 hY
    have m7 : ∀ π, fPow (.int (X % 2147483543 + Y + 19)) (.int 5) π = .ok (.int ((X % 2147483543 + Y + 19) ^ 5)) π := fun π => fPow_lit _ 5 (by omega) (by decide) π
    generalize hZ : (X % 2147483543 + Y + 19) ^ 5 = Z at m7
    have m8 : ∀ π, fMod (.int Z) (.int 2147483579) π = .ok (.int (Z % 2147483579)) π := fun π => fMod_pos _ _ (by decide)
    have m9 : ∀ π, fDiv (.int (Z % 2147483579)) (.int 256) π = .ok (.int (Z % 2147483579 / 256)) π := fun π => fDiv_pos _ _ (by decide) (by decide)
    have big : ∃ v rest', 0 ≤ v ∧ v < many ∧ ((10 : Int) ^ 18 ≤ c ∧ at_ < ((ns.length : Nat) : Int) → v = c % many ∧ rest' = c / many) ∧ (¬ ((10 : Int) ^ 18 ≤ c ∧ at_ < ((ns.length : Nat) : Int)) → v = Z % 2147483579 / 256 % many ∧ rest' = rest) := by
      by_cases hb : (10 : Int) ^ 18 ≤ c ∧ at_ < ((ns.length : Nat) : Int)
      · exact ⟨_, _, (mod_range _ _ hm).1, (mod_range _ _ hm).2, fun _ => ⟨rfl, rfl⟩, fun z => absurd hb z⟩
      · exact ⟨_, _, (mod_range _ _ hm).1, (mod_range _ _ hm).2, fun z => absurd z hb, fun _ => ⟨rfl, rfl⟩⟩
    obtain ⟨v, rest', hv0, hv1, hv2, hv3⟩ := big
    refine ⟨v, at_ + 1, rest', hv0, hv1, by omega, ?_⟩
    by_cases c1 : (10 : Int) ^ 18 ≤ c
    · by_cases c2 : at_ < ((ns.length : Nat) : Int)
      · obtain ⟨rfl, rfl⟩ := hv2 ⟨c1, c2⟩
        simp_arith [p18, c1, c2, decide_true, ix_set h, sPut_ap, put_set h, at4_0, at4_3, List.length_map, show ixN 4 2 = some 2 from rfl, Option.map_some, fMod_pos _ _ hm, fDiv_pos _ _ hm hml]
      · obtain ⟨rfl, rfl⟩ := hv3 (fun z => c2 z.2)
        simp_arith [p18, c1, c2, decide_true, decide_false, ix_set h, at4_0, at4_3, List.length_map, m1, m2, m3, m4, m5, m6, m7, m8, m9, fMod_pos _ _ hm]
    · obtain ⟨rfl, rfl⟩ := hv3 (fun z => c1 z.1)
      simp_arith [p18, c1, decide_false, ix_set h, at4_0, at4_3, List.length_map, m1, m2, m3, m4, m5, m6, m7, m8, m9, fMod_pos _ _ hm]
theorem draw_ok {C : Nat} {π : PH} (h : SrcOk C π) (hC : C < 1000000) (many : Int) (hm : 0 < many) (hm2 : many < 10 ^ 61) : ∃ v o, 0 ≤ v ∧ v < many ∧ F__law_draw [.ref 2, .int many] π = .ok (.int v) (π.set 2 o) ∧ SrcOk (C + 1) (π.set 2 o) := by
  obtain ⟨ns, at_, rest, cnt, h1, h2, h3, h4⟩ := h
  have hl : 2 < π.length := (List.getElem?_eq_some_iff.mp h1).1
  obtain ⟨v, at', rest', e1, e2, e3, e4⟩ := draw_set hl ns at_ rest cnt many h2 h3 (by omega) hm hm2
  have es : π.set 2 (srcO ns at_ rest cnt) = π := by
    refine List.ext_getElem? fun i => ?_
    rw [List.getElem?_set]
    by_cases hi : 2 = i
    · subst hi; rw [if_pos rfl, if_pos hl, h1]
    · rw [if_neg hi]
  rw [es] at e4
  exact ⟨v, _, e1, e2, e4, ns, at', rest', cnt + 1, by rw [List.getElem?_set_self hl], e3, by omega, by omega⟩
end LW

set_option Elab.async false
set_option linter.all false
set_option maxRecDepth 100000
set_option maxHeartbeats 4000000
/-! Numbers as words. -/
namespace LW
open PySem L2 MI TL
abbrev numS (i : Int) : Str := Str.ofString (toString i)
theorem str_app_empty (s : Str) : s ++ Str.empty = s := ext_tl (by rw [tl_append]; simp [tl, Str.empty])
theorem str_empty_app (s : Str) : Str.empty ++ s = s := ext_tl (by rw [tl_append]; simp [tl, Str.empty])
theorem lit_empty : ("" : Str) = Str.empty := by decide +kernel
theorem numS_neg {i : Int} (h : i < 0) : numS i = ("-" : Str) ++ numS (0 - i) := by
  refine ext_tl ?_
  rw [tl_append]
  show tl (Str.ofString (toString i)) = tl (Str.ofString "-") ++ tl (Str.ofString (toString (0 - i)))
  rw [PyProof.Rows.toString_neg h, tl_ofString, tl_ofString, tl_ofString, String.toList_append, List.map_append]
def Num (i : Int) : Prop := -(10 ^ 60) < i ∧ i < 10 ^ 60
theorem numS_len {i : Int} (h : Num i) : (numS i).length ≤ 62 := toStr_len (by have := h.1; omega) (by have := h.2; omega)
theorem log_num {i : Int} (h : Num i) : i.natAbs.log2 < 1920 := by
  by_cases h0 : i = 0
  · subst h0; decide
  · have e : ((10 : Int) ^ 60) = ((10 ^ 60 : Nat) : Int) := by norm_cast
    obtain ⟨h1, h2⟩ := h
    rw [e] at h1 h2
    rw [Nat.log2_lt (by omega)]
    exact Nat.lt_of_lt_of_le (Nat.lt_trans (show i.natAbs < 10 ^ 60 by omega) (show 10 ^ 60 < 2 ^ 203 by decide)) (Nat.pow_le_pow_right (by decide) (by decide))
theorem mJs_nil (acc : Str) (δ : MI.Env) (π : PH) : mJs [] acc δ π = .ok (.str acc) π := rfl
theorem mJs_cons (m : M D) (ms : List (M D)) (acc : Str) (δ : MI.Env) (π : PH) : mJs (m :: ms) acc δ π = (m δ π).bind fun d π1 => match d with
    | .str y => if (acc ++ y).length ≤ sizeLine then mJs ms (acc ++ y) δ π1 else .stuck
    | _ => .stuck := rfl
theorem fFmt_int {i : Int} (h : Num i) (π : PH) : fFmt (.int i) π = .ok (.str (numS i)) π := by
  show when_ (decide (i.natAbs.log2 < 1920)) _ = _
  rw [decide_eq_true (log_num h)]; rfl
theorem fFmt_str {s : Str} (h : s.length ≤ sizeLine) (π : PH) : fFmt (.str s) π = .ok (.str s) π := by
  show when_ (fitsB s.length) _ = _
  rw [show fitsB s.length = true from decide_eq_true h]; rfl
theorem fStrI_ok {i : Int} (h : Num i) (π : PH) : fStrI [.int i] π = .ok (.str (numS i)) π := by
  show when_ (decide (i.natAbs.log2 < 1920)) _ = _
  rw [decide_eq_true (log_num h)]; rfl
theorem sz : sizeLine = 16777216 := rfl
theorem pow60 (π : PH) : fPow (.int 10) (.int 60) π = .ok (.int (10 ^ 60)) π := fPow_lit 10 60 (by decide) (by decide) π
theorem int_text_pos {i : Int} (h : Num i) (h0 : 0 ≤ i) (n : Nat) (π : PH) : F_integer_text (n + 1) [.int i] π = .ok (.str (numS i)) π := by
  have hl := numS_len h
  have hw : sWh fuel_integer_text_1 (mB (mOp fGe (mVar 0) (mVar 1))) (sThen (sSet 2 ((fun _ _ => .stuck))) (sSet 0 (mOp (fDiv) (mVar 0) (mVar 1)))) [some (.int i), some (.int (10 ^ 60)), some (.str "")] π = .nx [some (.int i), some (.int (10 ^ 60)), some (.str "")] π := by
    show whLoop _ _ (i.natAbs + 1) _ _ = _
    refine whLoop_stop ?_
    simp_arith []
    rw [decide_eq_false (by have := h.2; omega)]
  have e1 : (numS i ++ "" : Str) = numS i := by rw [lit_empty, str_app_empty]
  show runB 3 (m_integer_text (F_integer_text n)) [.int i] π = _
  unfold runB m_integer_text
  have hn : decide (i < 0) = false := decide_eq_false (by omega)
  simp_arith [hn, pow60, hw, mJs_cons, mJs_nil, fFmt_int h, fFmt_str (s := "") (by decide +kernel), str_empty_app, e1, show (numS i).length ≤ sizeLine by rw [sz]; omega, if_true]
theorem int_text_ok {i : Int} (h : Num i) (π : PH) : F_integer_text 2 [.int i] π = .ok (.str (numS i)) π := by
  by_cases h0 : 0 ≤ i
  · exact int_text_pos h h0 1 π
  · have hp := int_text_pos (i := 0 - i) (by constructor <;> have := h.1 <;> have := h.2 <;> omega) (by omega) 0 π
    have hl := numS_len h
    have hl2 := numS_len (i := 0 - i) (by constructor <;> have := h.1 <;> have := h.2 <;> omega)
    show runB 3 (m_integer_text (F_integer_text 1)) [.int i] π = _
    unfold runB m_integer_text
    have hn : decide (i < 0) = true := decide_eq_true (by omega)
    have e := numS_neg (i := i) (by omega)
    have e2 : ("-" ++ numS (0 - i) : Str).length ≤ sizeLine := by rw [← e, sz]; omega
    simp_arith [hn, mJs_cons, mJs_nil, hp, fFmt_str (s := numS (0 - i)) (by rw [sz]; omega), str_empty_app, show ("-" : Str).length ≤ sizeLine by decide +kernel, e2, if_true]
    rw [← e]
def fracS (a b : Int) : Str := if b = 1 then numS a else numS a ++ ("/" : Str) ++ numS b
theorem app_len (a b : Str) : (a ++ b).length = a.length + b.length := Str.length_append a b
theorem frac_text_ok {a b : Int} (ha : Num a) (hb : Num b) (π : PH) : F_fraction_text [.tup [.int a, .int b]] π = .ok (.str (fracS a b)) π := by
  have la := numS_len ha
  have lb := numS_len hb
  have l1 : ("/" : Str).length = 1 := by decide +kernel
  unfold F_fraction_text runB m_fraction_text fracS
  simp_arith []
  by_cases h : b = 1
  · subst h
    simp_arith [show ((1 : Int) == 1) = true from rfl, int_text_ok ha]
  · simp_arith [show (b == 1) = false from beq_eq_false_iff_ne.mpr h, int_text_ok ha, int_text_ok hb, mJs_cons, mJs_nil, fFmt_str (s := numS a) (by rw [sz]; omega), fFmt_str (s := numS b) (by rw [sz]; omega), str_empty_app, show (numS a).length ≤ sizeLine by rw [sz]; omega,
      show (numS a ++ ("/" : Str)).length ≤ sizeLine by rw [sz, app_len]; omega, show (numS a ++ ("/" : Str) ++ numS b).length ≤ sizeLine by rw [sz, app_len, app_len]; omega, if_true]
    rw [if_neg h]
theorem frac_word_ok {a b : Int} (ha : Num a) (hb : Num b) (π : PH) : F__law_frac_word [.tup [.int a, .int b]] π = .ok (.str (fracS a b)) π := by
  have la := numS_len ha
  have lb := numS_len hb
  have l1 : ("/" : Str).length = 1 := by decide +kernel
  unfold F__law_frac_word runB m__law_frac_word fracS
  have fa : ∀ x y : Str, x.length + y.length ≤ sizeLine → fAdd false (.str x) (.str y) π = .ok (.str (x ++ y)) π := fun x y hh => by
    show when_ (fitsB (x.length + y.length)) _ = _
    rw [show fitsB (x.length + y.length) = true from decide_eq_true hh]; rfl
  simp_arith []
  by_cases h : b = 1
  · subst h
    simp_arith [show ((1 : Int) == 1) = true from rfl, fStrI_ok ha]
  · simp_arith [show (b == 1) = false from beq_eq_false_iff_ne.mpr h, fStrI_ok ha, fStrI_ok hb, fa (numS a) "/" (by rw [sz]; omega), fa (numS a ++ ("/" : Str)) (numS b) (by rw [sz, app_len]; omega)]
    rw [if_neg h]
end LW

set_option Elab.async false
set_option linter.all false
set_option maxRecDepth 100000
set_option maxHeartbeats 4000000
/-! Steps and their rows. -/
namespace LW
open PySem L2 MI TL
inductive Stp where
  | add (w : Str) | end_ (w : Str) | withdraw
  | announce (l : List (Str × Int × Int)) | correct (l : List (Str × Int)) | send (l : List Int) | sections (l : List (List Str))
def fracT (p : Str × Int × Int) : D := .tup [.str p.1, .tup [.int p.2.1, .int p.2.2]]
def pairT (p : Str × Int) : D := .tup [.str p.1, .int p.2]
def grpT (g : List Str) : D := .tup (g.map D.str)
def fracW (p : Str × Int × Int) : Str := p.1 ++ (":" : Str) ++ fracS p.2.1 p.2.2
def pairW (p : Str × Int) : Str := p.1 ++ (":" : Str) ++ numS p.2
def grpW (g : List Str) : Str := Txt.join "+" g
def Stp.key : Stp → Str
  | add _ => "add" | end_ _ => "end" | withdraw => "withdraw" | announce _ => "announce" | correct _ => "correct" | send _ => "send" | sections _ => "sections"
def Stp.d : Stp → D
  | add w => .tup [.str "add", .str w]
  | end_ w => .tup [.str "end", .str w]
  | withdraw => .tup [.str "withdraw"]
  | announce l => .tup [.str "announce", .tup (l.map fracT)]
  | correct l => .tup [.str "correct", .tup (l.map pairT)]
  | send l => .tup [.str "send", .tup (l.map D.int)]
  | sections l => .tup [.str "sections", .tup (l.map grpT)]
def Stp.ws : Stp → List Str
  | add w => [w]
  | end_ w => [w]
  | withdraw => []
  | announce l => if l.isEmpty = true then ["-"] else l.map fracW
  | correct l => l.map pairW
  | send l => [if l.isEmpty = true then "-" else Txt.join "," (l.map numS)]
  | sections l => if l.isEmpty = true then ["-"] else l.map grpW
def Stp.row (s : Stp) : Str := Txt.join " " (s.key :: s.ws)
def Good : Stp → Prop
  | .add w => isName w = true
  | .end_ w => isName w = true
  | .withdraw => True
  | .announce l => l.length ≤ 3 ∧ ∀ p ∈ l, isName p.1 = true ∧ 0 ≤ p.2.1 ∧ p.2.1 < 10 ^ 60 ∧ 0 < p.2.2 ∧ p.2.2 < 10 ^ 60
  | .correct l => l.length ≤ 3 ∧ l ≠ [] ∧ ∀ p ∈ l, isName p.1 = true ∧ Num p.2
  | .send l => l.length ≤ 3 ∧ ∀ i ∈ l, 0 ≤ i ∧ i < 10 ^ 60
  | .sections l => l.length ≤ 3 ∧ ∀ g ∈ l, g ≠ [] ∧ g.length ≤ 3 ∧ ∀ w ∈ g, isName w = true
theorem name_len {w : Str} (h : isName w = true) : w.length ≤ 8 := (isName_asc h).2
theorem num_of {i : Int} (h : 0 ≤ i ∧ i < 10 ^ 60) : Num i := ⟨by have := h.1; omega, h.2⟩
theorem fracS_len {a b : Int} (ha : Num a) (hb : Num b) : (fracS a b).length ≤ 130 := by
  have la := numS_len ha
  have lb := numS_len hb
  have l1 : ("/" : Str).length = 1 := by decide +kernel
  unfold fracS
  split
  · omega
  · rw [app_len, app_len]; omega
theorem colon_len : (":" : Str).length = 1 := by decide +kernel
theorem sum_le (l : List Str) (n : Nat) (h : ∀ w ∈ l, w.length ≤ n) : (l.map (·.length)).sum ≤ n * l.length := by
  induction l with
  | nil => simp
  | cons a l ih =>
    have := ih fun w hw => h w (List.mem_cons_of_mem _ hw)
    have := h a List.mem_cons_self
    simp only [List.map_cons, List.sum_cons, List.length_cons, Nat.mul_succ]
    omega
theorem join_len (y : Str) (l : List Str) (n : Nat) (h : ∀ w ∈ l, w.length ≤ n) : (Txt.join y l).length ≤ n * l.length + l.length * y.length := by
  have h1 : (Txt.join y l).length ≤ (l.map (·.length)).sum + l.length * y.length := by rw [show Txt.join y l = Str.join y l from StrLaws.glued_eq_join y l]; exact StrLaws.join_length_le y l
  have := sum_le l n h
  omega
theorem strs_of : ∀ l : List Str, strsOf (l.map D.str) = some l
  | [] => rfl
  | a :: l => by rw [List.map_cons, strsOf, strs_of l]; rfl
theorem fJoin_lst (y : Str) (l : List Str) (π : PH) (h : (l.map (·.length)).sum + l.length * y.length ≤ 16777216) : fJoin (.str y) [.lst (l.map D.str)] π = .ok (.str (Txt.join y l)) π := by
  show opt (sqOf π (.lst (l.map D.str))) (fun xs => opt (strsOf xs) fun ys => when_ (decide ((ys.map (·.length)).sum + ys.length * y.length ≤ 16777216)) (Res.ok (D.str (Txt.join y ys)) π)) = _
  rw [show sqOf π (.lst (l.map D.str)) = some (l.map D.str) from rfl, opt_some, strs_of, opt_some, decide_eq_true h]
  rfl
theorem fJoin_tup (y : Str) (l : List Str) (π : PH) (h : (l.map (·.length)).sum + l.length * y.length ≤ 16777216) : fJoin (.str y) [.tup (l.map D.str)] π = .ok (.str (Txt.join y l)) π := by
  show opt (sqOf π (.tup (l.map D.str))) (fun xs => opt (strsOf xs) fun ys => when_ (decide ((ys.map (·.length)).sum + ys.length * y.length ≤ 16777216)) (Res.ok (D.str (Txt.join y ys)) π)) = _
  rw [show sqOf π (.tup (l.map D.str)) = some (l.map D.str) from rfl, opt_some, strs_of, opt_some, decide_eq_true h]
  rfl
theorem grpW_len {g : List Str} (h : g.length ≤ 3 ∧ ∀ w ∈ g, isName w = true) : (grpW g).length ≤ 30 := by
  have := join_len "+" g 8 (fun w hw => name_len (h.2 w hw))
  have l1 : ("+" : Str).length = 1 := by decide +kernel
  unfold grpW
  rw [l1] at this
  have := h.1
  omega
theorem fracW_len {p : Str × Int × Int} (h : isName p.1 = true ∧ 0 ≤ p.2.1 ∧ p.2.1 < 10 ^ 60 ∧ 0 < p.2.2 ∧ p.2.2 < 10 ^ 60) : (fracW p).length ≤ 140 := by
  have := name_len h.1
  have := fracS_len (a := p.2.1) (b := p.2.2) (num_of ⟨h.2.1, h.2.2.1⟩) (num_of ⟨by omega, h.2.2.2.2⟩)
  have := colon_len
  unfold fracW
  rw [app_len, app_len]
  omega
theorem pairW_len {p : Str × Int} (h : isName p.1 = true ∧ Num p.2) : (pairW p).length ≤ 140 := by
  have := name_len h.1
  have := numS_len h.2
  have := colon_len
  unfold pairW
  rw [app_len, app_len]
  omega
theorem ws_ok (s : Stp) (h : Good s) : s.ws.length ≤ 3 ∧ ∀ w ∈ s.ws, w.length ≤ 200 := by
  have ld : ("-" : Str).length = 1 := by decide +kernel
  cases s with
  | add w => exact ⟨by simp [Stp.ws], fun x hx => by rw [List.mem_singleton.mp hx]; have := name_len h; omega⟩
  | end_ w => exact ⟨by simp [Stp.ws], fun x hx => by rw [List.mem_singleton.mp hx]; have := name_len h; omega⟩
  | withdraw => exact ⟨by simp [Stp.ws], fun x hx => by cases hx⟩
  | announce l =>
    unfold Stp.ws
    dsimp only
    split
    · exact ⟨by simp, fun x hx => by rw [List.mem_singleton.mp hx]; omega⟩
    · refine ⟨by rw [List.length_map]; exact h.1, fun x hx => ?_⟩
      obtain ⟨p, hp, rfl⟩ := List.mem_map.mp hx
      have := fracW_len (h.2 p hp); omega
  | correct l =>
    refine ⟨by show (l.map pairW).length ≤ 3; rw [List.length_map]; exact h.1, fun x hx => ?_⟩
    obtain ⟨p, hp, rfl⟩ := List.mem_map.mp (show x ∈ l.map pairW from hx)
    have := pairW_len (h.2.2 p hp); omega
  | send l =>
    refine ⟨by simp [Stp.ws], fun x hx => ?_⟩
    rw [List.mem_singleton.mp (show x ∈ [if l.isEmpty = true then ("-" : Str) else Txt.join "," (l.map numS)] from hx)]
    split
    · omega
    · have := join_len "," (l.map numS) 62 (fun w hw => by
        obtain ⟨i, hi, rfl⟩ := List.mem_map.mp hw
        exact numS_len (num_of (h.2 i hi)))
      have l1 : ("," : Str).length = 1 := by decide +kernel
      rw [l1, List.length_map] at this
      have := h.1
      omega
  | sections l =>
    unfold Stp.ws
    dsimp only
    split
    · exact ⟨by simp, fun x hx => by rw [List.mem_singleton.mp hx]; omega⟩
    · refine ⟨by rw [List.length_map]; exact h.1, fun x hx => ?_⟩
      obtain ⟨p, hp, rfl⟩ := List.mem_map.mp hx
      have := grpW_len (h.2 p hp).2; omega
theorem key_len (s : Stp) : s.key.length ≤ 8 := by
  cases s with
  | add _ => exact (by decide +kernel : ("add" : Str).length ≤ 8)
  | end_ _ => exact (by decide +kernel : ("end" : Str).length ≤ 8)
  | withdraw => exact (by decide +kernel : ("withdraw" : Str).length ≤ 8)
  | announce _ => exact (by decide +kernel : ("announce" : Str).length ≤ 8)
  | correct _ => exact (by decide +kernel : ("correct" : Str).length ≤ 8)
  | send _ => exact (by decide +kernel : ("send" : Str).length ≤ 8)
  | sections _ => exact (by decide +kernel : ("sections" : Str).length ≤ 8)
theorem sp_len : (" " : Str).length = 1 := by decide +kernel
theorem row_sum (s : Stp) (h : Good s) : ((s.key :: s.ws).map (·.length)).sum + (s.key :: s.ws).length * (" " : Str).length ≤ 700 := by
  obtain ⟨h1, h2⟩ := ws_ok s h
  have := sum_le s.ws 200 h2
  have := key_len s
  rw [sp_len]
  simp only [List.map_cons, List.sum_cons, List.length_cons]
  omega
theorem row_len (s : Stp) (h : Good s) : s.row.length ≤ 700 := by
  refine Nat.le_trans ?_ (row_sum s h)
  show (Txt.join " " (s.key :: s.ws)).length ≤ _
  rw [show Txt.join " " (s.key :: s.ws) = Str.join " " (s.key :: s.ws) from StrLaws.glued_eq_join _ _]
  exact StrLaws.join_length_le _ _
/-! the program's words -/
theorem lc_frac (l : List (Str × Int × Int)) (h : ∀ p ∈ l, isName p.1 = true ∧ 0 ≤ p.2.1 ∧ p.2.1 < 10 ^ 60 ∧ 0 < p.2.2 ∧ p.2.2 < 10 ^ 60) (hl : l.length ≤ 3) (d0 : D) (π : PH) (src : M Src) (hs : src [some d0, none, none, none, none, none] π = .ok (.fix (l.map fracT)) π) :
    mLc false [2, 3] src (setT [2, 3]) mYes (mJs [mUn fFmt (mVar 2), mC (.str ":"), mUn fFmt (mArgs (fCall 1 [] F_fraction_text) (mCons (mVar 3) (mNil)))] Str.empty) [some d0, none, none, none, none, none] π = .ok (.lst ((l.map fracW).map D.str)) π := by
  rw [mLc_fix (set := setT [2, 3]) (fun _ => true) (fun d => match d with | .tup [.str n, .tup [.int a, .int b]] => .str (fracW (n, a, b)) | _ => .non) hs (by rw [List.length_map, sz]; omega), List.filter_eq_self.mpr (by simp), List.map_map, List.map_map]
  · rfl
  · intro d hd
    obtain ⟨p, hp, rfl⟩ := List.mem_map.mp hd
    obtain ⟨n, a, b⟩ := p
    obtain ⟨h1, h2⟩ := h _ hp
    have hf := fracW_len (h _ hp)
    dsimp only at h1 h2
    have hn := name_len h1
    have hfs := fracS_len (a := a) (b := b) (num_of ⟨h2.1, h2.2.1⟩) (num_of ⟨by have := h2.2.2.1; omega, h2.2.2.2⟩)
    refine ⟨[some d0, none, some (.str n), some (.tup [.int a, .int b]), none, none], rfl, rfl, fun _ => ?_⟩
    have l1 := colon_len
    unfold fracW at hf
    dsimp only at hf hn
    rw [mJs_cons]
    simp_arith [mJs_cons, mJs_nil, fFmt_str (s := n) (by rw [sz]; omega), str_empty_app, frac_text_ok (a := a) (b := b) (num_of ⟨h2.1, h2.2.1⟩) (num_of ⟨by have := h2.2.2.1; omega, h2.2.2.2⟩), fFmt_str (s := fracS a b) (by rw [sz]; omega), show n.length ≤ sizeLine by rw [sz]; omega, show (n ++ (":" : Str)).length ≤ sizeLine by rw [sz, app_len]; omega,
      show (n ++ (":" : Str) ++ fracS a b).length ≤ sizeLine by rw [sz]; omega, if_true]
    rfl
theorem lc_pair (l : List (Str × Int)) (h : ∀ p ∈ l, isName p.1 = true ∧ Num p.2) (hl : l.length ≤ 3) (d0 : D) (π : PH) (src : M Src) (hs : src [some d0, none, none, none, none, none] π = .ok (.fix (l.map pairT)) π) :
    mLc false [2, 5] src (setT [2, 5]) mYes (mJs [mUn fFmt (mVar 2), mC (.str ":"), mUn fFmt (mArgs (fCall 1 [] (F_integer_text 2)) (mCons (mVar 5) (mNil)))] Str.empty) [some d0, none, none, none, none, none] π = .ok (.lst ((l.map pairW).map D.str)) π := by
  rw [mLc_fix (set := setT [2, 5]) (fun _ => true) (fun d => match d with | .tup [.str n, .int a] => .str (pairW (n, a)) | _ => .non) hs (by rw [List.length_map, sz]; omega), List.filter_eq_self.mpr (by simp), List.map_map, List.map_map]
  · rfl
  · intro d hd
    obtain ⟨p, hp, rfl⟩ := List.mem_map.mp hd
    obtain ⟨n, a⟩ := p
    obtain ⟨h1, h2⟩ := h _ hp
    have hf := pairW_len (h _ hp)
    dsimp only at h1 h2
    have hn := name_len h1
    have hfs := numS_len h2
    refine ⟨[some d0, none, some (.str n), none, none, some (.int a)], rfl, rfl, fun _ => ?_⟩
    have l1 := colon_len
    unfold pairW at hf
    dsimp only at hf hn hfs
    rw [mJs_cons]
    simp_arith [mJs_cons, mJs_nil, fFmt_str (s := n) (by rw [sz]; omega), str_empty_app, int_text_ok (i := a) h2, fFmt_str (s := numS a) (by rw [sz]; omega), show n.length ≤ sizeLine by rw [sz]; omega, show (n ++ (":" : Str)).length ≤ sizeLine by rw [sz, app_len]; omega,
      show (n ++ (":" : Str) ++ numS a).length ≤ sizeLine by rw [sz]; omega, if_true]
    rfl
theorem lc_num (l : List Int) (h : ∀ i ∈ l, 0 ≤ i ∧ i < 10 ^ 60) (hl : l.length ≤ 3) (d0 : D) (π : PH) (src : M Src) (hs : src [some d0, none, none, none, none, none] π = .ok (.fix (l.map D.int)) π) :
    mLc false [4] src (setN 4) mYes (mArgs (fCall 1 [] (F_integer_text 2)) (mCons (mVar 4) (mNil))) [some d0, none, none, none, none, none] π = .ok (.lst ((l.map numS).map D.str)) π := by
  rw [mLc_map (fun d => match d with | .int a => .str (numS a) | _ => .non) hs (by rw [List.length_map, sz]; omega), List.map_map, List.map_map]
  · rfl
  · intro d hd
    obtain ⟨i, hi, rfl⟩ := List.mem_map.mp hd
    rw [wipe_cons, wipe_nil]
    simp_arith [int_text_ok (num_of (h i hi))]
theorem lc_grp (l : List (List Str)) (h : ∀ g ∈ l, g ≠ [] ∧ g.length ≤ 3 ∧ ∀ w ∈ g, isName w = true) (hl : l.length ≤ 3) (d0 : D) (π : PH) (src : M Src) (hs : src [some d0, none, none, none, none, none] π = .ok (.fix (l.map grpT)) π) :
    mLc false [1] src (setN 1) mYes (mBM "str" (fJoin) (mC (.str "+")) (mCons (mVar 1) (mNil))) [some d0, none, none, none, none, none] π = .ok (.lst ((l.map grpW).map D.str)) π := by
  rw [mLc_map (fun d => match d with | .tup xs => (match strsOf xs with | some g => .str (grpW g) | none => .non) | _ => .non) hs (by rw [List.length_map, sz]; omega), List.map_map, List.map_map]
  · congr 2
    apply List.map_congr_left
    intro g _
    show (match strsOf (g.map D.str) with | some g => D.str (grpW g) | none => .non) = _
    rw [strs_of]; rfl
  · intro d hd
    obtain ⟨g, hg, rfl⟩ := List.mem_map.mp hd
    have hsum := sum_le g 8 (fun w hw => name_len ((h g hg).2.2 w hw))
    have := (h g hg).2.1
    rw [wipe_cons, wipe_nil]
    unfold grpT
    simp_arith [fJoin_tup "+" g π (by rw [show ("+" : Str).length = 1 by decide +kernel]; omega)]
    rw [strs_of]
    rfl
end LW

set_option Elab.async false
set_option linter.all false
set_option maxRecDepth 100000
set_option maxHeartbeats 4000000
/-! The row of a step, by both. -/
namespace LW
open PySem L2 MI TL
theorem orV_lst (l : List D) (π : PH) : truD π (.lst l) = some (!l.isEmpty) := rfl
theorem truD_str (s : Str) (h : s.length ≤ sizeLine) (π : PH) : truD π (.str s) = some ((s.length : Int) != 0) := if_pos h
theorem words_ok (s : Stp) (h : Good s) (π : PH) : F_words_of_step [s.d] π = .ok (.lst (s.ws.map D.str)) π := by
  unfold F_words_of_step runB m_words_of_step
  have p1 : ∀ (a b : Str), (a == b) = true ∨ (a == b) = false := fun a b => by cases (a == b) <;> simp
  cases s with
  | add w => simp_arith [Stp.d, pick_some, pick_none, show ((["withdraw"] : List Str).any (eqW "add")) = false by decide +kernel, show ((["add", "end"] : List Str).any (eqW "add")) = true by decide +kernel]; rfl
  | end_ w => simp_arith [Stp.d, pick_some, pick_none, show ((["withdraw"] : List Str).any (eqW "end")) = false by decide +kernel, show ((["add", "end"] : List Str).any (eqW "end")) = true by decide +kernel]; rfl
  | withdraw => simp_arith [Stp.d, pick_some, pick_none, show ((["withdraw"] : List Str).any (eqW "withdraw")) = true by decide +kernel]; rfl
  | announce l =>
    have hl := lc_frac l h.2 h.1 (.tup [.str "announce", .tup (l.map fracT)]) π (mUn fSrc (mOp fIx (mVar 0) (mC (.int 1)))) (by simp_arith []; rfl)
    simp_arith [Stp.d, pick_some, pick_none, show ((["withdraw"] : List Str).any (eqW "announce")) = false by decide +kernel, show ((["add", "end"] : List Str).any (eqW "announce")) = false by decide +kernel, show ((["sections"] : List Str).any (eqW "announce")) = false by decide +kernel, show ((["announce"] : List Str).any (eqW "announce")) = true by decide +kernel, hl, orV_lst]
    unfold Stp.ws
    cases l with
    | nil => rfl
    | cons p l => simp_arith [List.isEmpty_cons]
  | correct l =>
    have hl := lc_pair l h.2.2 h.1 (.tup [.str "correct", .tup (l.map pairT)]) π (mUn fSrc (mOp fIx (mVar 0) (mC (.int 1)))) (by simp_arith []; rfl)
    simp_arith [Stp.d, pick_some, pick_none, show ((["withdraw"] : List Str).any (eqW "correct")) = false by decide +kernel, show ((["add", "end"] : List Str).any (eqW "correct")) = false by decide +kernel, show ((["sections"] : List Str).any (eqW "correct")) = false by decide +kernel, show ((["announce"] : List Str).any (eqW "correct")) = false by decide +kernel, show ((["send"] : List Str).any (eqW "correct")) = false by decide +kernel, hl]
    rfl
  | send l =>
    have hl := lc_num l h.2 h.1 (.tup [.str "send", .tup (l.map D.int)]) π (mUn fSrc (mOp fIx (mVar 0) (mC (.int 1)))) (by simp_arith []; rfl)
    have hw : ∀ w ∈ l.map numS, w.length ≤ 62 := fun w hw => by
        obtain ⟨i, hi, rfl⟩ := List.mem_map.mp hw
        exact numS_len (num_of (h.2 i hi))
    have l1 : ("," : Str).length = 1 := by decide +kernel
    have hsum := sum_le (l.map numS) 62 hw
    have hjl := join_len "," (l.map numS) 62 hw
    rw [List.length_map] at hsum hjl
    rw [l1] at hjl
    have h3 := h.1
    have hj := fJoin_lst "," (l.map numS) π (by rw [l1, List.length_map]; omega)
    have htr := truD_str (Txt.join "," (l.map numS)) (by rw [sz]; omega) π
    simp_arith [Stp.d, pick_some, pick_none, show ((["withdraw"] : List Str).any (eqW "send")) = false by decide +kernel, show ((["add", "end"] : List Str).any (eqW "send")) = false by decide +kernel, show ((["sections"] : List Str).any (eqW "send")) = false by decide +kernel, show ((["announce"] : List Str).any (eqW "send")) = false by decide +kernel, show ((["send"] : List Str).any (eqW "send")) = true by decide +kernel, hl, hj, htr]
    unfold Stp.ws
    cases l with
    | nil =>
      rw [show (((Txt.join "," (([] : List Int).map numS)).length : Int) != 0) = false by decide +kernel]
      simp_arith []
      rfl
    | cons i l =>
      have : (((Txt.join "," ((i :: l).map numS)).length : Int) != 0) = true := by
        have hne : 1 ≤ (numS i).length := by
          have : tl (numS i) ≠ [] := by
            show tl (Str.ofString (toString i)) ≠ []
            obtain ⟨k, hk⟩ := Int.eq_ofNat_of_zero_le (h.2 i List.mem_cons_self).1
            rw [hk, tl_num]
            exact numL_ne k
          rw [len_tl]
          exact List.length_pos_iff.mpr this
        have hge : (numS i).length ≤ (Txt.join "," ((i :: l).map numS)).length := by
          rw [show Txt.join "," ((i :: l).map numS) = Str.join "," ((i :: l).map numS) from StrLaws.glued_eq_join _ _]
          cases l with
          | nil => exact Nat.le_refl _
          | cons j l =>
            show _ ≤ (numS i ++ ("," : Str) ++ Str.join "," ((j :: l).map numS)).length
            rw [app_len, app_len]; omega
        rw [bne_iff_ne]
        omega
      rw [this]
      simp_arith [List.isEmpty_cons]
  | sections l =>
    have hl := lc_grp l h.2 h.1 (.tup [.str "sections", .tup (l.map grpT)]) π (mUn fSrc (mOp fIx (mVar 0) (mC (.int 1)))) (by simp_arith []; rfl)
    simp_arith [Stp.d, pick_some, pick_none, show ((["withdraw"] : List Str).any (eqW "sections")) = false by decide +kernel, show ((["add", "end"] : List Str).any (eqW "sections")) = false by decide +kernel, show ((["sections"] : List Str).any (eqW "sections")) = true by decide +kernel, hl, orV_lst]
    unfold Stp.ws
    cases l with
    | nil => rfl
    | cons p l => simp_arith [List.isEmpty_cons]
theorem d_head (s : Stp) (π : PH) : fIx s.d (.int 0) π = .ok (.str s.key) π := by cases s <;> rfl
theorem step_row_ok (s : Stp) (h : Good s) (π : PH) : F_step_row [s.d] π = .ok (.str s.row) π := by
  have hj := fJoin_lst " " (s.key :: s.ws) π (Nat.le_trans (row_sum s h) (by decide))
  rw [List.map_cons] at hj
  unfold F_step_row runB m_step_row
  have hl : fitsB ((s.ws.map D.str ++ []).length + 1) = true := by
    refine decide_eq_true ?_
    have := (ws_ok s h).1
    rw [List.append_nil, List.length_map, sz]; omega
  simp_arith [d_head, words_ok s h, show ∀ l : List D, sqOf π (.lst l) = some l from fun _ => rfl, hl]
  rw [List.append_nil, hj]
  rfl
/-! the law's -/
theorem at2_l (a b : D) : atI [a, b] (-1) = some b := rfl
theorem at1_l (a : D) : atI [a] (-1) = some a := rfl
theorem fAdd_lst (xs ys : List D) (h : xs.length + ys.length ≤ sizeLine) (π : PH) : fAdd false (.lst xs) (.lst ys) π = .ok (.lst (xs ++ ys)) π := by
  show when_ (fitsB (xs.length + ys.length)) _ = _
  rw [show fitsB (xs.length + ys.length) = true from decide_eq_true h]; rfl
theorem fAdd_str (a b : Str) (h : a.length + b.length ≤ sizeLine) (π : PH) : fAdd false (.str a) (.str b) π = .ok (.str (a ++ b)) π := by
  show when_ (fitsB (a.length + b.length)) _ = _
  rw [show fitsB (a.length + b.length) = true from decide_eq_true h]; rfl
theorem eqS_ints_t (ns : List Int) (neg : Bool) (π : PH) : fEqS neg (.tup (ns.map D.int)) (.tup []) π = .ok (.bl (ns.isEmpty != neg)) π := by
  have e1 : pdH π (.tup (ns.map D.int)) = some (.tuple (ns.map PyData.int)) := by
    show pd _ = _
    simp only [pd, pds_ints, Option.map_some]
  have e2 : pdH π (.tup []) = some (.tuple []) := by
    show pd _ = _
    simp only [pd, pds, Option.map_some]
  have s1 : SeqAt.shaped (.tuple (ns.map PyData.int)) = true := by
    unfold SeqAt.shaped
    simp only [PyData.canLay0, can_ints, PyData.depth, dep_ints, Bool.true_and]
    rfl
  show opt (eqD π _ _) _ = _
  unfold eqD
  rw [e1, e2]
  dsimp only
  rw [if_pos ⟨s1, by decide⟩, opt_some]
  cases ns <;> rfl
theorem lw_num (l : List Int) (h : ∀ i ∈ l, 0 ≤ i ∧ i < 10 ^ 60) (hl : l.length ≤ 3) (a b c : Option D) (e f : Option D) (π : PH) :
    mLc false [4] (mUn fSrc (mVar 2)) (setN 4) mYes (mArgs fStrI (mCons (mVar 4) (mNil))) [a, b, some (.tup (l.map D.int)), c, none, e, f] π = .ok (.lst ((l.map numS).map D.str)) π := by
  rw [mLc_map (fun d => match d with | .int a => .str (numS a) | _ => .non) (src_tup rfl) (by rw [List.length_map, sz]; omega), List.map_map, List.map_map]
  · rfl
  · intro d hd
    obtain ⟨i, hi, rfl⟩ := List.mem_map.mp hd
    rw [wipe_cons, wipe_nil]
    simp_arith [fStrI_ok (num_of (h i hi))]
theorem lw_grp (l : List (List Str)) (h : ∀ g ∈ l, g ≠ [] ∧ g.length ≤ 3 ∧ ∀ w ∈ g, isName w = true) (hl : l.length ≤ 3) (a b c e f : Option D) (π : PH) :
    mLc false [5] (mUn fSrc (mVar 2)) (setN 5) mYes (mBM "str" (fJoin) (mC (.str "+")) (mCons (mVar 5) (mNil))) [a, b, some (.tup (l.map grpT)), c, e, none, f] π = .ok (.lst ((l.map grpW).map D.str)) π := by
  rw [mLc_map (fun d => match d with | .tup xs => (match strsOf xs with | some g => .str (grpW g) | none => .non) | _ => .non) (src_tup rfl) (by rw [List.length_map, sz]; omega), List.map_map, List.map_map]
  · congr 2
    apply List.map_congr_left
    intro g _
    show (match strsOf (g.map D.str) with | some g => D.str (grpW g) | none => .non) = _
    rw [strs_of]; rfl
  · intro d hd
    obtain ⟨g, hg, rfl⟩ := List.mem_map.mp hd
    have hsum := sum_le g 8 (fun w hw => name_len ((h g hg).2.2 w hw))
    have := (h g hg).2.1
    rw [wipe_cons, wipe_nil]
    unfold grpT
    simp_arith [fJoin_tup "+" g π (by rw [show ("+" : Str).length = 1 by decide +kernel]; omega)]
    rw [strs_of]
    rfl
theorem lw_frac (l : List (Str × Int × Int)) (h : ∀ p ∈ l, isName p.1 = true ∧ 0 ≤ p.2.1 ∧ p.2.1 < 10 ^ 60 ∧ 0 < p.2.2 ∧ p.2.2 < 10 ^ 60) (hl : l.length ≤ 3) (a b c e f : Option D) (π : PH) :
    mLc false [6] (mUn fSrc (mVar 2)) (setN 6) mYes (mOp (fAdd false) (mOp (fAdd false) (mOp fIx (mVar 6) (mC (.int 0))) (mC (.str ":"))) (mArgs (fCall 1 [] F__law_frac_word) (mCons (mOp fIx (mVar 6) (mC (.int 1))) (mNil)))) [a, b, some (.tup (l.map fracT)), c, e, f, none] π = .ok (.lst ((l.map fracW).map D.str)) π := by
  rw [mLc_map (fun d => match d with | .tup [.str n, .tup [.int a, .int b]] => .str (fracW (n, a, b)) | _ => .non) (src_tup rfl) (by rw [List.length_map, sz]; omega), List.map_map, List.map_map]
  · rfl
  · intro d hd
    obtain ⟨p, hp, rfl⟩ := List.mem_map.mp hd
    obtain ⟨n, a, b⟩ := p
    obtain ⟨h1, h2⟩ := h _ hp
    have hf := fracW_len (h _ hp)
    dsimp only at h1 h2
    have hn := name_len h1
    have hfs := fracS_len (a := a) (b := b) (num_of ⟨h2.1, h2.2.1⟩) (num_of ⟨by have := h2.2.2.1; omega, h2.2.2.2⟩)
    have l1 := colon_len
    rw [wipe_cons, wipe_nil]
    unfold fracT
    simp_arith [frac_word_ok (a := a) (b := b) (num_of ⟨h2.1, h2.2.1⟩) (num_of ⟨by have := h2.2.2.1; omega, h2.2.2.2⟩), fAdd_str n ":" (by rw [sz]; omega), fAdd_str (n ++ (":" : Str)) (fracS a b) (by rw [sz, app_len]; omega)]
    rfl
theorem lw_pair (l : List (Str × Int)) (h : ∀ p ∈ l, isName p.1 = true ∧ Num p.2) (hl : l.length ≤ 3) (a b c e f : Option D) (π : PH) :
    mLc false [6] (mUn fSrc (mVar 2)) (setN 6) mYes (mOp (fAdd false) (mOp (fAdd false) (mOp fIx (mVar 6) (mC (.int 0))) (mC (.str ":"))) (mArgs fStrI (mCons (mOp fIx (mVar 6) (mC (.int 1))) (mNil)))) [a, b, some (.tup (l.map pairT)), c, e, f, none] π = .ok (.lst ((l.map pairW).map D.str)) π := by
  rw [mLc_map (fun d => match d with | .tup [.str n, .int a] => .str (pairW (n, a)) | _ => .non) (src_tup rfl) (by rw [List.length_map, sz]; omega), List.map_map, List.map_map]
  · rfl
  · intro d hd
    obtain ⟨p, hp, rfl⟩ := List.mem_map.mp hd
    obtain ⟨n, a⟩ := p
    obtain ⟨h1, h2⟩ := h _ hp
    dsimp only at h1 h2
    have hn := name_len h1
    have hfs := numS_len h2
    have l1 := colon_len
    rw [wipe_cons, wipe_nil]
    unfold pairT
    simp_arith [fStrI_ok h2, fAdd_str n ":" (by rw [sz]; omega), fAdd_str (n ++ (":" : Str)) (numS a) (by rw [sz, app_len]; omega)]
    rfl
theorem asc_num (i : Int) : asc (numS i) := by
  have pos : ∀ n : Nat, asc (numS (n : Int)) := fun n c hc => by
    have := numL_digits n c (by rw [← tl_num]; exact hc)
    omega
  by_cases h : 0 ≤ i
  · obtain ⟨n, rfl⟩ := Int.eq_ofNat_of_zero_le h
    exact pos n
  · rw [numS_neg (by omega)]
    obtain ⟨n, hn⟩ := Int.eq_ofNat_of_zero_le (show 0 ≤ 0 - i by omega)
    rw [hn]
    exact asc_app.mpr ⟨asc_dash, pos n⟩
theorem asc_join (y : Str) (hy : asc y) : ∀ l : List Str, (∀ w ∈ l, asc w) → asc (Txt.join y l) := by
  intro l h
  rw [show Txt.join y l = Str.join y l from StrLaws.glued_eq_join _ _]
  induction l with
  | nil => intro c hc; exact absurd hc (by simp [Str.join, Str.empty])
  | cons a l ih =>
    cases l with
    | nil => exact h a List.mem_cons_self
    | cons b l =>
      show asc (a ++ y ++ Str.join y (b :: l))
      exact asc_app.mpr ⟨asc_app.mpr ⟨h a List.mem_cons_self, hy⟩, ih fun w hw => h w (List.mem_cons_of_mem _ hw)⟩
theorem asc_frac (a b : Int) : asc (fracS a b) := by
  unfold fracS
  split
  · exact asc_num a
  · exact asc_app.mpr ⟨asc_app.mpr ⟨asc_num a, asc_lit "/" (by decide +kernel)⟩, asc_num b⟩
theorem asc_colon : asc ":" := asc_lit ":" (by decide +kernel)
theorem asc_fracW {p : Str × Int × Int} (h : isName p.1 = true) : asc (fracW p) := asc_app.mpr ⟨asc_app.mpr ⟨(isName_asc h).1, asc_colon⟩, asc_frac _ _⟩
theorem asc_pairW {p : Str × Int} (h : isName p.1 = true) : asc (pairW p) := asc_app.mpr ⟨asc_app.mpr ⟨(isName_asc h).1, asc_colon⟩, asc_num _⟩
theorem asc_grpW {g : List Str} (h : ∀ w ∈ g, isName w = true) : asc (grpW g) := asc_join "+" (asc_lit "+" (by decide +kernel)) g fun w hw => (isName_asc (h w hw)).1
theorem ws_asc (s : Stp) (h : Good s) : ∀ w ∈ s.ws, asc w := by
  cases s with
  | add w => intro x hx; rw [List.mem_singleton.mp hx]; exact (isName_asc h).1
  | end_ w => intro x hx; rw [List.mem_singleton.mp hx]; exact (isName_asc h).1
  | withdraw => intro x hx; cases hx
  | announce l =>
    unfold Stp.ws
    dsimp only
    split
    · intro x hx; rw [List.mem_singleton.mp hx]; exact asc_dash
    · intro x hx; obtain ⟨p, hp, rfl⟩ := List.mem_map.mp hx; exact asc_fracW (h.2 p hp).1
  | correct l =>
    intro x hx
    obtain ⟨p, hp, rfl⟩ := List.mem_map.mp (show x ∈ l.map pairW from hx)
    exact asc_pairW (h.2.2 p hp).1
  | send l =>
    intro x hx
    rw [List.mem_singleton.mp (show x ∈ [if l.isEmpty = true then ("-" : Str) else Txt.join "," (l.map numS)] from hx)]
    split
    · exact asc_dash
    · exact asc_join "," (asc_lit "," (by decide +kernel)) _ fun w hw => by obtain ⟨i, _, rfl⟩ := List.mem_map.mp hw; exact asc_num i
  | sections l =>
    unfold Stp.ws
    dsimp only
    split
    · intro x hx; rw [List.mem_singleton.mp hx]; exact asc_dash
    · intro x hx; obtain ⟨p, hp, rfl⟩ := List.mem_map.mp hx; exact asc_grpW (h.2 p hp).2.2
theorem row_asc (s : Stp) (h : Good s) : asc s.row := asc_join " " (asc_lit " " (by decide +kernel)) _ fun w hw => by
  rcases List.mem_cons.mp hw with e | e
  · rw [e]
    cases s with
    | add _ => exact asc_lit "add" (by decide +kernel)
    | end_ _ => exact asc_lit "end" (by decide +kernel)
    | withdraw => exact asc_lit "withdraw" (by decide +kernel)
    | announce _ => exact asc_lit "announce" (by decide +kernel)
    | correct _ => exact asc_lit "correct" (by decide +kernel)
    | send _ => exact asc_lit "send" (by decide +kernel)
    | sections _ => exact asc_lit "sections" (by decide +kernel)
  · exact ws_asc s h w e
theorem join_two (y a b : Str) : Txt.join y [a, b] = a ++ y ++ b := by
  rw [show Txt.join y [a, b] = Str.join y [a, b] from StrLaws.glued_eq_join _ _]; rfl
theorem law_row_ok (s : Stp) (h : Good s) (π : PH) : F__law_row [s.d] π = .ok (.str s.row) π := by
  have hj := fJoin_lst " " (s.key :: s.ws) π (Nat.le_trans (row_sum s h) (by decide))
  rw [List.map_cons] at hj
  have hin : ∀ w : Str, fIn false (.str w) (.tup [.str "add", .str "end", .str "withdraw"]) π = .ok (.bl ((["add", "end", "withdraw"] : List Str).any (· == w))) π := fun w => in_strs w ["add", "end", "withdraw"] π
  unfold F__law_row runB m__law_row
  cases s with
  | add w =>
    have hjt := fJoin_tup " " ["add", w] π (Nat.le_trans (row_sum (.add w) h) (by decide))
    simp_arith [Stp.d, at2_l, hin, show ((["add", "end", "withdraw"] : List Str).any (· == ("add" : Str))) = true by decide +kernel]
    rw [List.map_cons, List.map_cons, List.map_nil] at hjt
    simp_arith [hjt]
    rfl
  | end_ w =>
    have hjt := fJoin_tup " " ["end", w] π (Nat.le_trans (row_sum (.end_ w) h) (by decide))
    simp_arith [Stp.d, at2_l, hin, show ((["add", "end", "withdraw"] : List Str).any (· == ("end" : Str))) = true by decide +kernel]
    rw [List.map_cons, List.map_cons, List.map_nil] at hjt
    simp_arith [hjt]
    rfl
  | withdraw =>
    have hjt := fJoin_tup " " ["withdraw"] π (Nat.le_trans (row_sum .withdraw h) (by decide))
    simp_arith [Stp.d, at1_l, hin, show ((["add", "end", "withdraw"] : List Str).any (· == ("withdraw" : Str))) = true by decide +kernel]
    rw [List.map_cons, List.map_nil] at hjt
    simp_arith [hjt]
    rfl
  | send l =>
    have hw : ∀ w ∈ l.map numS, w.length ≤ 62 := fun w hw => by
        obtain ⟨i, hi, rfl⟩ := List.mem_map.mp hw
        exact numS_len (num_of (h.2 i hi))
    have l1 : ("," : Str).length = 1 := by decide +kernel
    have hsum := sum_le (l.map numS) 62 hw
    have hjl := join_len "," (l.map numS) 62 hw
    rw [List.length_map] at hsum hjl
    rw [l1] at hjl
    have h3 := h.1
    have hjc := fJoin_lst "," (l.map numS) π (by rw [l1, List.length_map]; omega)
    have hr : (Stp.send l).row = ("send " : Str) ++ (if l.isEmpty = true then ("-" : Str) else Txt.join "," (l.map numS)) := by
      show Txt.join " " ["send", if l.isEmpty = true then ("-" : Str) else Txt.join "," (l.map numS)] = _
      rw [join_two, show (("send" : Str) ++ (" " : Str)) = ("send " : Str) by decide +kernel]
    have l2 : ("send " : Str).length = 5 := by decide +kernel
    have l3 : ("-" : Str).length = 1 := by decide +kernel
    rw [hr]
    simp_arith [Stp.d, at2_l, hin, show ((["add", "end", "withdraw"] : List Str).any (· == ("send" : Str))) = false by decide +kernel, show (("send" : Str) == ("send" : Str)) = true by decide +kernel, eqS_ints_t, lw_num l h.2 h.1, hjc]
    cases l.isEmpty with
    | true => simp_arith [fAdd_str "send " "-" (by rw [l2, l3, sz]; omega)]
    | false => simp_arith [fAdd_str "send " (Txt.join "," (l.map numS)) (by rw [l2, sz]; omega)]
  | sections l =>
    have hq := eqS_nil_words (l.map grpW) (fun w hw => by
      obtain ⟨g, hg, rfl⟩ := List.mem_map.mp hw
      exact asc_grpW (h.2 g hg).2.2) true π
    simp_arith [Stp.d, at2_l, hin, show ((["add", "end", "withdraw"] : List Str).any (· == ("sections" : Str))) = false by decide +kernel, show (("sections" : Str) == ("send" : Str)) = false by decide +kernel, show (("sections" : Str) == ("sections" : Str)) = true by decide +kernel, lw_grp l h.2 h.1, hq]
    cases l with
    | nil =>
      simp_arith [List.isEmpty_nil, fAdd_lst [.str "sections"] [.str "-"] (by decide +kernel)]
      rw [show (Stp.sections []).key = "sections" from rfl, show (Stp.sections []).ws = [("-" : Str)] from rfl] at hj
      simp only [List.map_cons, List.map_nil] at hj
      simp_arith [hj]
      rfl
    | cons p l =>
      have h1 := h.1
      simp_arith [List.isEmpty_cons, fAdd_lst [.str "sections"] (.str (grpW p) :: (l.map grpW).map D.str) (by rw [List.length_cons, List.length_cons, List.length_nil, List.length_map, List.length_map, sz]; rw [List.length_cons] at h1; omega)]
      rw [show (Stp.sections (p :: l)).key = "sections" from rfl, show (Stp.sections (p :: l)).ws = (p :: l).map grpW from rfl] at hj
      simp only [List.map_cons, List.map_nil] at hj
      simp_arith [hj]
      rfl
  | announce l =>
    have hq := eqS_nil_words (l.map fracW) (fun w hw => by
      obtain ⟨g, hg, rfl⟩ := List.mem_map.mp hw
      exact asc_fracW (h.2 g hg).1) true π
    simp_arith [Stp.d, at2_l, hin, show ((["add", "end", "withdraw"] : List Str).any (· == ("announce" : Str))) = false by decide +kernel, show (("announce" : Str) == ("send" : Str)) = false by decide +kernel, show (("announce" : Str) == ("sections" : Str)) = false by decide +kernel, show (("announce" : Str) == ("announce" : Str)) = true by decide +kernel, lw_frac l h.2 h.1, hq]
    cases l with
    | nil =>
      simp_arith [List.isEmpty_nil, fAdd_lst [.str "announce"] [.str "-"] (by decide +kernel)]
      rw [show (Stp.announce []).key = "announce" from rfl, show (Stp.announce []).ws = [("-" : Str)] from rfl] at hj
      simp only [List.map_cons, List.map_nil] at hj
      simp_arith [hj]
      rfl
    | cons p l =>
      have h1 := h.1
      simp_arith [List.isEmpty_cons, fAdd_lst [.str "announce"] (.str (fracW p) :: (l.map fracW).map D.str) (by rw [List.length_cons, List.length_cons, List.length_nil, List.length_map, List.length_map, sz]; rw [List.length_cons] at h1; omega)]
      rw [show (Stp.announce (p :: l)).key = "announce" from rfl, show (Stp.announce (p :: l)).ws = (p :: l).map fracW from rfl] at hj
      simp only [List.map_cons, List.map_nil] at hj
      simp_arith [hj]
      rfl
  | correct l =>
    have hq := eqS_nil_words (l.map pairW) (fun w hw => by
      obtain ⟨g, hg, rfl⟩ := List.mem_map.mp hw
      exact asc_pairW (h.2.2 g hg).1) true π
    simp_arith [Stp.d, at2_l, hin, show ((["add", "end", "withdraw"] : List Str).any (· == ("correct" : Str))) = false by decide +kernel, show (("correct" : Str) == ("send" : Str)) = false by decide +kernel, show (("correct" : Str) == ("sections" : Str)) = false by decide +kernel, show (("correct" : Str) == ("announce" : Str)) = false by decide +kernel, lw_pair l h.2.2 h.1, hq]
    cases l with
    | nil => exact absurd rfl h.2.1
    | cons p l =>
      have h1 := h.1
      simp_arith [List.isEmpty_cons, fAdd_lst [.str "correct"] (.str (pairW p) :: (l.map pairW).map D.str) (by rw [List.length_cons, List.length_cons, List.length_nil, List.length_map, List.length_map, sz]; rw [List.length_cons] at h1; omega)]
      rw [show (Stp.correct (p :: l)).key = "correct" from rfl, show (Stp.correct (p :: l)).ws = (p :: l).map pairW from rfl] at hj
      simp only [List.map_cons, List.map_nil] at hj
      simp_arith [hj]
      rfl
end LW

set_option Elab.async false
set_option linter.all false
set_option maxRecDepth 100000
set_option maxHeartbeats 4000000
/-! A row, read back. -/
namespace LW
open PySem L2 MI TL
theorem free_app {c : Nat} {a b : Str} (h1 : c ∉ tl a) (h2 : c ∉ tl b) : c ∉ tl (a ++ b) := by
  rw [tl_append, List.mem_append]
  exact fun h => h.elim h1 h2
theorem free_lit {c : Nat} {x : Str} (h : tl x = tl x ∧ (tl x).all (fun d => decide (d ≠ c)) = true) : c ∉ tl x := fun hm => by
  have := of_decide_eq_true (List.all_eq_true.mp h.2 c hm)
  exact this rfl
theorem free_pos {c n : Nat} (h : c < 48 ∨ 57 < c) : c ∉ tl (numS (n : Int)) := by
  rw [tl_num]; exact numL_free h
theorem free_num {c : Nat} (h : c < 48 ∨ 57 < c) (h2 : c ≠ 45) (i : Int) : c ∉ tl (numS i) := by
  by_cases h0 : 0 ≤ i
  · obtain ⟨n, rfl⟩ := Int.eq_ofNat_of_zero_le h0
    exact free_pos h
  · rw [numS_neg (by omega)]
    obtain ⟨n, hn⟩ := Int.eq_ofNat_of_zero_le (show 0 ≤ 0 - i by omega)
    rw [hn]
    refine free_app ?_ (free_pos h)
    rw [show tl ("-" : Str) = [45] by decide +kernel]
    simpa using h2
theorem free_name {c : Nat} {w : Str} (h : isName w = true) (hc : c < 97 ∨ 122 < c) : c ∉ tl w := fun hm => by
  unfold isName at h
  simp only [Bool.and_eq_true, decide_eq_true_eq] at h
  have := List.all_eq_true.mp h.2 c hm
  unfold letter at this
  have := of_decide_eq_true this
  omega
theorem free_frac {c : Nat} (h : c < 48 ∨ 57 < c) (h2 : c ≠ 45) (h3 : c ≠ 47) (a b : Int) : c ∉ tl (fracS a b) := by
  unfold fracS
  split
  · exact free_num h h2 a
  · refine free_app (free_app (free_num h h2 a) ?_) (free_num h h2 b)
    rw [show tl ("/" : Str) = [47] by decide +kernel]
    simpa using h3
theorem free_join {c : Nat} (y : Str) (hy : c ∉ tl y) : ∀ l : List Str, (∀ w ∈ l, c ∉ tl w) → c ∉ tl (Txt.join y l) := by
  intro l h
  rw [join_eq]
  induction l with
  | nil => simp [Str.join, Str.empty, tl]
  | cons a l ih =>
    cases l with
    | nil => exact h a List.mem_cons_self
    | cons b l =>
      show c ∉ tl (a ++ y ++ Str.join y (b :: l))
      exact free_app (free_app (h a List.mem_cons_self) hy) (ih fun w hw => h w (List.mem_cons_of_mem _ hw))
theorem numL_head (n : Nat) (h : 0 < n) : ∃ c r, numL n = c :: r ∧ 49 ≤ c := by
  induction n using Nat.strongRecOn with
  | _ n ih =>
    by_cases h1 : n < 10
    · exact ⟨48 + n, [], numL_lt h1, by omega⟩
    · obtain ⟨c, r, e, hc⟩ := ih (n / 10) (by omega) (by omega)
      exact ⟨c, r ++ [48 + n % 10], by rw [numL_step (by omega), e]; rfl, hc⟩
theorem numIn_num {i : Int} (h0 : 0 ≤ i) (h1 : i < 10 ^ 60) : numIn (numS i) = some i := by
  obtain ⟨n, rfl⟩ := Int.eq_ofNat_of_zero_le h0
  have hn : n < 10 ^ 60 := by
    have e : ((10 : Int) ^ 60) = ((10 ^ 60 : Nat) : Int) := by norm_cast
    rw [e] at h1
    exact Int.ofNat_lt.mp h1
  have hl : (numL n).length ≤ 60 := numL_len (by decide) hn
  have ht : tl (numS (n : Int)) = numL n := tl_num n
  have hlen : (numS (n : Int)).length = (numL n).length := by rw [len_tl, ht]
  have hne := List.length_pos_iff.mpr (numL_ne n)
  have hw : numWord (numS (n : Int)) = true := by
    unfold numWord
    rw [hlen]
    simp only [Bool.and_eq_true, decide_eq_true_eq]
    refine ⟨⟨hne, hl⟩, ?_⟩
    show (tl (numS (n : Int))).all digit = true
    rw [ht]
    exact List.all_eq_true.mpr fun c hc => decide_eq_true (numL_digits n c hc)
  have hi : PySem.intText? (numS (n : Int)) = some (n : Int) := int_num (by omega)
  unfold numIn
  rw [if_pos hw, hi, if_pos]
  rw [Bool.or_eq_true]
  by_cases hz : n = 0
  · left; subst hz; decide +kernel
  · right
    obtain ⟨c, r, e, hc⟩ := numL_head n (by omega)
    show ((tl (numS (n : Int))).headD 0 != 48) = true
    rw [ht, e]
    show (c != 48) = true
    rw [bne_iff_ne]; omega
theorem wholeIn_num {i : Int} (h : Num i) : wholeIn (numS i) = some i := by
  by_cases h0 : 0 ≤ i
  · exact (whole_num _ i h0).mpr (numIn_num h0 h.2)
  · have e := numS_neg (i := i) (by omega)
    have ht : tl (numS i) = 45 :: tl (numS (0 - i)) := by
      rw [e, tl_append, show tl ("-" : Str) = [45] by decide +kernel]; rfl
    have hl : (numS i).length = (tl (numS (0 - i))).length + 1 := by rw [len_tl, ht]; rfl
    have c1 : cutS (numS i) none (some 1) = "-" := by
      refine ext_tl ?_
      show ((tl (numS i)).drop 0).take (HT.sIx (numS i).length (numS i).length (some 1) - 0) = _
      rw [show HT.sIx (numS i).length (numS i).length (some 1) = 1 from by rw [show (some (1 : Int)) = some ((1 : Nat) : Int) from rfl, HT.sIx_nat]; omega, ht]
      show [45] = tl ("-" : Str)
      decide +kernel
    have c2 : cutS (numS i) (some 1) none = numS (0 - i) := by
      refine ext_tl ?_
      show ((tl (numS i)).drop (HT.sIx (numS i).length 0 (some 1))).take ((numS i).length - HT.sIx (numS i).length 0 (some 1)) = _
      rw [show HT.sIx (numS i).length 0 (some 1) = 1 from by rw [show (some (1 : Int)) = some ((1 : Nat) : Int) from rfl, HT.sIx_nat]; omega, ht]
      exact List.take_of_length_le (by simp only [List.drop_succ_cons, List.drop_zero]; omega)
    unfold wholeIn
    rw [c1, c2, numIn_num (by omega) (by have := h.1; omega)]
    show negO (some (0 - i)) = some i
    unfold negO
    simp only
    rw [if_neg (by omega)]
    congr 1
    omega
theorem fracIn_frac {a b : Int} (ha : 0 ≤ a ∧ a < 10 ^ 60) (hb : 0 < b ∧ b < 10 ^ 60) (hg : b = 1 ∨ (1 < b ∧ Int.gcd a b = 1)) : fracIn (fracS a b) = some (a, b) := by
  obtain ⟨n, hn⟩ := Int.eq_ofNat_of_zero_le ha.1
  have f1 : 47 ∉ tl (numS a) := by rw [hn]; exact free_pos (by omega)
  unfold fracIn fracS
  by_cases h : b = 1
  · subst h
    rw [if_pos rfl, if_neg f1, numIn_num ha.1 ha.2]; rfl
  · rw [if_neg h, if_pos (by rw [tl_append, tl_append, show tl ("/" : Str) = [47] by decide +kernel]; simp)]
    have hp : Txt.partition (numS a ++ ("/" : Str) ++ numS b) (ch 47) = (numS a, ch 47, numS b) := by
      have := partition_app (y := ch 47) (S := []) rfl (a := numS a) (b := numS b) f1
      rw [show ("/" : Str) = ch 47 by decide +kernel]
      exact this
    rw [hp]
    show (match numIn (numS a), numIn (numS b) with | some a, some b => if 1 < b ∧ Int.gcd a b = 1 then some (a, b) else none | _, _ => none) = _
    rw [numIn_num ha.1 ha.2, numIn_num (by omega) hb.2]
    show (if 1 < b ∧ Int.gcd a b = 1 then some (a, b) else none) = _
    rw [if_pos (hg.resolve_left h)]
theorem pairIn_app (v : Str → Option D) {n x : Str} (hn : isName n = true) {d : D} (hv : v x = some d) : pairIn v (n ++ (":" : Str) ++ x) = some (.tup [.str n, d]) := by
  have hp : Txt.partition (n ++ (":" : Str) ++ x) (ch 58) = (n, ch 58, x) := by
    have := partition_app (y := ch 58) (S := []) rfl (a := n) (b := x) (free_name hn (by omega))
    rw [show (":" : Str) = ch 58 by decide +kernel]
    exact this
  unfold pairIn
  rw [if_pos (by rw [tl_append, tl_append, show tl (":" : Str) = [58] by decide +kernel]; simp), hp]
  dsimp only
  rw [if_pos hn, hv]
  rfl
theorem split_ch (c : Nat) (hc : c < 256) (y : Str) (hy : y = ch c) {l : List Str} (hne : l ≠ []) (h : ∀ p ∈ l, c ∉ tl p) : Txt.split (Txt.join y l) (ch c) = l := by
  subst hy
  exact split_join (y := ch c) (S := []) rfl (by simp [hc]) hne h
theorem group_back {g : List Str} (hne : g ≠ []) (h : ∀ w ∈ g, isName w = true) : groupIn (grpW g) = some (grpT g) := by
  unfold groupIn grpW
  rw [split_ch 43 (by decide) "+" (by decide +kernel) hne fun p hp => free_name (h p hp) (by omega), if_pos (List.all_eq_true.mpr h)]
  rfl
theorem cents_back {l : List Int} (h : ∀ i ∈ l, 0 ≤ i ∧ i < 10 ^ 60) : centsIn (if l.isEmpty = true then ("-" : Str) else Txt.join "," (l.map numS)) = some (.tup (l.map D.int)) := by
  cases l with
  | nil =>
    show centsIn ("-" : Str) = _
    unfold centsIn
    rw [if_pos (by decide +kernel)]
    rfl
  | cons i l =>
    rw [if_neg (by simp)]
    have fr : ∀ p ∈ (i :: l).map numS, ∀ c : Nat, (c < 48 ∨ 57 < c) → c ∉ tl p := fun p hp c hc => by
      obtain ⟨j, hj, rfl⟩ := List.mem_map.mp hp
      obtain ⟨n, hn⟩ := Int.eq_ofNat_of_zero_le (h j hj).1
      rw [hn]; exact free_pos hc
    have hs := split_ch 44 (by decide) "," (by decide +kernel) (l := (i :: l).map numS) (by simp) (fun p hp => fr p hp 44 (by omega))
    have hd : (Txt.join "," ((i :: l).map numS) == ("-" : Str)) = false := by
      rw [beq_eq_false_iff_ne]
      intro e
      have f := free_join (c := 45) "," (by rw [show tl ("," : Str) = [44] by decide +kernel]; simp) ((i :: l).map numS) (fun p hp => fr p hp 45 (by omega))
      rw [e] at f
      exact f (by rw [show tl ("-" : Str) = [45] by decide +kernel]; simp)
    unfold centsIn
    rw [hd, if_neg (by simp), hs]
    have e : ((i :: l).map numS).map numIn = (i :: l).map some := by
      rw [List.map_map]
      exact List.map_congr_left fun j hj => numIn_num (h j hj).1 (h j hj).2
    rw [e, if_neg]
    · rw [List.map_map]; rfl
    · rw [List.any_map]
      simp
def Asc (acc : List D) : List D → Prop
  | [] => True
  | d :: r => (acc.isEmpty || ltS (headS (acc.getLast?.getD .non)) (headS d)) = true ∧ Asc (acc ++ [d]) r
theorem sevIn_run (v : Str → Option D) (rising : Bool) : ∀ (ps : List (Str × D)) (k : Nat) (acc : List D), (∀ p ∈ ps, v p.1 = some p.2) → (rising = true → Asc acc (ps.map (·.2))) → sevIn v rising k acc (ps.map (·.1)) = .ok (acc ++ ps.map (·.2)) := by
  intro ps
  induction ps with
  | nil => intro k acc _ _; simp [sevIn]
  | cons p r ih =>
    intro k acc h ha
    rw [List.map_cons, sevIn_cons]
    unfold stepV
    rw [h p List.mem_cons_self]
    dsimp only
    rw [if_pos]
    · dsimp only
      rw [ih (k + 1) (acc ++ [p.2]) (fun q hq => h q (List.mem_cons_of_mem _ hq)) (fun hr => (ha hr).2)]
      simp
    · cases rising with
      | false => rfl
      | true => simpa using (ha rfl).1
def Good2 : Stp → Prop
  | .announce l => (∀ p ∈ l, p.2.2 = 1 ∨ (1 < p.2.2 ∧ Int.gcd p.2.1 p.2.2 = 1)) ∧ Asc [] (l.map fracT)
  | .correct l => (∀ p ∈ l, p.2 ≠ 0) ∧ Asc [] (l.map pairT)
  | _ => True
theorem sevL_run (v : Str → Option D) (rising : Bool) (ps : List (Str × D)) (hne : ps ≠ []) (h : ∀ p ∈ ps, v p.1 = some p.2) (ha : rising = true → Asc [] (ps.map (·.2))) : sevL v rising (ps.map (·.1)) = .ok (.tup (ps.map (·.2))) := by
  unfold sevL
  rw [if_neg (by simpa using hne), sevIn_run v rising ps 1 [] h ha]
  rfl
theorem noneOr_run (v : Str → Option D) (rising : Bool) (ps : List (Str × D)) (hne : ps ≠ []) (h : ∀ p ∈ ps, v p.1 = some p.2) (ha : rising = true → Asc [] (ps.map (·.2))) (hd : ∀ p ∈ ps, p.1 ≠ "-") : noneOr v rising (ps.map (·.1)) = .ok (.tup (ps.map (·.2))) := by
  unfold noneOr
  rw [if_neg, sevL_run v rising ps hne h ha]
  cases ps with
  | nil => exact absurd rfl hne
  | cons p r => intro e; exact hd p List.mem_cons_self (Option.some.inj e)
theorem dash_ne {s : Str} {c : Nat} (h : c ∈ tl s) (hc : c ≠ 45) : s ≠ "-" := fun e => by
  rw [e, show tl ("-" : Str) = [45] by decide +kernel] at h
  exact hc (List.mem_singleton.mp h)
theorem dash_ne2 {s : Str} (h : 45 ∉ tl s) : s ≠ "-" := fun e => by
  rw [e, show tl ("-" : Str) = [45] by decide +kernel] at h
  simp at h
theorem ws_free (s : Stp) (h : Good s) : ∀ w ∈ s.ws, 32 ∉ tl w := by
  have fd : 32 ∉ tl ("-" : Str) := by rw [show tl ("-" : Str) = [45] by decide +kernel]; simp
  have fc : 32 ∉ tl (":" : Str) := by rw [show tl (":" : Str) = [58] by decide +kernel]; simp
  cases s with
  | add w => intro x hx; rw [List.mem_singleton.mp hx]; exact free_name h (by omega)
  | end_ w => intro x hx; rw [List.mem_singleton.mp hx]; exact free_name h (by omega)
  | withdraw => intro x hx; cases hx
  | announce l =>
    unfold Stp.ws
    dsimp only
    split
    · intro x hx; rw [List.mem_singleton.mp hx]; exact fd
    · intro x hx; obtain ⟨p, hp, rfl⟩ := List.mem_map.mp hx
      exact free_app (free_app (free_name (h.2 p hp).1 (by omega)) fc) (free_frac (by omega) (by omega) (by omega) _ _)
  | correct l =>
    intro x hx
    obtain ⟨p, hp, rfl⟩ := List.mem_map.mp (show x ∈ l.map pairW from hx)
    exact free_app (free_app (free_name (h.2.2 p hp).1 (by omega)) fc) (free_num (by omega) (by omega) _)
  | send l =>
    intro x hx
    rw [List.mem_singleton.mp (show x ∈ [if l.isEmpty = true then ("-" : Str) else Txt.join "," (l.map numS)] from hx)]
    split
    · exact fd
    · exact free_join "," (by rw [show tl ("," : Str) = [44] by decide +kernel]; simp) _ fun w hw => by obtain ⟨i, _, rfl⟩ := List.mem_map.mp hw; exact free_num (by omega) (by omega) i
  | sections l =>
    unfold Stp.ws
    dsimp only
    split
    · intro x hx; rw [List.mem_singleton.mp hx]; exact fd
    · intro x hx; obtain ⟨p, hp, rfl⟩ := List.mem_map.mp hx
      exact free_join "+" (by rw [show tl ("+" : Str) = [43] by decide +kernel]; simp) _ fun w hw => free_name ((h.2 p hp).2.2 w hw) (by omega)
theorem key_free (s : Stp) : 32 ∉ tl s.key := by
  cases s with
  | add _ => exact (by decide +kernel : 32 ∉ tl ("add" : Str))
  | end_ _ => exact (by decide +kernel : 32 ∉ tl ("end" : Str))
  | withdraw => exact (by decide +kernel : 32 ∉ tl ("withdraw" : Str))
  | announce _ => exact (by decide +kernel : 32 ∉ tl ("announce" : Str))
  | correct _ => exact (by decide +kernel : 32 ∉ tl ("correct" : Str))
  | send _ => exact (by decide +kernel : 32 ∉ tl ("send" : Str))
  | sections _ => exact (by decide +kernel : 32 ∉ tl ("sections" : Str))
theorem oneIn_one {v : Str → Option D} {w : Str} {d : D} (h : v w = some d) : oneIn v [w] = .ok d := by
  unfold oneIn
  dsimp only
  rw [h]
  rfl
theorem row_back (s : Stp) (h : Good s) (h2 : Good2 s) : rowDue (Txt.split s.row (ch 32)) = .ok s.d := by
  have hs : Txt.split s.row (ch 32) = s.key :: s.ws := split_ch 32 (by decide) " " (by decide +kernel) (by simp) fun p hp => by
    rcases List.mem_cons.mp hp with e | e
    · rw [e]; exact key_free s
    · exact ws_free s h p e
  rw [hs, rowDue_cons]
  cases s with
  | add w =>
    rw [if_neg (by show ¬ ((["withdraw"] : List Str).any (eqW "add")) = true; decide +kernel), if_pos (by show ((["add", "end"] : List Str).any (eqW "add")) = true; decide +kernel)]
    show withW "add" (oneIn nameIn [w]) = _
    rw [oneIn_one (v := nameIn) (w := w) (d := .str w) (if_pos h)]
    rfl
  | end_ w =>
    rw [if_neg (by show ¬ ((["withdraw"] : List Str).any (eqW "end")) = true; decide +kernel), if_pos (by show ((["add", "end"] : List Str).any (eqW "end")) = true; decide +kernel)]
    show withW "end" (oneIn nameIn [w]) = _
    rw [oneIn_one (v := nameIn) (w := w) (d := .str w) (if_pos h)]
    rfl
  | withdraw =>
    rw [if_pos (by show ((["withdraw"] : List Str).any (eqW "withdraw")) = true; decide +kernel)]
    rfl
  | send l =>
    rw [if_neg (by show ¬ ((["withdraw"] : List Str).any (eqW "send")) = true; decide +kernel), if_neg (by show ¬ ((["add", "end"] : List Str).any (eqW "send")) = true; decide +kernel), if_pos (by show ((["send"] : List Str).any (eqW "send")) = true; decide +kernel)]
    show withW "send" (oneIn centsIn [if l.isEmpty = true then ("-" : Str) else Txt.join "," (l.map numS)]) = _
    rw [oneIn_one (cents_back h.2)]
    rfl
  | sections l =>
    rw [if_neg (by show ¬ ((["withdraw"] : List Str).any (eqW "sections")) = true; decide +kernel), if_neg (by show ¬ ((["add", "end"] : List Str).any (eqW "sections")) = true; decide +kernel), if_neg (by show ¬ ((["send"] : List Str).any (eqW "sections")) = true; decide +kernel), if_pos (by show ((["sections"] : List Str).any (eqW "sections")) = true; decide +kernel)]
    cases l with
    | nil => rfl
    | cons g l =>
      have e := noneOr_run groupIn false ((g :: l).map fun g => (grpW g, grpT g)) (by simp) (fun p hp => by
        obtain ⟨x, hx, rfl⟩ := List.mem_map.mp hp
        exact group_back (h.2 x hx).1 (h.2 x hx).2.2) (fun z => by cases z) (fun p hp => by
        obtain ⟨x, hx, rfl⟩ := List.mem_map.mp hp
        exact dash_ne2 (free_join "+" (by rw [show tl ("+" : Str) = [43] by decide +kernel]; simp) _ fun w hw => free_name ((h.2 x hx).2.2 w hw) (by omega)))
      rw [List.map_map, List.map_map] at e
      show withW "sections" (noneOr groupIn false ((g :: l).map grpW)) = _
      rw [show (g :: l).map grpW = (g :: l).map ((fun p : Str × D => p.1) ∘ fun g => (grpW g, grpT g)) from rfl, e]
      rfl
  | announce l =>
    rw [if_neg (by show ¬ ((["withdraw"] : List Str).any (eqW "announce")) = true; decide +kernel), if_neg (by show ¬ ((["add", "end"] : List Str).any (eqW "announce")) = true; decide +kernel), if_neg (by show ¬ ((["send"] : List Str).any (eqW "announce")) = true; decide +kernel), if_neg (by show ¬ ((["sections"] : List Str).any (eqW "announce")) = true; decide +kernel), if_pos (by show ((["announce"] : List Str).any (eqW "announce")) = true; decide +kernel)]
    cases l with
    | nil => rfl
    | cons g l =>
      have e := noneOr_run (pairIn chargeV) true ((g :: l).map fun g => (fracW g, fracT g)) (by simp) (fun p hp => by
        obtain ⟨x, hx, rfl⟩ := List.mem_map.mp hp
        have hx2 := h.2 x hx
        refine pairIn_app chargeV hx2.1 ?_
        unfold chargeV
        rw [fracIn_frac ⟨hx2.2.1, hx2.2.2.1⟩ hx2.2.2.2 (h2.1 x hx)]
        rfl) (fun _ => by rw [List.map_map]; exact h2.2) (fun p hp => by
        obtain ⟨x, hx, rfl⟩ := List.mem_map.mp hp
        refine dash_ne (c := 58) ?_ (by omega)
        show 58 ∈ tl (x.1 ++ (":" : Str) ++ fracS x.2.1 x.2.2)
        rw [tl_append, tl_append, show tl (":" : Str) = [58] by decide +kernel]; simp)
      rw [List.map_map, List.map_map] at e
      show withW "announce" (noneOr (pairIn chargeV) true ((g :: l).map fracW)) = _
      rw [show (g :: l).map fracW = (g :: l).map ((fun p : Str × D => p.1) ∘ fun g => (fracW g, fracT g)) from rfl, e]
      rfl
  | correct l =>
    rw [if_neg (by show ¬ ((["withdraw"] : List Str).any (eqW "correct")) = true; decide +kernel), if_neg (by show ¬ ((["add", "end"] : List Str).any (eqW "correct")) = true; decide +kernel), if_neg (by show ¬ ((["send"] : List Str).any (eqW "correct")) = true; decide +kernel), if_neg (by show ¬ ((["sections"] : List Str).any (eqW "correct")) = true; decide +kernel), if_neg (by show ¬ ((["announce"] : List Str).any (eqW "correct")) = true; decide +kernel), if_pos (by show ((["correct"] : List Str).any (eqW "correct")) = true; decide +kernel)]
    have e := sevL_run (pairIn changeV) true (l.map fun g => (pairW g, pairT g)) (by simpa using h.2.1) (fun p hp => by
        obtain ⟨x, hx, rfl⟩ := List.mem_map.mp hp
        have hx2 := h.2.2 x hx
        refine pairIn_app changeV hx2.1 ?_
        unfold changeV
        rw [wholeIn_num hx2.2]
        show (if x.2 = 0 then none else some (D.int x.2)) = _
        rw [if_neg (h2.1 x hx)]) (fun _ => by rw [List.map_map]; exact h2.2)
    rw [List.map_map, List.map_map] at e
    show withW "correct" (sevL (pairIn changeV) true (l.map pairW)) = _
    rw [show l.map pairW = l.map ((fun p : Str × D => p.1) ∘ fun g => (pairW g, pairT g)) from rfl, e]
    rfl
end LW

set_option Elab.async false
set_option linter.all false
set_option maxRecDepth 100000
set_option maxHeartbeats 4000000
/-! The steps that are drawn. -/
namespace LW
open PySem L2 MI TL
abbrev q0 : Str := "StepReader.step_written.<locals>.<lambda>"
abbrev q1 : Str := "law.<locals>.<lambda>"
structure Base (C : Nat) (π : PH) : Prop where
  t0 : π[0]? = some (.tbl q0)
  t1 : π[1]? = some (.tbl q1)
  src : SrcOk C π
theorem Base.lt {C : Nat} {π : PH} (h : Base C π) : 2 < π.length := by
  obtain ⟨_, _, _, _, h1, _⟩ := h.src
  exact (List.getElem?_eq_some_iff.mp h1).1
theorem Base.app {C : Nat} {π : PH} (h : Base C π) (e : PH) : Base C (π ++ e) :=
  ⟨tab_app h.t0, tab_app h.t1, by obtain ⟨a, b, c, d, h1, h2⟩ := h.src; exact ⟨a, b, c, d, tab_app h1, h2⟩⟩
theorem Base.mono {C C' : Nat} {π : PH} (h : Base C π) (hc : C ≤ C') : Base C' π :=
  ⟨h.t0, h.t1, by obtain ⟨a, b, c, d, h1, h2, h3, h4⟩ := h.src; exact ⟨a, b, c, d, h1, h2, h3, by omega⟩⟩
theorem Base.set {C : Nat} {π : PH} (h : Base C π) (r : Nat) (hr : 3 ≤ r) (o : O) : Base C (π.set r o) := by
  have e : ∀ i, i < 3 → (π.set r o)[i]? = π[i]? := fun i hi => by rw [List.getElem?_set, if_neg (by omega)]
  exact ⟨by rw [e 0 (by omega)]; exact h.t0, by rw [e 1 (by omega)]; exact h.t1, by obtain ⟨a, b, c, d, h1, h2⟩ := h.src; exact ⟨a, b, c, d, by rw [e 2 (by omega)]; exact h1, h2⟩⟩
/-- nothing but the source changed -/
def Drawn (π : PH) (C : Nat) (π' : PH) : Prop := (∃ o, π' = π.set 2 o) ∧ Base C π'
theorem drawn_get {π π' : PH} {C : Nat} (h : Drawn π C π') {r : Nat} (hr : r ≠ 2) : π'[r]? = π[r]? := by
  obtain ⟨⟨o, rfl⟩, _⟩ := h
  rw [List.getElem?_set, if_neg (by omega)]
theorem drawn_len {π π' : PH} {C : Nat} (h : Drawn π C π') : π'.length = π.length := by
  obtain ⟨⟨o, rfl⟩, _⟩ := h
  simp
theorem base_drawn {π : PH} {C : Nat} (h : Base C π) : Drawn π C π := by
  obtain ⟨o, ho⟩ : ∃ o, π[2]? = some o := by obtain ⟨_, _, _, _, h1, _⟩ := h.src; exact ⟨_, h1⟩
  refine ⟨⟨o, ?_⟩, h⟩
  refine List.ext_getElem? fun i => ?_
  rw [List.getElem?_set]
  by_cases hi : 2 = i
  · subst hi; rw [if_pos rfl, if_pos h.lt, ho]
  · rw [if_neg hi]
theorem drawn_trans {π π' π'' : PH} {C C' : Nat} (h : Drawn π C π') (h2 : Drawn π' C' π'') : Drawn π C' π'' := by
  obtain ⟨⟨o, rfl⟩, _⟩ := h
  obtain ⟨⟨o', rfl⟩, h3⟩ := h2
  exact ⟨⟨o', by rw [List.set_set]⟩, h3⟩
theorem draw_b {C : Nat} {π : PH} (h : Base C π) (hC : C < 1000000) (many : Int) (hm : 0 < many) (hm2 : many < 10 ^ 61) : ∃ v π', 0 ≤ v ∧ v < many ∧ F__law_draw [.ref 2, .int many] π = .ok (.int v) π' ∧ Drawn π (C + 1) π' := by
  obtain ⟨v, o, h1, h2, h3, h4⟩ := draw_ok h.src hC many hm hm2
  refine ⟨v, _, h1, h2, h3, ⟨o, rfl⟩, ?_, ?_, h4⟩
  · rw [List.getElem?_set, if_neg (by omega)]; exact h.t0
  · rw [List.getElem?_set, if_neg (by omega)]; exact h.t1
def FracOk (a b : Int) : Prop := (0 ≤ a ∧ a < 10 ^ 60 ∧ 0 < b ∧ b < 10 ^ 60) ∧ (b = 1 ∨ (1 < b ∧ Int.gcd a b = 1))
theorem charge_b {C : Nat} {π : PH} (h : Base C π) (hC : C < 1000000) : ∃ a b π', F__law_charge [.ref 2] π = .ok (.tup [.int a, .int b]) π' ∧ FracOk a b ∧ Drawn π (C + 1) π' := by
  obtain ⟨v, π', h1, h2, h3, h4⟩ := draw_b h hC 12 (by decide) (by decide)
  have hv : v = 0 ∨ v = 1 ∨ v = 2 ∨ v = 3 ∨ v = 4 ∨ v = 5 ∨ v = 6 ∨ v = 7 ∨ v = 8 ∨ v = 9 ∨ v = 10 ∨ v = 11 := by omega
  have key : ∀ a b : Int, FracOk a b → atI [D.tup [.int 0, .int 1], .tup [.int 1, .int 2], .tup [.int 1, .int 3], .tup [.int 2, .int 3], .tup [.int 1, .int 4], .tup [.int 3, .int 4], .tup [.int 5, .int 2], .tup [.int 7, .int 3], .tup [.int 1, .int 1], .tup [.int 4, .int 1], .tup [.int 1, .int 6], .tup [.int 11, .int 12]] v = some (.tup [.int a, .int b]) → ∃ a b π', F__law_charge [.ref 2] π = .ok (.tup [.int a, .int b]) π' ∧ FracOk a b ∧ Drawn π (C + 1) π' := fun a b hf ha => by
    refine ⟨a, b, π', ?_, hf, h4⟩
    unfold F__law_charge runB m__law_charge
    simp_arith [h3, ha]
  unfold FracOk at key
  rcases hv with rfl | rfl | rfl | rfl | rfl | rfl | rfl | rfl | rfl | rfl | rfl | rfl
  · exact key 0 1 (by decide) rfl
  · exact key 1 2 (by decide) rfl
  · exact key 1 3 (by decide) rfl
  · exact key 2 3 (by decide) rfl
  · exact key 1 4 (by decide) rfl
  · exact key 3 4 (by decide) rfl
  · exact key 5 2 (by decide) rfl
  · exact key 7 3 (by decide) rfl
  · exact key 1 1 (by decide) rfl
  · exact key 4 1 (by decide) rfl
  · exact key 1 6 (by decide) rfl
  · exact key 11 12 (by decide) rfl
def pool : List Str := ["a", "bo", "fax", "tel", "total", "zzzzzzzz"]
theorem pool_ok (π : PH) : F__law_pool [] π = .ok (.lst (pool.map D.str)) π := by rfl
theorem pool_names : ∀ w ∈ pool, isName w = true := by decide +kernel
theorem sort_same (l : List Str) (h : l.Pairwise fun a b => leT a b = true) : sortT l = l := List.mergeSort_of_pairwise h
def nm (k v : Nat) : List Str := ((pool ++ pool).drop k).take (1 + v)
def ascN (acc : List Str) : List Str → Bool
  | [] => true
  | d :: r => (acc.isEmpty || ltS (acc.getLast?.getD Str.empty) d) && ascN (acc ++ [d]) r
theorem nm_facts : ∀ k v : Nat, k < 3 → v < 3 → (nm k v).Pairwise (fun a b => leT a b = true) ∧ (nm k v).length = 1 + v ∧ (∀ w ∈ nm k v, isName w = true) ∧ ascN [] (nm k v) = true := by
  intro k v hk hv
  have hk' : k = 0 ∨ k = 1 ∨ k = 2 := by omega
  have hv' : v = 0 ∨ v = 1 ∨ v = 2 := by omega
  rcases hk' with rfl | rfl | rfl <;> rcases hv' with rfl | rfl | rfl <;> decide +kernel
theorem names_ok (k v : Nat) (hk : k < 3) (hv : v < 3) (π : PH) : fSortT false [.lst (cut (pool.map D.str ++ pool.map D.str) (some (k : Int)) (some ((k : Int) + 1 + v)))] π = .ok (.lst ((nm k v).map D.str)) π := by
  have e : cut (pool.map D.str ++ pool.map D.str) (some (k : Int)) (some ((k : Int) + 1 + v)) = (nm k v).map D.str := by
    have hk' : k = 0 ∨ k = 1 ∨ k = 2 := by omega
    have hv' : v = 0 ∨ v = 1 ∨ v = 2 := by omega
    rcases hk' with rfl | rfl | rfl <;> rcases hv' with rfl | rfl | rfl <;> rfl
  obtain ⟨h1, h2, _⟩ := nm_facts k v hk hv
  rw [e]
  show opt (lsOf π (.lst ((nm k v).map D.str))) (fun xs => opt (strsOf xs) fun ss => when_ (decide (ss.length < 64)) (alloc false ((sortT ss).map D.str) π)) = _
  rw [show lsOf π (.lst ((nm k v).map D.str)) = some ((nm k v).map D.str) from rfl, opt_some, strs_of, opt_some, decide_eq_true (show (nm k v).length < 64 by omega), sort_same _ h1]
  rfl
theorem lc_nx {s : Src} {set : SetD} {te : M D} {δ δ1 : MI.Env} {k i : Nat} {acc : List D} {π π3 : PH} {d e : D} (h1 : s.get π i = some d) (h2 : set d δ = some δ1) (h3 : te δ1 π = .ok e π3) (hz : acc.length < sizeLine) : lcLoop s set mYes te δ (k + 1) i acc π = lcLoop s set mYes te δ k (i + 1) (acc ++ [e]) π3 := by
  show (match s.get π i with | none => _ | some d => _) = _
  rw [h1]
  dsimp only
  rw [h2]
  dsimp only
  rw [mYes_ap]
  dsimp only
  rw [if_pos rfl, h3]
  dsimp only
  rw [if_pos hz]
theorem lcLoop_st {xs : List D} {set : SetD} {te : M D} {δ : MI.Env} (I : Nat → PH → Prop) (P : Nat → D → Prop) (hz : xs.length ≤ sizeLine) (h : ∀ i d π, xs[i]? = some d → I i π → ∃ δ1 e π', set d δ = some δ1 ∧ te δ1 π = .ok e π' ∧ I (i + 1) π' ∧ P i e) :
    ∀ (k i : Nat) (acc : List D) (π : PH), i + k = xs.length → acc.length = i → I i π → (∀ j e, acc[j]? = some e → P j e) → ∃ es π', lcLoop (.fix xs) set mYes te δ k i acc π = .ok es π' ∧ I xs.length π' ∧ es.length = xs.length ∧ ∀ j e, es[j]? = some e → P j e := by
  intro k
  induction k with
  | zero =>
    intro i acc π hi ha hI hP
    refine ⟨acc, π, if_pos rfl, by rw [← hi]; exact hI, by omega, hP⟩
  | succ k ih =>
    intro i acc π hi ha hI hP
    have hlt : i < xs.length := by omega
    have hx : xs[i]? = some xs[i] := List.getElem?_eq_getElem hlt
    obtain ⟨δ1, e, π', h1, h2, h3, h4⟩ := h i _ π hx hI
    have := ih (i + 1) (acc ++ [e]) π' (by omega) (by simp [ha]) h3 (fun j d hd => by
      by_cases hj : j < acc.length
      · rw [List.getElem?_append_left hj] at hd; exact hP j d hd
      · rw [List.getElem?_append_right (by omega)] at hd
        have : j = i := by
          have := (List.getElem?_eq_some_iff.mp hd).1
          simp at this; omega
        subst this
        rw [ha] at hd
        simp at hd
        rw [← hd]; exact h4)
    obtain ⟨es, π2, e1, e2, e3, e4⟩ := this
    exact ⟨es, π2, by rw [lc_nx (s := .fix xs) hx h1 h2 (by omega), e1], e2, e3, e4⟩
theorem mLc_st {i0 : Nat} {src : M Src} {xs : List D} {te : M D} {δ : MI.Env} {π0 : PH} (I : Nat → PH → Prop) (P : Nat → D → Prop) (hs : src δ π0 = .ok (.fix xs) π0) (hz : xs.length ≤ sizeLine) (h0 : I 0 π0)
    (h : ∀ i d π, xs[i]? = some d → I i π → ∃ e π', te ((wipeE δ [i0]).set i0 (some d)) π = .ok e π' ∧ I (i + 1) π' ∧ P i e) : ∃ es π', mLc false [i0] src (setN i0) mYes te δ π0 = .ok (.lst es) π' ∧ I xs.length π' ∧ es.length = xs.length ∧ ∀ j e, es[j]? = some e → P j e := by
  obtain ⟨es, π', e1, e2, e3, e4⟩ := lcLoop_st (set := setN i0) (δ := wipeE δ [i0]) I P hz (fun i d π hx hI => by
    obtain ⟨e, π', h1, h2, h3⟩ := h i d π hx hI
    exact ⟨_, e, π', rfl, h1, h2, h3⟩) xs.length 0 [] π0 (by simp) rfl h0 (fun j e hd => by simp at hd)
  refine ⟨es, π', ?_, e2, e3, e4⟩
  unfold mLc
  rw [hs, bind_ok]
  show (lcLoop (.fix xs) (setN i0) mYes te (wipeE δ [i0]) xs.length 0 [] π0).bind _ = _
  rw [e1]
  rfl
theorem collect {β : Type} (f : β → D) (Q : Nat → β → Prop) : ∀ (es : List D), (∀ j e, es[j]? = some e → ∃ b, e = f b ∧ Q j b) → ∃ l : List β, es = l.map f ∧ ∀ j b, l[j]? = some b → Q j b := by
  intro es
  induction es generalizing Q with
  | nil => intro _; exact ⟨[], rfl, fun j b h => by simp at h⟩
  | cons e es ih =>
    intro h
    obtain ⟨b, hb, hq⟩ := h 0 e rfl
    obtain ⟨l, hl, hr⟩ := ih (fun j => Q (j + 1)) fun j d hd => h (j + 1) d (by simpa using hd)
    refine ⟨b :: l, by rw [List.map_cons, hb, hl], fun j c hc => ?_⟩
    cases j with
    | zero => simp at hc; rw [← hc]; exact hq
    | succ j => exact hr j c (by simpa using hc)
theorem asc_names : ∀ (ds acc : List D), ascN (acc.map headS) (ds.map headS) = true → Asc acc ds := by
  intro ds
  induction ds with
  | nil => intro acc _; trivial
  | cons d r ih =>
    intro acc h
    rw [List.map_cons] at h
    unfold ascN at h
    rw [Bool.and_eq_true] at h
    refine ⟨?_, ih (acc ++ [d]) (by rw [List.map_append]; exact h.2)⟩
    have e : (acc.map headS).getLast?.getD Str.empty = headS (acc.getLast?.getD .non) := by
      rw [List.getLast?_map]
      cases acc.getLast? <;> rfl
    have h1 := h.1
    rw [e] at h1
    cases acc with
    | nil => rfl
    | cons a acc => exact h1
end LW

set_option Elab.async false
set_option linter.all false
set_option maxRecDepth 100000
set_option maxHeartbeats 4000000
/-! The steps that are drawn: the loop. -/
namespace LW
open PySem L2 MI TL
def GG (s : Stp) : Prop := Good s ∧ Good2 s
/-- the pairs of a day -/
theorem announce_b {C : Nat} {π : PH} (h : Base C π) (hC : C + 3 < 1000000) (names : List Str) (hn : names.length ≤ 3) (hi : ∀ w ∈ names, isName w = true) (ha : ascN [] names = true) (a b c d : Option D) :
    ∃ l π', mLc false [5] (mUn fSrc (mVar 4)) (setN 5) mYes (mTup (mCons (mVar 5) (mCons (mArgs (fCall 1 [] F__law_charge) (mCons (mVar 0) (mNil))) (mNil)))) [some (.ref 2), a, b, c, some (.lst (names.map D.str)), d] π = .ok (.lst (l.map fracT)) π' ∧ Drawn π (C + 3) π' ∧ GG (.announce l) := by
  obtain ⟨es, π', e1, e2, e3, e4⟩ := mLc_st (i0 := 5) (src := mUn fSrc (mVar 4)) (xs := names.map D.str) (te := mTup (mCons (mVar 5) (mCons (mArgs (fCall 1 [] F__law_charge) (mCons (mVar 0) (mNil))) (mNil)))) (δ := [some (.ref 2), a, b, c, some (.lst (names.map D.str)), d]) (π0 := π)
    (fun i π' => Drawn π (C + i) π') (fun i e => ∃ p : Str × Int × Int, e = fracT p ∧ (names[i]? = some p.1 ∧ FracOk p.2.1 p.2.2)) (src_lst rfl) (by rw [List.length_map, sz]; omega) (base_drawn h) (fun i d π1 hx hI => by
      have hlt : i < names.length := by have := (List.getElem?_eq_some_iff.mp hx).1; simpa using this
      rw [List.getElem?_map] at hx
      obtain ⟨w, hw, rfl⟩ := Option.map_eq_some_iff.mp hx
      obtain ⟨x, y, π2, h1, h2, h3⟩ := charge_b hI.2 (by omega)
      refine ⟨_, π2, ?_, drawn_trans hI h3, (w, x, y), rfl, hw, h2⟩
      rw [wipe_cons, wipe_nil]
      simp_arith [h1]
      rfl)
  obtain ⟨l, rfl, hl⟩ := collect fracT (fun i p => names[i]? = some p.1 ∧ FracOk p.2.1 p.2.2) es e4
  rw [List.length_map] at e3
  have hfst : l.map (·.1) = names := by
    refine List.ext_getElem? fun i => ?_
    rw [List.getElem?_map]
    cases hx : l[i]? with
    | none =>
      have := List.getElem?_eq_none_iff.mp hx
      simp only [List.length_map] at e3
      exact (List.getElem?_eq_none (by omega)).symm
    | some p => exact (hl i p hx).1.symm
  have hmem : ∀ p ∈ l, isName p.1 = true ∧ FracOk p.2.1 p.2.2 := fun p hp => by
    obtain ⟨i, hx⟩ := List.mem_iff_getElem?.mp hp
    obtain ⟨h1, h2⟩ := hl i p hx
    exact ⟨hi _ (List.mem_of_getElem? h1), h2⟩
  simp only [List.length_map] at e3 e2
  refine ⟨l, π', e1, ⟨e2.1, e2.2.mono (by omega)⟩, ⟨by omega, fun p hp => ⟨(hmem p hp).1, (hmem p hp).2.1⟩⟩, fun p hp => (hmem p hp).2.2, ?_⟩
  refine asc_names _ _ ?_
  rw [List.map_map, show (l.map (headS ∘ fracT)) = l.map (·.1) from rfl, hfst]
  exact ha
theorem correct_b {C : Nat} {π : PH} (h : Base C π) (hC : C + 3 < 1000000) (names : List Str) (hn : names.length ≤ 3) (h0 : names ≠ []) (hi : ∀ w ∈ names, isName w = true) (ha : ascN [] names = true) (a b c d : Option D) :
    ∃ l π', mLc false [5] (mUn fSrc (mVar 4)) (setN 5) mYes (mTup (mCons (mVar 5) (mCons (mOp fIx (mLst false (mCons (mC (.int 1)) (mCons (mUn fNeg (mC (.int 1))) (mCons (mC (.int 12)) (mCons (mUn fNeg (mOp (fPow) (mC (.int 10)) (mC (.int 20)))) (mNil)))))) (mArgs (fCall 2 [] F__law_draw) (mCons (mVar 0) (mCons (mC (.int 4)) (mNil))))) (mNil)))) [some (.ref 2), a, b, c, some (.lst (names.map D.str)), d] π = .ok (.lst (l.map pairT)) π' ∧ Drawn π (C + 3) π' ∧ GG (.correct l) := by
  have p20 : ∀ π, fPow (.int 10) (.int 20) π = .ok (.int (10 ^ 20)) π := fun π => fPow_lit 10 20 (by decide) (by decide) π
  obtain ⟨es, π', e1, e2, e3, e4⟩ := mLc_st (i0 := 5) (src := mUn fSrc (mVar 4)) (xs := names.map D.str) (te := mTup (mCons (mVar 5) (mCons (mOp fIx (mLst false (mCons (mC (.int 1)) (mCons (mUn fNeg (mC (.int 1))) (mCons (mC (.int 12)) (mCons (mUn fNeg (mOp (fPow) (mC (.int 10)) (mC (.int 20)))) (mNil)))))) (mArgs (fCall 2 [] F__law_draw) (mCons (mVar 0) (mCons (mC (.int 4)) (mNil))))) (mNil)))) (δ := [some (.ref 2), a, b, c, some (.lst (names.map D.str)), d]) (π0 := π)
    (fun i π' => Drawn π (C + i) π') (fun i e => ∃ p : Str × Int, e = pairT p ∧ (names[i]? = some p.1 ∧ Num p.2 ∧ p.2 ≠ 0)) (src_lst rfl) (by rw [List.length_map, sz]; omega) (base_drawn h) (fun i d π1 hx hI => by
      have hlt : i < names.length := by have := (List.getElem?_eq_some_iff.mp hx).1; simpa using this
      rw [List.getElem?_map] at hx
      obtain ⟨w, hw, rfl⟩ := Option.map_eq_some_iff.mp hx
      obtain ⟨v, π2, h1, h2, h3, h4⟩ := draw_b hI.2 (by omega) 4 (by decide) (by decide)
      have hv : v = 0 ∨ v = 1 ∨ v = 2 ∨ v = 3 := by omega
      have key : ∀ x : Int, (Num x ∧ x ≠ 0) → atI [D.int 1, .int (-1), .int 12, .int (-(10 ^ 20))] v = some (.int x) → ∃ e π', (mTup (mCons (mVar 5) (mCons (mOp fIx (mLst false (mCons (mC (.int 1)) (mCons (mUn fNeg (mC (.int 1))) (mCons (mC (.int 12)) (mCons (mUn fNeg (mOp (fPow) (mC (.int 10)) (mC (.int 20)))) (mNil)))))) (mArgs (fCall 2 [] F__law_draw) (mCons (mVar 0) (mCons (mC (.int 4)) (mNil))))) (mNil)))) ((wipeE [some (.ref 2), a, b, c, some (.lst (names.map D.str)), d] [5]).set 5 (some (.str w))) π1 = .ok e π' ∧ Drawn π (C + (i + 1)) π' ∧ ∃ p : Str × Int, e = pairT p ∧ (names[i]? = some p.1 ∧ Num p.2 ∧ p.2 ≠ 0) := fun x hx ht => by
        refine ⟨_, π2, ?_, drawn_trans hI h4, (w, x), rfl, hw, hx⟩
        rw [wipe_cons, wipe_nil]
        simp_arith [p20, h3, ht]
        rfl
      unfold Num at key
      rcases hv with rfl | rfl | rfl | rfl
      · exact key 1 (by decide) rfl
      · exact key (-1) (by decide) rfl
      · exact key 12 (by decide) rfl
      · exact key (-(10 ^ 20)) (by decide) rfl)
  obtain ⟨l, rfl, hl⟩ := collect pairT (fun i p => names[i]? = some p.1 ∧ Num p.2 ∧ p.2 ≠ 0) es e4
  rw [List.length_map] at e3
  have hfst : l.map (·.1) = names := by
    refine List.ext_getElem? fun i => ?_
    rw [List.getElem?_map]
    cases hx : l[i]? with
    | none =>
      have := List.getElem?_eq_none_iff.mp hx
      simp only [List.length_map] at e3
      exact (List.getElem?_eq_none (by omega)).symm
    | some p => exact (hl i p hx).1.symm
  have hmem : ∀ p ∈ l, isName p.1 = true ∧ Num p.2 ∧ p.2 ≠ 0 := fun p hp => by
    obtain ⟨i, hx⟩ := List.mem_iff_getElem?.mp hp
    obtain ⟨h1, h2⟩ := hl i p hx
    exact ⟨hi _ (List.mem_of_getElem? h1), h2⟩
  simp only [List.length_map] at e3 e2
  refine ⟨l, π', e1, ⟨e2.1, e2.2.mono (by omega)⟩, ⟨by omega, fun e => h0 (by rw [← hfst, e]; rfl), fun p hp => ⟨(hmem p hp).1, (hmem p hp).2.1⟩⟩, fun p hp => (hmem p hp).2.2, ?_⟩
  refine asc_names _ _ ?_
  rw [List.map_map, show (l.map (headS ∘ pairT)) = l.map (·.1) from rfl, hfst]
  exact ha
theorem send_b {C : Nat} {π : PH} (h : Base C π) (hC : C + 3 < 1000000) (names : List Str) (hn : names.length ≤ 3) (a b c d : Option D) :
    ∃ l π', mLc false [5] (mUn fSrc (mVar 4)) (setN 5) mYes (mArgs (fCall 2 [] F__law_draw) (mCons (mVar 0) (mCons (mC (.int 1200)) (mNil)))) [some (.ref 2), a, b, c, some (.lst (names.map D.str)), d] π = .ok (.lst (l.map D.int)) π' ∧ Drawn π (C + 3) π' ∧ GG (.send l) := by
  obtain ⟨es, π', e1, e2, e3, e4⟩ := mLc_st (i0 := 5) (src := mUn fSrc (mVar 4)) (xs := names.map D.str) (te := mArgs (fCall 2 [] F__law_draw) (mCons (mVar 0) (mCons (mC (.int 1200)) (mNil)))) (δ := [some (.ref 2), a, b, c, some (.lst (names.map D.str)), d]) (π0 := π)
    (fun i π' => Drawn π (C + i) π') (fun i e => ∃ p : Int, e = .int p ∧ (0 ≤ p ∧ p < 1200)) (src_lst rfl) (by rw [List.length_map, sz]; omega) (base_drawn h) (fun i d π1 hx hI => by
      have hlt : i < names.length := by have := (List.getElem?_eq_some_iff.mp hx).1; simpa using this
      obtain ⟨v, π2, h1, h2, h3, h4⟩ := draw_b hI.2 (by omega) 1200 (by decide) (by decide)
      refine ⟨_, π2, ?_, drawn_trans hI h4, v, rfl, h1, h2⟩
      rw [wipe_cons, wipe_nil]
      simp_arith [h3])
  obtain ⟨l, rfl, hl⟩ := collect D.int (fun i p => 0 ≤ p ∧ p < 1200) es e4
  simp only [List.length_map] at e3 e2
  refine ⟨l, π', e1, ⟨e2.1, e2.2.mono (by omega)⟩, ⟨by omega, fun p hp => ?_⟩, trivial⟩
  obtain ⟨i, hx⟩ := List.mem_iff_getElem?.mp hp
  have := hl i p hx
  exact ⟨this.1, by omega⟩
def stepsBody : MS := (sThen (sSet 4 (mArgs (fSortT false) (mCons (mSl false (mOp (fAdd false) (mVar 2) (mVar 2)) (mPart (mVar 3)) (mPart (mOp (fAdd false) (mOp (fAdd false) (mVar 3) (mC (.int 1))) (mArgs (fCall 2 [] F__law_draw) (mCons (mVar 0) (mCons (mC (.int 3)) (mNil))))))) (mNil)))) (sThen (sSet 1 (mOp (fAdd true) (mVar 1) (mLst false (mCons (mTup (mCons (mC (.str "add")) (mCons (mOp fIx (mVar 2) (mArgs (fCall 2 [] F__law_draw) (mCons (mVar 0) (mCons (mC (.int 6)) (mNil))))) (mNil)))) (mCons (mTup (mCons (mC (.str "end")) (mCons (mOp fIx (mVar 2) (mArgs (fCall 2 [] F__law_draw) (mCons (mVar 0) (mCons (mC (.int 6)) (mNil))))) (mNil)))) (mCons (mTup (mCons (mC (.str "withdraw")) (mNil))) (mNil))))))) (sThen (sExpr (mBM "list" (fAppend) (mVar 1) (mCons (mTup (mCons (mC (.str "announce")) (mCons (mArgs fTup (mCons (mLc false [5] (mUn fSrc (mVar 4)) (setN 5) (mYes) (mTup (mCons (mVar 5) (mCons (mArgs (fCall 1 [] F__law_charge) (mCons (mVar 0) (mNil))) (mNil))))) (mNil))) (mNil)))) (mNil)))) (sThen (sExpr (mBM "list" (fAppend) (mVar 1) (mCons (mTup (mCons (mC (.str "correct")) (mCons (mArgs fTup (mCons (mLc false [5] (mUn fSrc (mVar 4)) (setN 5) (mYes) (mTup (mCons (mVar 5) (mCons (mOp fIx (mLst false (mCons (mC (.int 1)) (mCons (mUn fNeg (mC (.int 1))) (mCons (mC (.int 12)) (mCons (mUn fNeg (mOp (fPow) (mC (.int 10)) (mC (.int 20)))) (mNil)))))) (mArgs (fCall 2 [] F__law_draw) (mCons (mVar 0) (mCons (mC (.int 4)) (mNil))))) (mNil))))) (mNil))) (mNil)))) (mNil)))) (sThen (sExpr (mBM "list" (fAppend) (mVar 1) (mCons (mTup (mCons (mC (.str "send")) (mCons (mArgs fTup (mCons (mLc false [5] (mUn fSrc (mVar 4)) (setN 5) (mYes) (mArgs (fCall 2 [] F__law_draw) (mCons (mVar 0) (mCons (mC (.int 1200)) (mNil))))) (mNil))) (mNil)))) (mNil)))) (sExpr (mBM "list" (fAppend) (mVar 1) (mCons (mTup (mCons (mC (.str "sections")) (mCons (mTup (mCons (mArgs fTup (mCons (mVar 4) (mNil))) (mCons (mTup (mCons (mC (.str "bo")) (mCons (mC (.str "a")) (mNil)))) (mNil)))) (mNil)))) (mNil)))))))))
theorem pool_at (v : Int) (h0 : 0 ≤ v) (h1 : v < 6) : ∃ w, atI (pool.map D.str) v = some (.str w) ∧ isName w = true := by
  obtain ⟨n, rfl⟩ := Int.eq_ofNat_of_zero_le h0
  have hn : n < pool.length := by show n < 6; omega
  refine ⟨pool[n], ?_, pool_names _ (List.getElem_mem hn)⟩
  rw [atI_n, List.getElem?_map, List.getElem?_eq_getElem hn]; rfl
theorem add_reg (π : PH) (r : Nat) (l : List D) (h : π[r]? = some (.lst l)) (ys : List D) (hz : l.length + ys.length ≤ sizeLine) : fAdd true (.ref r) (.lst ys) π = .ok (.ref π.length) (π ++ [.lst (l ++ ys)]) := by
  show (match lsM π (.ref r), lsM π (.lst ys) with | some xs, some ys => when_ (fitsB (xs.length + ys.length)) (alloc true (xs ++ ys) π) | _, _ => .stuck) = _
  rw [show lsM π (.ref r) = some l by show (match π[r]? with | some (.lst ds) => some ds | _ => none) = _; rw [h]]
  show when_ (fitsB (l.length + ys.length)) _ = _
  rw [show fitsB (l.length + ys.length) = true from decide_eq_true hz]
  rfl
theorem drawn_lst {π π' : PH} {C : Nat} (h : Drawn π C π') {r : Nat} (hr : 3 ≤ r) {l : List D} (hl : π[r]? = some (.lst l)) : π'[r]? = some (.lst l) := by rw [drawn_get h (by omega)]; exact hl
theorem set_lst {π : PH} {r : Nat} {l m : List D} (hl : π[r]? = some (.lst l)) : (π.set r (.lst m))[r]? = some (.lst m) := List.getElem?_set_self (List.getElem?_eq_some_iff.mp hl).1
theorem cut_pool (n v : Nat) : (1 : Int) + (n : Int) + (v : Int) = (1 : Int) + (n : Int) + (v : Int) := rfl
theorem steps_body {C : Nat} {π : PH} (h : Base C π) (hC : C + 20 < 1000000) (r : Nat) (hr : 3 ≤ r) (acc : List Stp) (hacc : acc.length ≤ 100) (hrl : π[r]? = some (.lst (acc.map Stp.d))) (k : Nat) (hk : k < 3) (x4 x5 : Option D) :
    ∃ r' seven y4 π', stepsBody [some (.ref 2), some (.ref r), some (.lst (pool.map D.str)), some (.int (k : Int)), x4, x5] π = .nx [some (.ref 2), some (.ref r'), some (.lst (pool.map D.str)), some (.int (k : Int)), y4, x5] π' ∧ Base (C + 20) π' ∧ 3 ≤ r' ∧ π'[r']? = some (.lst ((acc ++ seven).map Stp.d)) ∧ seven.length = 7 ∧ ∀ s ∈ seven, GG s := by
  obtain ⟨v1, π1, a1, b1, c1, d1⟩ := draw_b h (by omega) 3 (by decide) (by decide)
  obtain ⟨n1, rfl⟩ := Int.eq_ofNat_of_zero_le a1
  have hn1 : n1 < 3 := by omega
  obtain ⟨_, nl, ni, na⟩ := nm_facts k n1 hk hn1
  obtain ⟨v2, π2, a2, b2, c2, d2⟩ := draw_b d1.2 (by omega) 6 (by decide) (by decide)
  obtain ⟨v3, π3, a3, b3, c3, d3⟩ := draw_b d2.2 (by omega) 6 (by decide) (by decide)
  obtain ⟨w2, e2, i2⟩ := pool_at v2 a2 b2
  obtain ⟨w3, e3, i3⟩ := pool_at v3 a3 b3
  have hfs := names_ok k n1 hk hn1 π1
  have hap := fAdd_lst (pool.map D.str) (pool.map D.str) (by decide +kernel) π
  have hr3 := drawn_lst d3 hr (drawn_lst d2 hr (drawn_lst d1 hr hrl))
  have hadd := add_reg π3 r _ hr3 [.tup [.str "add", .str w2], .tup [.str "end", .str w3], .tup [.str "withdraw"]] (by rw [List.length_map, sz]; show _ + 3 ≤ _; omega)
  have h4 : Base (C + 1 + 1 + 1) (π3 ++ [.lst (acc.map Stp.d ++ [.tup [.str "add", .str w2], .tup [.str "end", .str w3], .tup [.str "withdraw"]])]) := d3.2.app _
  have hr' : 3 ≤ π3.length := by have := d3.2.lt; omega
  have hR := at_end π3 (.lst (acc.map Stp.d ++ [.tup [.str "add", .str w2], .tup [.str "end", .str w3], .tup [.str "withdraw"]]))
  generalize π3 ++ [.lst (acc.map Stp.d ++ [.tup [.str "add", .str w2], .tup [.str "end", .str w3], .tup [.str "withdraw"]])] = π4 at h4 hR hadd
  generalize hR' : π3.length = R at hr' hR hadd
  obtain ⟨l1, π5, f1, g1, p1⟩ := announce_b h4 (by omega) (nm k n1) (by omega) ni na (some (.ref R)) (some (.lst (pool.map D.str))) (some (.int (k : Int))) x5
  have q1' := drawn_lst g1 hr' hR
  have s1 := append_ref q1' (Stp.d (.announce l1)) (by rw [List.length_append, List.length_map, sz]; show _ + 3 < _; omega)
  have h5 := g1.2.set R hr' (.lst (acc.map Stp.d ++ [.tup [.str "add", .str w2], .tup [.str "end", .str w3], .tup [.str "withdraw"]] ++ [Stp.d (.announce l1)]))
  have t1 := tyB_ref hR
  have hR5 := set_lst (m := acc.map Stp.d ++ [.tup [.str "add", .str w2], .tup [.str "end", .str w3], .tup [.str "withdraw"]] ++ [Stp.d (.announce l1)]) q1'
  generalize π5.set R (.lst (acc.map Stp.d ++ [.tup [.str "add", .str w2], .tup [.str "end", .str w3], .tup [.str "withdraw"]] ++ [Stp.d (.announce l1)])) = π6 at s1 h5 hR5
  obtain ⟨l2, π7, f2, g2, p2⟩ := correct_b h5 (by omega) (nm k n1) (by omega) (fun e => by rw [e] at nl; simp at nl; omega) ni na (some (.ref R)) (some (.lst (pool.map D.str))) (some (.int (k : Int))) x5
  have q2' := drawn_lst g2 hr' hR5
  have s2 := append_ref q2' (Stp.d (.correct l2)) (by rw [List.length_append, List.length_append, List.length_map, sz]; show _ + 3 + 1 < _; omega)
  have h6 := g2.2.set R hr' (.lst (acc.map Stp.d ++ [.tup [.str "add", .str w2], .tup [.str "end", .str w3], .tup [.str "withdraw"]] ++ [Stp.d (.announce l1)] ++ [Stp.d (.correct l2)]))
  have t2 := tyB_ref hR5
  have hR6 := set_lst (m := acc.map Stp.d ++ [.tup [.str "add", .str w2], .tup [.str "end", .str w3], .tup [.str "withdraw"]] ++ [Stp.d (.announce l1)] ++ [Stp.d (.correct l2)]) q2'
  generalize π7.set R (.lst (acc.map Stp.d ++ [.tup [.str "add", .str w2], .tup [.str "end", .str w3], .tup [.str "withdraw"]] ++ [Stp.d (.announce l1)] ++ [Stp.d (.correct l2)])) = π8 at s2 h6 hR6
  obtain ⟨l3, π9, f3, g3, p3⟩ := send_b h6 (by omega) (nm k n1) (by omega) (some (.ref R)) (some (.lst (pool.map D.str))) (some (.int (k : Int))) x5
  have q3' := drawn_lst g3 hr' hR6
  have s3 := append_ref q3' (Stp.d (.send l3)) (by rw [List.length_append, List.length_append, List.length_append, List.length_map, sz]; show _ + 3 + 1 + 1 < _; omega)
  have h7 := g3.2.set R hr' (.lst (acc.map Stp.d ++ [.tup [.str "add", .str w2], .tup [.str "end", .str w3], .tup [.str "withdraw"]] ++ [Stp.d (.announce l1)] ++ [Stp.d (.correct l2)] ++ [Stp.d (.send l3)]))
  have t3 := tyB_ref hR6
  have hR7 := set_lst (m := acc.map Stp.d ++ [.tup [.str "add", .str w2], .tup [.str "end", .str w3], .tup [.str "withdraw"]] ++ [Stp.d (.announce l1)] ++ [Stp.d (.correct l2)] ++ [Stp.d (.send l3)]) q3'
  generalize π9.set R (.lst (acc.map Stp.d ++ [.tup [.str "add", .str w2], .tup [.str "end", .str w3], .tup [.str "withdraw"]] ++ [Stp.d (.announce l1)] ++ [Stp.d (.correct l2)] ++ [Stp.d (.send l3)])) = πa at s3 h7 hR7
  have t4 := tyB_ref hR7
  have s4 := append_ref hR7 (Stp.d (.sections [nm k n1, ["bo", "a"]])) (by rw [List.length_append, List.length_append, List.length_append, List.length_append, List.length_map, sz]; show _ + 3 + 1 + 1 + 1 < _; omega)
  have h8 := h7.set R hr' (.lst (acc.map Stp.d ++ [.tup [.str "add", .str w2], .tup [.str "end", .str w3], .tup [.str "withdraw"]] ++ [Stp.d (.announce l1)] ++ [Stp.d (.correct l2)] ++ [Stp.d (.send l3)] ++ [Stp.d (.sections [nm k n1, ["bo", "a"]])]))
  have hR8 := set_lst (m := acc.map Stp.d ++ [.tup [.str "add", .str w2], .tup [.str "end", .str w3], .tup [.str "withdraw"]] ++ [Stp.d (.announce l1)] ++ [Stp.d (.correct l2)] ++ [Stp.d (.send l3)] ++ [Stp.d (.sections [nm k n1, ["bo", "a"]])]) hR7
  generalize πa.set R (.lst (acc.map Stp.d ++ [.tup [.str "add", .str w2], .tup [.str "end", .str w3], .tup [.str "withdraw"]] ++ [Stp.d (.announce l1)] ++ [Stp.d (.correct l2)] ++ [Stp.d (.send l3)] ++ [Stp.d (.sections [nm k n1, ["bo", "a"]])])) = πb at s4 h8 hR8
  refine ⟨R, [.add w2, .end_ w3, .withdraw, .announce l1, .correct l2, .send l3, .sections [nm k n1, ["bo", "a"]]], some (.lst ((nm k n1).map D.str)), πb, ?_, h8.mono (by omega), hr', ?_, rfl, ?_⟩
  · unfold stepsBody
    have s1' : fAppend (.ref R) [.tup [.str "announce", .tup (l1.map fracT)]] π5 = .ok .non π6 := s1
    have s2' : fAppend (.ref R) [.tup [.str "correct", .tup (l2.map pairT)]] π7 = .ok .non π8 := s2
    have s3' : fAppend (.ref R) [.tup [.str "send", .tup (l3.map D.int)]] π9 = .ok .non πa := s3
    have s4' : fAppend (.ref R) [.tup [.str "sections", .tup [.tup ((nm k n1).map D.str), .tup [.str "bo", .str "a"]]]] πa = .ok .non πb := s4
    simp_arith [hap, c1, hfs, c2, c3, e2, e3, hadd, hR', f1, t1, s1', f2, t2, s2', f3, t3, s3', t4, s4']
  · rw [hR8]
    simp [Stp.d]
  · intro s hs
    simp only [List.mem_cons, List.mem_singleton, List.not_mem_nil, or_false] at hs
    rcases hs with rfl | rfl | rfl | rfl | rfl | rfl | rfl
    · exact ⟨i2, trivial⟩
    · exact ⟨i3, trivial⟩
    · exact ⟨trivial, trivial⟩
    · exact p1
    · exact p2
    · exact p3
    · refine ⟨⟨by simp, fun g hg => ?_⟩, trivial⟩
      simp only [List.mem_cons, List.mem_singleton, List.not_mem_nil, or_false] at hg
      rcases hg with rfl | rfl
      · exact ⟨fun e => by rw [e] at nl; simp at nl; omega, by omega, ni⟩
      · exact ⟨by simp, by simp, by decide +kernel⟩
end LW

set_option Elab.async false
set_option linter.all false
set_option maxRecDepth 100000
set_option maxHeartbeats 4000000
/-! The steps, all; the rows by hand. -/
namespace LW
open PySem L2 MI TL
theorem steps_ok {C : Nat} {π : PH} (h : Base C π) (hC : C + 100 < 1000000) : ∃ (lot : List Stp) (π' : PH), F__law_steps [.ref 2] π = .ok (.lst (lot.map Stp.d)) π' ∧ Base (C + 60) π' ∧ lot.length = 25 ∧ ∀ s ∈ lot, GG s := by
  have hl : 3 ≤ π.length := by have := h.lt; omega
  obtain ⟨r1, s1, y1, π1, a1, b1, c1, d1, e1, g1⟩ := steps_body (h.app [.lst []]) (by omega) π.length hl [] (by decide) (at_end π _) 0 (by omega) none none
  obtain ⟨r2, s2, y2, π2, a2, b2, c2, d2, e2, g2⟩ := steps_body b1 (by omega) r1 c1 ([] ++ s1) (by simp [e1]) d1 1 (by omega) y1 none
  obtain ⟨r3, s3, y3, π3, a3, b3, c3, d3, e3, g3⟩ := steps_body b2 (by omega) r2 c2 ([] ++ s1 ++ s2) (by simp [e1, e2]) d2 2 (by omega) y2 none
  have hfor : sFor (mSrcA fRng1 (mCons (mC (.int 3)) (mNil))) (setN 3) stepsBody [some (.ref 2), some (.ref π.length), some (.lst (pool.map D.str)), none, none, none] (π ++ [.lst []]) = .nx [some (.ref 2), some (.ref r3), some (.lst (pool.map D.str)), some (.int ((2 : Nat) : Int)), y3, none] π3 := by
    rw [sFor_ap]
    have hr := rng_ok 3 (by omega) (π ++ [.lst []])
    have hr' : fRng1 [.int 3] (π ++ [.lst []]) = .ok (.fix (rngD 0 3)) (π ++ [.lst []]) := hr
    simp_arith [mSrcA_ap, hr', rng_len]
    rw [show (3 : Nat) = 2 + 1 from rfl, forLoop_nx (rng_get 3 0 (by omega) _) rfl a1, show (2 : Nat) = 1 + 1 from rfl, forLoop_nx (rng_get 3 1 (by omega) _) rfl a2, show (1 : Nat) = 0 + 1 from rfl, forLoop_nx (rng_get 3 2 (by omega) _) rfl a3]
    exact forLoop_end rfl
  have hfor' := hfor
  unfold stepsBody at hfor'
  have hadd : fAdd false (.ref r3) (.lst [.tup [.str "sections", .tup []], .tup [.str "announce", .tup []], .tup [.str "send", .tup []], .tup [.str "announce", .tup [.tup [.str "a", .tup [.int (10 ^ 59 + 1), .int (10 ^ 59)]]]]]) π3 = .ok (.lst (([] ++ s1 ++ s2 ++ s3).map Stp.d ++ [.tup [.str "sections", .tup []], .tup [.str "announce", .tup []], .tup [.str "send", .tup []], .tup [.str "announce", .tup [.tup [.str "a", .tup [.int (10 ^ 59 + 1), .int (10 ^ 59)]]]]])) π3 := by
    show (match lsM π3 (.ref r3), lsM π3 (.lst _) with | some xs, some ys => when_ (fitsB (xs.length + ys.length)) (MI.alloc false (xs ++ ys) π3) | _, _ => .stuck) = _
    rw [show lsM π3 (.ref r3) = some (([] ++ s1 ++ s2 ++ s3).map Stp.d) by show (match π3[r3]? with | some (.lst ds) => some ds | _ => none) = _; rw [d3]]
    have hft : ∀ n : Nat, n = 21 → fitsB (n + 4) = true := fun n h => by subst h; rfl
    show when_ (fitsB ((([] ++ s1 ++ s2 ++ s3).map Stp.d).length + 4)) _ = _
    rw [hft _ (by simp [e1, e2, e3])]
    rfl
  have p59 : ∀ π, fPow (.int 10) (.int 59) π = .ok (.int (10 ^ 59)) π := fun π => fPow_lit 10 59 (by decide) (by decide) π
  refine ⟨[] ++ s1 ++ s2 ++ s3 ++ [Stp.sections [], Stp.announce [], Stp.send [], Stp.announce [("a", 10 ^ 59 + 1, 10 ^ 59)]], π3, ?_, b3.mono (by omega), by simp [e1, e2, e3], ?_⟩
  · unfold F__law_steps runB m__law_steps
    have hp := pool_ok (π ++ [.lst []])
    simp_arith [hp, hfor', p59, hadd]
    simp only [List.nil_append, List.map_append]
    rfl
  · intro s hs
    rcases List.mem_append.mp hs with hs | hs
    · rcases List.mem_append.mp hs with hs | hs
      · rcases List.mem_append.mp hs with hs | hs
        · exact g1 s (by simpa using hs)
        · exact g2 s hs
      · exact g3 s hs
    · simp only [List.mem_cons, List.mem_singleton, List.not_mem_nil, or_false] at hs
      rcases hs with rfl | rfl | rfl | rfl
      · exact ⟨⟨by simp, fun g hg => by simp at hg⟩, trivial⟩
      · exact ⟨⟨by simp, fun g hg => by simp at hg⟩, fun g hg => by simp at hg, trivial⟩
      · exact ⟨⟨by simp, fun g hg => by simp at hg⟩, trivial⟩
      · refine ⟨⟨by simp, fun g hg => ?_⟩, fun g hg => ?_, ?_⟩
        · rw [List.mem_singleton.mp hg]; decide +kernel
        · rw [List.mem_singleton.mp hg]; decide +kernel
        · exact ⟨by decide +kernel, trivial⟩
/-! rows by hand -/
structure BH (π0 : PH) (L : List Str) (δ : MI.Env) (π : PH) : Prop where
  ex : ∃ r x e, δ = [some (.ref r), x] ∧ π = π0 ++ e ∧ π0.length ≤ r ∧ π[r]? = some (.lst (L.map D.str))
theorem seq {a b : MS} {δ δ' : MI.Env} {π π' : PH} (h : a δ π = .nx δ' π') : sThen a b δ π = b δ' π' := by rw [sThen_ap, h, then_nx]
theorem bh_add {π0 : PH} {L N : List Str} {δ : MI.Env} {π : PH} (h : BH π0 L δ π) (ms : M (List D)) (hm : mLst false ms δ π = .ok (.lst (N.map D.str)) π) (hz : L.length + N.length ≤ 1000) : ∃ δ' π', sSet 0 (mOp (fAdd true) (mVar 0) (mLst false ms)) δ π = .nx δ' π' ∧ BH π0 (L ++ N) δ' π' ∧ δ'[1]? = δ[1]? := by
  obtain ⟨r, x, e, rfl, rfl, hr, hl⟩ := h.ex
  have ha := add_reg (π0 ++ e) r _ hl (N.map D.str) (by rw [List.length_map, List.length_map, sz]; omega)
  refine ⟨[some (.ref (π0 ++ e).length), x], π0 ++ e ++ [.lst (L.map D.str ++ N.map D.str)], ?_, ⟨_, x, e ++ [.lst (L.map D.str ++ N.map D.str)], rfl, by simp, by simp, ?_⟩, rfl⟩
  · rw [sSet_ap, mOp_ap, show mVar 0 [some (.ref r), x] (π0 ++ e) = .ok (.ref r) (π0 ++ e) from rfl, bind_ok, hm, bind_ok, ha]
    rfl
  · rw [at_end, List.map_append]
theorem bh_app {π0 : PH} {L : List Str} {w : Str} {δ : MI.Env} {π : PH} (h : BH π0 L δ π) (hz : L.length ≤ 1000) : ∃ δ' π', sExpr (mBM "list" fAppend (mVar 0) (mCons (mC (.str w)) mNil)) δ π = .nx δ' π' ∧ BH π0 (L ++ [w]) δ' π' ∧ δ'[1]? = δ[1]? := by
  obtain ⟨r, x, e, rfl, rfl, hr, hl⟩ := h.ex
  have ha := append_ref hl (.str w) (by rw [List.length_map, sz]; omega)
  have ht := tyB_ref hl
  refine ⟨[some (.ref r), x], (π0 ++ e).set r (.lst (L.map D.str ++ [.str w])), ?_, ⟨r, x, e.set (r - π0.length) (.lst (L.map D.str ++ [.str w])), rfl, ?_, hr, ?_⟩, rfl⟩
  · simp_arith [ht, ha]
  · rw [List.set_append, if_neg (by omega)]
  · rw [set_lst hl, List.map_append]; rfl
def mStrs (l : List Str) : M (List D) := l.foldr (fun w m => mCons (mC (.str w)) m) mNil
theorem mStrs_ok (l : List Str) (δ : MI.Env) (π : PH) : mStrs l δ π = .ok (l.map D.str) π := by
  induction l with
  | nil => rfl
  | cons w l ih => show mCons (mC (.str w)) (mStrs l) δ π = _; rw [mCons_ap, mC_ap, bind_ok, ih, bind_ok]; rfl
theorem lst_strs (l : List Str) (hl : l.length ≤ 1000) (δ : MI.Env) (π : PH) : mLst false (mStrs l) δ π = .ok (.lst (l.map D.str)) π := by
  rw [mLst_ap, mStrs_ok, bind_ok, show fitsB (l.map D.str).length = true from decide_eq_true (by rw [List.length_map, sz]; omega)]; rfl
end LW

set_option Elab.async false
set_option linter.all false
set_option maxRecDepth 100000
set_option maxHeartbeats 4000000
/-! The rows by hand (printed). -/
namespace LW
open PySem L2 MI TL
def bh0 : List Str := ["", " ", "-", "add", "add -", "add a bo", "add A", "add add", "add abcdefghi", "end total", " end a"]
def bh1 : List Str := ["end a ", "withdraw", "withdraw -", "withdraw ", "sections -", "sections", "sections - a+bo"]
def bh2 : List Str := ["sections a", "sections a+bo bo+a a+a", "sections a++bo", "sections a+", "announce", "announce -"]
def bh3 : List Str := ["announce - a:1", "announce a:1 -", "announce a:1/2 bo:0", "announce bo:1 a:1", "announce a:1 a:2"]
def bh4 : List Str := ["announce a:-1", "announce a:2/4", "announce a:1/1", "announce a:0/2", "announce a:1/0"]
def bh5 : List Str := ["announce a:", "announce a", "announce a:1:2", "announce a:1/2/3", "announce a: 1", "announce a:+1"]
def bh6 : List Str := ["send", "send -", "send - 1", "send 0,1", "send 0,", "send 01", "send -1", "send 0, 1", "send 1_0"]
def bh7 : List Str := ["correct", "correct -", "correct a:0", "correct a:-0", "correct a:-2 bo:3", "correct bo:1 a:1"]
def bh8 : List Str := ["correct a:1/2", "correct a:-01", "undo", "Add a", "add a\n", "add\na", "withdraw\n", "send 1\n"]
def nines1 : M (List D) := mCons (mOp (fAdd false) (mC (.str "send ")) (mOp (fMulS) (mC (.str "9")) (mVar 1))) (mCons (mOp (fAdd false) (mC (.str "announce a:")) (mOp (fMulS) (mC (.str "9")) (mVar 1))) (mCons (mOp (fAdd false) (mC (.str "announce a:1/")) (mOp (fMulS) (mC (.str "9")) (mVar 1))) (mNil)))
def nines2 : M (List D) := mCons (mOp (fAdd false) (mC (.str "correct a:-")) (mOp (fMulS) (mC (.str "9")) (mVar 1))) (mCons (mOp (fAdd false) (mC (.str "correct a:")) (mOp (fMulS) (mC (.str "9")) (mVar 1))) (mNil))
def nw1 (n : Nat) : List Str := [("send " : Str) ++ rep "9" n, ("announce a:" : Str) ++ rep "9" n, ("announce a:1/" : Str) ++ rep "9" n]
def nw2 (n : Nat) : List Str := [("correct a:-" : Str) ++ rep "9" n, ("correct a:" : Str) ++ rep "9" n]
theorem by_hand_eq : m__law_by_hand = sThen (sSet 0 (mLst true (mStrs bh0))) (sThen (sSet 0 (mOp (fAdd true) (mVar 0) (mLst false (mStrs bh1)))) (sThen (sExpr (mBM "list" fAppend (mVar 0) (mCons (mC (.str "sections a+bo -")) mNil))) (sThen (sSet 0 (mOp (fAdd true) (mVar 0) (mLst false (mStrs bh2)))) (sThen (sSet 0 (mOp (fAdd true) (mVar 0) (mLst false (mStrs bh3)))) (sThen (sSet 0 (mOp (fAdd true) (mVar 0) (mLst false (mStrs bh4)))) (sThen (sExpr (mBM "list" fAppend (mVar 0) (mCons (mC (.str "announce a:01")) mNil))) (sThen (sSet 0 (mOp (fAdd true) (mVar 0) (mLst false (mStrs bh5)))) (sThen (sSet 0 (mOp (fAdd true) (mVar 0) (mLst false (mStrs bh6)))) (sThen (sSet 0 (mOp (fAdd true) (mVar 0) (mLst false (mStrs bh7)))) (sThen (sSet 0 (mOp (fAdd true) (mVar 0) (mLst false (mStrs bh8)))) (sThen (sExpr (mBM "list" fAppend (mVar 0) (mCons (mC (.str "sections a\n")) mNil))) (sThen (sFor (mUn fSrc (mTup (mCons (mC (.int 60)) (mCons (mC (.int 61)) (mNil))))) (setN 1) (sThen (sSet 0 (mOp (fAdd true) (mVar 0) (mLst false nines1))) (sSet 0 (mOp (fAdd true) (mVar 0) (mLst false nines2))))) (sRet (mVar 0)))))))))))))) := by rfl
def byHand : List Str := bh0 ++ bh1 ++ [("sections a+bo -" : Str)] ++ bh2 ++ bh3 ++ bh4 ++ [("announce a:01" : Str)] ++ bh5 ++ bh6 ++ bh7 ++ bh8 ++ [("sections a\n" : Str)] ++ nw1 60 ++ nw2 60 ++ nw1 61 ++ nw2 61
theorem nines_ok (n : Nat) (hn : n = 60 ∨ n = 61) (x : Option D) (π : PH) : mLst false nines1 [x, some (.int (n : Nat))] π = .ok (.lst ((nw1 n).map D.str)) π ∧ mLst false nines2 [x, some (.int (n : Nat))] π = .ok (.lst ((nw2 n).map D.str)) π := by
  have hm : fMulS (.str "9") (.int (n : Nat)) π = .ok (.str (rep "9" n)) π := by rcases hn with rfl | rfl <;> rfl
  have hl : (rep "9" n).length ≤ 100 := by rcases hn with rfl | rfl <;> decide +kernel
  have l1 : ("send " : Str).length ≤ 20 := by decide +kernel
  have l2 : ("announce a:" : Str).length ≤ 20 := by decide +kernel
  have l3 : ("announce a:1/" : Str).length ≤ 20 := by decide +kernel
  have l4 : ("correct a:-" : Str).length ≤ 20 := by decide +kernel
  have l5 : ("correct a:" : Str).length ≤ 20 := by decide +kernel
  constructor
  · unfold nines1
    simp_arith [hm, fAdd_str "send " (rep "9" n) (by rw [sz]; omega), fAdd_str "announce a:" (rep "9" n) (by rw [sz]; omega), fAdd_str "announce a:1/" (rep "9" n) (by rw [sz]; omega)]
    rfl
  · unfold nines2
    simp_arith [hm, fAdd_str "correct a:-" (rep "9" n) (by rw [sz]; omega), fAdd_str "correct a:" (rep "9" n) (by rw [sz]; omega)]
    rfl
theorem bh_for {π0 : PH} {L : List Str} {δ : MI.Env} {π : PH} (h : BH π0 L δ π) (n : Nat) (hn : n = 60 ∨ n = 61) (hL : L.length ≤ 500) : ∃ δ1 δ' π', setN 1 (.int (n : Nat)) δ = some δ1 ∧ (sThen (sSet 0 (mOp (fAdd true) (mVar 0) (mLst false nines1))) (sSet 0 (mOp (fAdd true) (mVar 0) (mLst false nines2)))) δ1 π = .nx δ' π' ∧ BH π0 (L ++ nw1 n ++ nw2 n) δ' π' := by
  obtain ⟨r, x, e, rfl, rfl, hr, hl⟩ := h.ex
  have h1 : BH π0 L [some (.ref r), some (.int (n : Nat))] (π0 ++ e) := ⟨r, _, e, rfl, rfl, hr, hl⟩
  obtain ⟨δ2, π2, a1, b1, c1⟩ := bh_add h1 nines1 (N := nw1 n) (nines_ok n hn _ _).1 (by show _ + 3 ≤ _; omega)
  obtain ⟨r2, x2, e2, rfl, rfl, hr2, hl2⟩ := b1.ex
  have hx : x2 = some (.int (n : Nat)) := by simpa using c1
  subst hx
  obtain ⟨δ3, π3, a2, b2, c2⟩ := bh_add b1 nines2 (N := nw2 n) (nines_ok n hn _ _).2 (by rw [List.length_append]; show _ + 3 + 2 ≤ _; omega)
  exact ⟨[some (.ref r), some (.int (n : Nat))], δ3, π3, rfl, by rw [seq a1, a2], b2⟩
theorem by_hand_ok (π : PH) : ∃ r e, F__law_by_hand [] π = .ok (.ref r) (π ++ e) ∧ (π ++ e)[r]? = some (.lst (byHand.map D.str)) ∧ π.length ≤ r := by
  unfold F__law_by_hand runB
  rw [by_hand_eq]
  have i0 : sSet 0 (mLst true (mStrs bh0)) [none, none] π = .nx [some (.ref π.length), none] (π ++ [.lst (bh0.map D.str)]) := by rw [sSet_ap, mLst_ap, mStrs_ok]; rfl
  have h0 : BH π bh0 [some (.ref π.length), none] (π ++ [.lst (bh0.map D.str)]) := ⟨π.length, none, _, rfl, rfl, Nat.le_refl _, at_end π _⟩
  obtain ⟨δ1, π1, i1, h1, _⟩ := bh_add h0 (mStrs bh1) (N := bh1) (lst_strs bh1 (by decide) _ _) (by decide)
  obtain ⟨δ2, π2, i2, h2, _⟩ := bh_app (w := "sections a+bo -") h1 (by decide)
  obtain ⟨δ3, π3, i3, h3, _⟩ := bh_add h2 (mStrs bh2) (N := bh2) (lst_strs bh2 (by decide) _ _) (by decide)
  obtain ⟨δ4, π4, i4, h4, _⟩ := bh_add h3 (mStrs bh3) (N := bh3) (lst_strs bh3 (by decide) _ _) (by decide)
  obtain ⟨δ5, π5, i5, h5, _⟩ := bh_add h4 (mStrs bh4) (N := bh4) (lst_strs bh4 (by decide) _ _) (by decide)
  obtain ⟨δ6, π6, i6, h6, _⟩ := bh_app (w := "announce a:01") h5 (by decide)
  obtain ⟨δ7, π7, i7, h7, _⟩ := bh_add h6 (mStrs bh5) (N := bh5) (lst_strs bh5 (by decide) _ _) (by decide)
  obtain ⟨δ8, π8, i8, h8, _⟩ := bh_add h7 (mStrs bh6) (N := bh6) (lst_strs bh6 (by decide) _ _) (by decide)
  obtain ⟨δ9, π9, i9, h9, _⟩ := bh_add h8 (mStrs bh7) (N := bh7) (lst_strs bh7 (by decide) _ _) (by decide)
  obtain ⟨δ10, π10, i10, h10, _⟩ := bh_add h9 (mStrs bh8) (N := bh8) (lst_strs bh8 (by decide) _ _) (by decide)
  obtain ⟨δ11, π11, i11, h11, _⟩ := bh_app (w := "sections a\n") h10 (by decide)
  obtain ⟨da, db, πb, s1, s2, hb⟩ := bh_for h11 60 (.inl rfl) (by decide)
  obtain ⟨dc, dd, πd, s3, s4, hd⟩ := bh_for hb 61 (.inr rfl) (by decide)
  have hfor : sFor (mUn fSrc (mTup (mCons (mC (.int 60)) (mCons (mC (.int 61)) (mNil))))) (setN 1) (sThen (sSet 0 (mOp (fAdd true) (mVar 0) (mLst false nines1))) (sSet 0 (mOp (fAdd true) (mVar 0) (mLst false nines2)))) δ11 π11 = .nx dd πd := by
    rw [sFor_ap, show mUn fSrc (mTup (mCons (mC (.int 60)) (mCons (mC (.int 61)) (mNil)))) δ11 π11 = .ok (.fix [.int 60, .int 61]) π11 from rfl, sb_ok]
    show forLoop _ _ _ (0 + 1 + 1) 0 _ _ = _
    rw [forLoop_nx (d := .int ((60 : Nat) : Int)) rfl s1 s2, forLoop_nx (d := .int ((61 : Nat) : Int)) rfl s3 s4]
    exact forLoop_end rfl
  obtain ⟨r, x, e, rfl, rfl, hr, hl⟩ := hd.ex
  refine ⟨r, e, ?_, hl, hr⟩
  show (match sThen _ _ [none, none] π with | .nx _ π' => Res.ok D.non π' | .ret d π' => .ok d π' | .exc x _ π' => .exc x π' | _ => .stuck) = _
  rw [seq i0, seq i1, seq i2, seq i3, seq i4, seq i5, seq i6, seq i7, seq i8, seq i9, seq i10, seq i11, seq hfor]
  rfl
theorem byHand_ok : ∀ s ∈ byHand, asc s ∧ s.length ≤ 100 := by
  have h : byHand.all (fun s => s.cps.toList.all (fun c => decide (c < 128)) && decide (s.length ≤ 100)) = true := by decide +kernel
  intro s hs
  have := List.all_eq_true.mp h s hs
  rw [Bool.and_eq_true] at this
  exact ⟨asc_lit s this.1, of_decide_eq_true this.2⟩
end LW

set_option Elab.async false
set_option linter.all false
set_option maxRecDepth 100000
set_option maxHeartbeats 4000000
/-! A row with a change. -/
namespace LW
open PySem L2 MI TL
theorem cut_to {β : Type} (l : List β) (n : Nat) : cut l none (some (n : Int)) = l.take n := by
  show (l.drop 0).take (HT.sIx l.length l.length (some (n : Int)) - 0) = _
  rw [HT.sIx_nat, List.drop_zero, Nat.sub_zero]
  by_cases h : n ≤ l.length
  · rw [Nat.min_eq_left h]
  · rw [Nat.min_eq_right (by omega), List.take_of_length_le (Nat.le_refl _), List.take_of_length_le (by omega)]
theorem cut_fr {β : Type} (l : List β) (n : Nat) : cut l (some (n : Int)) none = l.drop n := by
  show (l.drop (HT.sIx l.length 0 (some (n : Int)))).take (l.length - HT.sIx l.length 0 (some (n : Int))) = _
  rw [HT.sIx_nat]
  by_cases h : n ≤ l.length
  · rw [Nat.min_eq_left h]
    exact List.take_of_length_le (by rw [List.length_drop]; omega)
  · rw [Nat.min_eq_right (by omega), Nat.sub_self, List.take_zero, List.drop_eq_nil_of_le (by omega)]
theorem cut_fr1 {β : Type} (l : List β) (n : Nat) : cut l (some ((n : Int) + 1)) none = l.drop (n + 1) := cut_fr l (n + 1)
theorem cut_to1 {β : Type} (l : List β) (n : Nat) : cut l none (some ((n : Int) + 1)) = l.take (n + 1) := cut_to l (n + 1)
def ln (ws : List Str) : Nat := (ws.map (·.length)).sum + ws.length
theorem ln_app (a b : List Str) : ln (a ++ b) = ln a + ln b := by
  unfold ln; rw [List.map_append, List.sum_append, List.length_append]; omega
theorem ln_take (a : List Str) (n : Nat) : ln (a.take n) ≤ ln a := by
  have := ln_app (a.take n) (a.drop n)
  rw [List.take_append_drop] at this; omega
theorem ln_drop (a : List Str) (n : Nat) : ln (a.drop n) ≤ ln a := by
  have := ln_app (a.take n) (a.drop n)
  rw [List.take_append_drop] at this; omega
theorem ln_one (w : Str) : ln [w] = w.length + 1 := by unfold ln; simp
theorem join_ln (ws : List Str) : (Txt.join " " ws).length ≤ ln ws := by
  rw [join_eq]
  have := StrLaws.join_length_le " " ws
  rw [sp_len] at this
  unfold ln; omega
theorem asc_take {l : List Str} (h : ∀ w ∈ l, asc w) (n : Nat) : ∀ w ∈ l.take n, asc w := fun w hw => h w (List.mem_of_mem_take hw)
theorem asc_drop {l : List Str} (h : ∀ w ∈ l, asc w) (n : Nat) : ∀ w ∈ l.drop n, asc w := fun w hw => h w (List.mem_of_mem_drop hw)
theorem asc_cat {a b : List Str} (h : ∀ w ∈ a, asc w) (h2 : ∀ w ∈ b, asc w) : ∀ w ∈ a ++ b, asc w := fun w hw => (List.mem_append.mp hw).elim (h w) (h2 w)
theorem join_sp (ws : List Str) (ha : ∀ w ∈ ws, asc w) : asc (Txt.join " " ws) := asc_join " " (asc_lit " " (by decide +kernel)) ws ha
theorem fJoin_sp (ws : List Str) (π : PH) (h : ln ws ≤ 16777216) : fJoin (.str " ") [.lst (ws.map D.str)] π = .ok (.str (Txt.join " " ws)) π := fJoin_lst " " ws π (by rw [sp_len]; unfold ln at h; omega)
def bentW : List Str := ["add", "announce", "send", "-", "a", "a:1", "a+bo", "0", "01", "", "bo:-1", "a:1/2", "1,2", "withdraw"]
theorem bentW_ok : ∀ w ∈ bentW, asc w ∧ w.length ≤ 8 := by
  have h : bentW.all (fun s => s.cps.toList.all (fun c => decide (c < 128)) && decide (s.length ≤ 8)) = true := by decide +kernel
  intro s hs
  have := List.all_eq_true.mp h s hs
  rw [Bool.and_eq_true] at this
  exact ⟨asc_lit s this.1, of_decide_eq_true this.2⟩
theorem bentW_at (v : Int) (h0 : 0 ≤ v) (h1 : v < 14) : ∃ w, atI (bentW.map D.str) v = some (.str w) ∧ asc w ∧ w.length ≤ 8 := by
  obtain ⟨n, rfl⟩ := Int.eq_ofNat_of_zero_le h0
  have hn : n < bentW.length := by show n < 14; omega
  refine ⟨bentW[n], ?_, bentW_ok _ (List.getElem_mem hn)⟩
  rw [atI_n, List.getElem?_map, List.getElem?_eq_getElem hn]; rfl
abbrev bentC : Str := "a1,:+-/ 0\nzA"
theorem bentC_at (v : Int) (h0 : 0 ≤ v) (h1 : v < 12) (π : PH) : ∃ c : Nat, c < 128 ∧ fIx (.str bentC) (.int v) π = .ok (.str (ch c)) π := by
  obtain ⟨n, rfl⟩ := Int.eq_ofNat_of_zero_le h0
  have hl : bentC.cps.toList.length = 12 := by decide +kernel
  have hn : n < bentC.cps.toList.length := by omega
  have ha : asc bentC := asc_lit _ (by decide +kernel)
  refine ⟨bentC.cps.toList[n], ha _ (List.getElem_mem hn), ?_⟩
  show when_ (fitsB bentC.length) (opt (atI bentC.cps.toList (n : Int)) fun c => Res.ok (D.str ⟨#[c]⟩) π) = _
  rw [show fitsB bentC.length = true by decide +kernel, when_true, atI_n, List.getElem?_eq_getElem hn]
  rfl
def bentRows (page : Str) (ws : List Str) (a s : Nat) (w c : Str) : List Str :=
  [Txt.join " " (ws.take a ++ ws.drop (a + 1)), Txt.join " " (ws.take (a + 1) ++ ws.drop a), Txt.join " " (ws.take a ++ [w] ++ ws.drop (a + 1)), Txt.join " " (ws.take a ++ [w] ++ ws.drop a),
   cutS page none (some (s : Int)) ++ c ++ cutS page (some (s : Int)) none, cutS page none (some (s : Int)) ++ cutS page (some ((s : Int) + 1)) none, cutS page none (some (s : Int)) ++ c ++ cutS page (some ((s : Int) + 1)) none]
theorem cutS_sum (page : Str) (s : Nat) : (cutS page none (some (s : Int))).length + (cutS page (some (s : Int)) none).length ≤ page.length := by
  have e1 : tl (cutS page none (some (s : Int))) = (tl page).take s := by
    have := cut_to (tl page) s
    show ((tl page).drop 0).take (HT.sIx page.length page.length (some (s : Int)) - 0) = _
    rw [len_tl]; exact this
  have e2 : tl (cutS page (some (s : Int)) none) = (tl page).drop s := by
    have := cut_fr (tl page) s
    show ((tl page).drop (HT.sIx page.length 0 (some (s : Int)))).take (page.length - HT.sIx page.length 0 (some (s : Int))) = _
    rw [len_tl]; exact this
  rw [len_tl, len_tl, e1, e2, len_tl, List.length_take, List.length_drop]
  omega
theorem bent_ok (page : Str) (hp : asc page) (a s : Nat) (w c : Str) (hw : asc w ∧ w.length ≤ 8) (hc : asc c ∧ c.length = 1) : ∀ x ∈ bentRows page (Txt.split page (ch 32)) a s w c, asc x ∧ x.length ≤ 2 * page.length + 12 := by
  have hl : ln (Txt.split page (ch 32)) = page.length + 1 := split_len 32 (by decide) page
  have ha := split_asc 32 (by decide) page hp
  generalize Txt.split page (ch 32) = ws at hl ha
  have t1 := ln_take ws a
  have t2 := ln_take ws (a + 1)
  have t3 := ln_drop ws a
  have t4 := ln_drop ws (a + 1)
  have t5 := ln_app (ws.take a) (ws.drop a)
  rw [List.take_append_drop] at t5
  have hw1 : ∀ x ∈ [w], asc x := fun x hx => by rw [List.mem_singleton.mp hx]; exact hw.1
  have c1 := cutS_sum page s
  have c2 := cutS_sum page (s + 1)
  have c3 := cutS_len page none (some (s : Int))
  have c4 := cutS_len page (some ((s : Int) + 1)) none
  intro x hx
  simp only [bentRows, List.mem_cons, List.not_mem_nil, or_false] at hx
  rcases hx with rfl | rfl | rfl | rfl | rfl | rfl | rfl
  · refine ⟨join_sp _ (asc_cat (asc_take ha _) (asc_drop ha _)), ?_⟩
    have := join_ln (ws.take a ++ ws.drop (a + 1))
    rw [ln_app] at this; omega
  · refine ⟨join_sp _ (asc_cat (asc_take ha _) (asc_drop ha _)), ?_⟩
    have := join_ln (ws.take (a + 1) ++ ws.drop a)
    rw [ln_app] at this; omega
  · refine ⟨join_sp _ (asc_cat (asc_cat (asc_take ha _) hw1) (asc_drop ha _)), ?_⟩
    have := join_ln (ws.take a ++ [w] ++ ws.drop (a + 1))
    rw [ln_app, ln_app, ln_one] at this; omega
  · refine ⟨join_sp _ (asc_cat (asc_cat (asc_take ha _) hw1) (asc_drop ha _)), ?_⟩
    have := join_ln (ws.take a ++ [w] ++ ws.drop a)
    rw [ln_app, ln_app, ln_one] at this; omega
  · refine ⟨asc_app.mpr ⟨asc_app.mpr ⟨cutS_asc hp _ _, hc.1⟩, cutS_asc hp _ _⟩, ?_⟩
    rw [app_len, app_len]; omega
  · refine ⟨asc_app.mpr ⟨cutS_asc hp _ _, cutS_asc hp _ _⟩, ?_⟩
    rw [app_len]; omega
  · refine ⟨asc_app.mpr ⟨asc_app.mpr ⟨cutS_asc hp _ _, hc.1⟩, cutS_asc hp _ _⟩, ?_⟩
    rw [app_len, app_len]; omega
theorem bent_row_ok {C : Nat} {π : PH} (h : Base C π) (hC : C + 10 < 1000000) (page : Str) (hp : asc page) (hl : page.length ≤ 100000) : ∃ x π', F__law_bent_row [.ref 2, .str page] π = .ok (.str x) π' ∧ Drawn π (C + 5) π' ∧ asc x ∧ x.length ≤ 2 * page.length + 12 := by
  have hm := split_many 32 (by decide) page
  have hn := List.length_pos_iff.mpr (split_ne 32 (by decide) page)
  obtain ⟨v1, π1, a1, b1, c1, d1⟩ := draw_b h (by omega) ((Txt.split page (ch 32)).length : Nat) (by omega) (by omega)
  obtain ⟨v2, π2, a2, b2, c2, d2⟩ := draw_b d1.2 (by omega) ((page.length : Nat) + 1) (by omega) (by omega)
  obtain ⟨v3, π3, a3, b3, c3, d3⟩ := draw_b d2.2 (by omega) 14 (by decide) (by decide)
  obtain ⟨v4, π4, a4, b4, c4, d4⟩ := draw_b d3.2 (by omega) 12 (by decide) (by decide)
  obtain ⟨v5, π5, a5, b5, c5, d5⟩ := draw_b d4.2 (by omega) 7 (by decide) (by decide)
  obtain ⟨a, rfl⟩ := Int.eq_ofNat_of_zero_le a1
  obtain ⟨s, rfl⟩ := Int.eq_ofNat_of_zero_le a2
  obtain ⟨w, e3, hw⟩ := bentW_at v3 a3 b3
  obtain ⟨c, hc, e4⟩ := bentC_at v4 a4 b4 π4
  have hch : asc (ch c) ∧ (ch c).length = 1 := ⟨fun x hx => by
    have : x = c := by simpa using hx
    omega, rfl⟩
  obtain ⟨i, rfl⟩ := Int.eq_ofNat_of_zero_le a5
  have hrows := bent_ok page hp a s w (ch c) hw hch
  have hi : i < (bentRows page (Txt.split page (ch 32)) a s w (ch c)).length := by show i < 7; omega
  have hx := hrows _ (List.getElem_mem hi)
  have e5 : atI ((bentRows page (Txt.split page (ch 32)) a s w (ch c)).map D.str) (i : Int) = some (.str (bentRows page (Txt.split page (ch 32)) a s w (ch c))[i]) := by
    rw [atI_n, List.getElem?_map, List.getElem?_eq_getElem hi]; rfl
  refine ⟨_, π5, ?_, drawn_trans (drawn_trans (drawn_trans (drawn_trans d1 d2) d3) d4) d5, hx.1, hx.2⟩
  have hsp := fSplit_ch 32 (by decide) page (by rw [sz]; omega) π " " rfl
  have hlen : fLen [.lst ((Txt.split page (ch 32)).map D.str)] π = .ok (.int ((Txt.split page (ch 32)).length : Nat)) π := by rw [fLen_lst, List.length_map]
  have hpl : ∀ π, fLen [.str page] π = .ok (.int (page.length : Nat)) π := fun π => fLen_str (by rw [sz]; omega)
  have sl : ∀ lo hi (π : PH), fSl false lo hi (.str page) π = .ok (.str (cutS page lo hi)) π := fun lo hi π => fSl_str page lo hi π (by rw [sz]; omega)
  have hln : ln (Txt.split page (ch 32)) = page.length + 1 := split_len 32 (by decide) page
  have hws := split_many 32 (by decide) page
  generalize Txt.split page (ch 32) = ws at *
  have t1 := ln_take ws a
  have t2 := ln_take ws (a + 1)
  have t3 := ln_drop ws a
  have t4 := ln_drop ws (a + 1)
  have k1 := cutS_len page none (some (s : Int))
  have k2 := cutS_len page (some (s : Int)) none
  have k3 := cutS_len page (some ((s : Int) + 1)) none
  have al : ∀ xs ys : List Str, xs.length ≤ 200003 → ys.length ≤ 200003 → ∀ π, fAdd false (.lst (xs.map D.str)) (.lst (ys.map D.str)) π = .ok (.lst ((xs ++ ys).map D.str)) π := fun xs ys hx hy π => by
    rw [fAdd_lst _ _ (by rw [List.length_map, List.length_map, sz]; omega), List.map_append]
  have tk : ∀ n, (ws.take n).length ≤ 100001 := fun n => by rw [List.length_take]; omega
  have dp : ∀ n, (ws.drop n).length ≤ 100001 := fun n => by rw [List.length_drop]; omega
  have j1 := fun π => fJoin_sp (ws.take a ++ ws.drop (a + 1)) π (by rw [ln_app]; omega)
  have j2 := fun π => fJoin_sp (ws.take (a + 1) ++ ws.drop a) π (by rw [ln_app]; omega)
  have j3 := fun π => fJoin_sp (ws.take a ++ [w] ++ ws.drop (a + 1)) π (by rw [ln_app, ln_app, ln_one]; omega)
  have j4 := fun π => fJoin_sp (ws.take a ++ [w] ++ ws.drop a) π (by rw [ln_app, ln_app, ln_one]; omega)
  have l1 := fun π => al (ws.take a) (ws.drop (a + 1)) (by have := tk a; omega) (by have := dp (a + 1); omega) π
  have l2 := fun π => al (ws.take (a + 1)) (ws.drop a) (by have := tk (a + 1); omega) (by have := dp a; omega) π
  have l3 : ∀ π, fAdd false (.lst ((ws.take a).map D.str)) (.lst [.str w]) π = .ok (.lst ((ws.take a ++ [w]).map D.str)) π := fun π => al (ws.take a) [w] (by have := tk a; omega) (by simp) π
  have l4 := fun π => al (ws.take a ++ [w]) (ws.drop (a + 1)) (by rw [List.length_append]; have := tk a; show _ + 1 ≤ _; omega) (by have := dp (a + 1); omega) π
  have l5 := fun π => al (ws.take a ++ [w]) (ws.drop a) (by rw [List.length_append]; have := tk a; show _ + 1 ≤ _; omega) (by have := dp a; omega) π
  have s1 := fun π => fAdd_str (cutS page none (some (s : Int))) (ch c) (by rw [hch.2, sz]; omega) π
  have s2 := fun π => fAdd_str (cutS page none (some (s : Int)) ++ ch c) (cutS page (some (s : Int)) none) (by rw [app_len, hch.2, sz]; omega) π
  have s3 := fun π => fAdd_str (cutS page none (some (s : Int))) (cutS page (some ((s : Int) + 1)) none) (by rw [sz]; omega) π
  have s4 := fun π => fAdd_str (cutS page none (some (s : Int)) ++ ch c) (cutS page (some ((s : Int) + 1)) none) (by rw [app_len, hch.2, sz]; omega) π
  have f2 : ∀ x y z u : D, ∀ π, fAdd false (.lst [x, y]) (.lst [z, u]) π = .ok (.lst [x, y, z, u]) π := fun _ _ _ _ _ => rfl
  have f4 : ∀ x y z u p q : D, ∀ π, fAdd false (.lst [x, y, z, u]) (.lst [p, q]) π = .ok (.lst [x, y, z, u, p, q]) π := fun _ _ _ _ _ _ _ => rfl
  have f6 : ∀ x y z u p q r : D, ∀ π, fAdd false (.lst [x, y, z, u, p, q]) (.lst [r]) π = .ok (.lst [x, y, z, u, p, q, r]) π := fun _ _ _ _ _ _ _ _ => rfl
  have e3' : atI [D.str "add", .str "announce", .str "send", .str "-", .str "a", .str "a:1", .str "a+bo", .str "0", .str "01", .str "", .str "bo:-1", .str "a:1/2", .str "1,2", .str "withdraw"] v3 = some (.str w) := e3
  have ct : ∀ n : Nat, cut (ws.map D.str) none (some (n : Int)) = (ws.take n).map D.str := fun n => by rw [cut_to, List.map_take]
  have cf : ∀ n : Nat, cut (ws.map D.str) (some (n : Int)) none = (ws.drop n).map D.str := fun n => by rw [cut_fr, List.map_drop]
  have ct1 : ∀ n : Nat, cut (ws.map D.str) none (some ((n : Int) + 1)) = (ws.take (n + 1)).map D.str := fun n => by rw [cut_to1, List.map_take]
  have cf1 : ∀ n : Nat, cut (ws.map D.str) (some ((n : Int) + 1)) none = (ws.drop (n + 1)).map D.str := fun n => by rw [cut_fr1, List.map_drop]
  unfold F__law_bent_row runB m__law_bent_row
  simp_arith [hsp, hlen, List.length_map, hpl, c1, c2, c3, e3', c4, e4, sl, ct, cf, ct1, cf1, l1, l2, l3, l4, l5, j1, j2, j3, j4, s1, s2, s3, s4, f2, f4, f6, c5]
  have e5' := e5
  unfold bentRows at e5'
  simp only [List.map_cons, List.map_nil] at e5'
  rw [e5']
  rfl
end LW

set_option Elab.async false
set_option linter.all false
set_option maxRecDepth 100000
set_option maxHeartbeats 4000000
/-! The law's parts. -/
namespace LW
open PySem L2 MI TL
def showD (d : D) : Str := match pd d with
  | some p => p.shown
  | none => Str.empty
theorem fRepr_val {n z : Nat} {d : D} (h : Gd n z d) (hn : n ≤ 64) (hz : z ≤ sizeLine) (π : PH) : fRepr [d] π = .ok (.str (showD d)) π := by
  obtain ⟨p, h1, h2, h3, h4, h5⟩ := h
  have e0 : pdH π d = some p := by
    cases d with
    | ref i => simp [pd] at h1
    | _ => exact h1
  show opt (pdH π d) _ = _
  rw [e0, opt_some]
  have : (p.showable && SeqAt.shaped p && decide (p.shown.length ≤ sizeLine)) = true := by
    rw [Bool.and_eq_true, Bool.and_eq_true]
    refine ⟨⟨h4, ?_⟩, decide_eq_true (by omega)⟩
    unfold SeqAt.shaped
    rw [h2, Bool.true_and]
    exact decide_eq_true (by omega)
  rw [this]
  show Res.ok (D.str p.shown) π = _
  unfold showD
  rw [h1]
theorem pds_strs : ∀ l : List Str, pds (l.map D.str) = some (l.map PyData.str)
  | [] => by simp [pds]
  | w :: l => by rw [List.map_cons, List.map_cons]; simp only [pds, pd, pds_strs l]
theorem eqv_strs : ∀ l : List Str, PyData.eqvAll (l.map PyData.str) (l.map PyData.str) = true
  | [] => by simp [PyData.eqvAll]
  | w :: l => by rw [List.map_cons]; simp [PyData.eqvAll, PyData.eqv, eqv_strs l]
theorem shaped_strs {l : List Str} (h : ∀ w ∈ l, asc w) : SeqAt.shaped (.list (l.map PyData.str)) = true := by
  obtain ⟨p, h1, h2, h3, h4, h5⟩ := Gd.lst (gds_strs (n := 0) h)
  have : p = .list (l.map PyData.str) := by
    simp only [pd, pds_strs, Option.map_some, Option.some.injEq] at h1
    exact h1.symm
  subst this
  unfold SeqAt.shaped
  rw [h2, Bool.true_and]
  exact decide_eq_true (by omega)
theorem eqS_strs {l : List Str} (h : ∀ w ∈ l, asc w) (neg : Bool) (π : PH) : fEqS neg (.lst (l.map D.str)) (.lst (l.map D.str)) π = .ok (.bl (true != neg)) π := by
  have e1 : pdH π (.lst (l.map D.str)) = some (.list (l.map PyData.str)) := by
    show pd _ = _
    simp only [pd, pds_strs, Option.map_some]
  show opt (eqD π _ _) _ = _
  unfold eqD
  rw [e1]
  dsimp only
  rw [if_pos ⟨shaped_strs h, shaped_strs h⟩, opt_some]
  simp [PyData.eqv, eqv_strs]
theorem eqS_ref {l : List Str} (h : ∀ w ∈ l, asc w) (neg : Bool) {π : PH} {r : Nat} (hr : π[r]? = some (.lst (l.map D.str))) : fEqS neg (.ref r) (.lst (l.map D.str)) π = .ok (.bl (true != neg)) π := by
  have e0 : pdH π (.ref r) = some (.list (l.map PyData.str)) := by
    show (match π[r]? with | some (.lst ds) => (pds ds).map PyData.list | _ => none) = _
    rw [hr]
    show (pds (l.map D.str)).map PyData.list = _
    rw [pds_strs]; rfl
  have e1 : pdH π (.lst (l.map D.str)) = some (.list (l.map PyData.str)) := by
    show pd _ = _
    simp only [pd, pds_strs, Option.map_some]
  show opt (eqD π _ _) _ = _
  unfold eqD
  rw [e0, e1]
  dsimp only
  rw [if_pos ⟨shaped_strs h, shaped_strs h⟩, opt_some]
  simp [PyData.eqv, eqv_strs]
/-- a turn's check of one row -/
noncomputable def chk (i : Nat) : MS := sIf (mB (mOp (fEqS true) (mArgs fRepr (mCons (mSaid 1 "law.<locals>.<lambda>" [i] 14 (mArgs (fCall 1 [] F_read_step) (mCons (mVar i) (mNil))) R__law_said) (mNil))) (mArgs fRepr (mCons (mArgs (fCall 2 [] F__law_row_due) (mCons (mVar i) (mCons (mC (.int 0)) (mNil)))) (mNil))))) (sRet (mC (.bl false))) (sNx)
theorem ask_env (i : Nat) (hi : i < 14) (d : D) : ∃ δ, onlyE [i] [d] (List.replicate 14 none) = some δ ∧ δ[i]? = some (some d) := by
  refine ⟨(List.replicate 14 none).set i (some d), rfl, ?_⟩
  rw [List.getElem?_set_self (by simpa using hi)]
theorem said_read {C : Nat} {π : PH} (h : Base C π) (i : Nat) (hi : i < 14) (δ : MI.Env) (x : Str) (hx : Ok x) (hδ : δ[i]? = some (some (.str x))) : ∃ e, mSaid 1 "law.<locals>.<lambda>" [i] 14 (mArgs (fCall 1 [] F_read_step) (mCons (mVar i) (mNil))) R__law_said δ π = .ok (resultD 0 (rowDue (Txt.split x (ch 32)))) (π ++ e) := by
  obtain ⟨e, he⟩ := read_step_ok x hx π h.t0
  refine ⟨e, ?_⟩
  rw [mSaid_ok h.t1 hδ]
  refine said_step x hx _ π e ?_
  obtain ⟨δ2, h1, h2⟩ := ask_env i hi (.str x)
  unfold askE
  rw [h1]
  dsimp only
  rw [mArgs_ap, mCons_ap, mVar_ap, h2]
  simp_arith [he]
theorem chk_ok {C : Nat} {π : PH} (h : Base C π) (i : Nat) (hi : i < 14) (δ : MI.Env) (x : Str) (hx : asc x) (hl : x.length ≤ 10000) (hδ : δ[i]? = some (some (.str x))) : ∃ e, chk i δ π = .nx δ (π ++ e) := by
  have hok : Ok x := ⟨hx, by rw [sz]; omega⟩
  obtain ⟨e, he⟩ := said_read h i hi δ x hok hδ
  obtain ⟨e2, he2⟩ := row_due_ok x hok 0 (π ++ e)
  have hr := fRepr_val (resultD_gd x hok 0 (by decide) (by decide)) (by decide) (by rw [sz]; omega)
  refine ⟨e ++ e2, ?_⟩
  unfold chk
  have hv : ∀ π, mVar i δ π = .ok (.str x) π := fun π => by rw [mVar_ap, hδ]
  rw [sIf_ap, mB_ap, mOp_ap, mArgs_ap, mCons_ap, he]
  simp_arith [hr]
  rw [hδ]
  simp_arith [he2, hr]
  rw [show (showD (resultD 0 (rowDue (Txt.split x (ch 32)))) == showD (resultD 0 (rowDue (Txt.split x (ch 32))))) = true from beq_self_eq_true _]
  simp_arith [List.append_assoc]
theorem forLoop_inv {s : Src} {set : SetD} {body : MS} (I : Nat → MI.Env → PH → Prop) (n : Nat) (hstep : ∀ i δ π, i < n → I i δ π → ∃ d δ1 δ2 π2, s.get π i = some d ∧ set d δ = some δ1 ∧ body δ1 π = .nx δ2 π2 ∧ I (i + 1) δ2 π2)
    (hfin : ∀ δ π, I n δ π → s.fin π = true) : ∀ (k i : Nat) (δ : MI.Env) (π : PH), i + k = n → I i δ π → ∃ δ' π', forLoop s set body k i δ π = .nx δ' π' ∧ I n δ' π' := by
  intro k
  induction k with
  | zero =>
    intro i δ π hi h
    have : i = n := by omega
    subst this
    exact ⟨δ, π, forLoop_end (hfin δ π h), h⟩
  | succ k ih =>
    intro i δ π hi h
    obtain ⟨d, δ1, δ2, π2, h1, h2, h3, h4⟩ := hstep i δ π (by omega) h
    rw [forLoop_nx h1 h2 h3]
    exact ih (i + 1) δ2 π2 (by omega) h4
end LW

set_option Elab.async false
set_option linter.all false
set_option maxRecDepth 100000
set_option maxHeartbeats 4000000
/-! The law's loops. -/
namespace LW
open PySem L2 MI TL
def lotD (lot : List Stp) : List D := lot.map Stp.d
def due (lot : List Stp) : List Str := lot.map Stp.row
def dueL (lot : List Stp) : List D := (due lot).map D.str
theorem gg_ok {s : Stp} (h : GG s) : Ok s.row := ⟨row_asc s h.1, by have := row_len s h.1; rw [sz]; omega⟩
theorem gd_d {s : Stp} (h : GG s) : Gd 12 212000 s.d := (rowDue_gd s.row (gg_ok h) (row_back s h.1 h.2)).mono (Nat.le_refl _) (by have := row_len s h.1; omega)
theorem gds_lot : ∀ {lot : List Stp}, (∀ s ∈ lot, GG s) → Gds 12 (212002 * lot.length) (lotD lot)
  | [], _ => Gds.nil 12
  | s :: lot, h => by
    have := Gds.cons (gd_d (h s List.mem_cons_self)) (gds_lot (lot := lot) fun x hx => h x (List.mem_cons_of_mem _ hx))
    exact this.mono (Nat.le_refl _) (by rw [List.length_cons]; omega)
theorem due_asc {lot : List Stp} (h : ∀ s ∈ lot, GG s) : ∀ w ∈ due lot, asc w ∧ w.length ≤ 700 := fun w hw => by
  obtain ⟨s, hs, rfl⟩ := List.mem_map.mp hw
  exact ⟨row_asc s (h s hs).1, row_len s (h s hs).1⟩
def env (F : List D) (lot : List Stp) (saved : Str) (x5 x6 x7 x8 x9 x10 x11 x12 : Option D) : MI.Env := [some (.frz F), some (.ref 2), some (.lst (lotD lot)), some (.lst (dueL lot)), some (.str saved), x5, x6, x7, x8, x9, x10, x11, x12, none]
noncomputable def lapB : MS := (sThen (sSet 7 (mArgs (fCall 2 [] F__law_bent_row) (mCons (mVar 1) (mCons (mOp fIx (mVar 3) (mVar 5)) (mNil))))) (sThen (sSet 7 (mIf (mB (mOp (fEqS false) (mVar 6) (mC (.int 2)))) (mArgs (fCall 2 [] F__law_bent_row) (mCons (mVar 1) (mCons (mVar 7) (mNil)))) (mVar 7))) (sIf (mB (mOp (fEqS true) (mArgs fRepr (mCons (mSaid 1 "law.<locals>.<lambda>" [7] 14 (mArgs (fCall 1 [] F_read_step) (mCons (mVar 7) (mNil))) R__law_said) (mNil))) (mArgs fRepr (mCons (mArgs (fCall 2 [] F__law_row_due) (mCons (mVar 7) (mCons (mC (.int 0)) (mNil)))) (mNil))))) (sRet (mC (.bl false))) (sNx))))
theorem ix_due {lot : List Stp} {k : Nat} {s : Stp} (h : lot[k]? = some s) (π : PH) : fIx (.lst (dueL lot)) (.int (k : Nat)) π = .ok (.str s.row) π := by
  unfold dueL due
  exact ix_str _ k s.row (by rw [List.getElem?_map, h]; rfl) π
theorem ix_lot {lot : List Stp} {k : Nat} {s : Stp} (h : lot[k]? = some s) (π : PH) : fIx (.lst (lotD lot)) (.int (k : Nat)) π = .ok s.d π := by
  rw [fIx_lst, atI_n]
  unfold lotD
  rw [List.getElem?_map, h]; rfl
theorem lap_ok {C : Nat} {π : PH} (h : Base C π) (hC : C + 30 < 1000000) (F : List D) (lot : List Stp) (saved : Str) (k : Nat) (s : Stp) (hk : lot[k]? = some s) (hs : GG s) (j : Nat) (x7 : Option D) :
    ∃ y7 π', lapB (env F lot saved (some (.int (k : Nat))) (some (.int (j : Nat))) x7 none none none none none) π = .nx (env F lot saved (some (.int (k : Nat))) (some (.int (j : Nat))) y7 none none none none none) π' ∧ Base (C + 10) π' := by
  obtain ⟨x, π1, a1, d1, e1, l1⟩ := bent_row_ok h (by omega) s.row (row_asc s hs.1) (by have := row_len s hs.1; omega)
  have hl := row_len s hs.1
  obtain ⟨y, π2, a2, d2, e2, l2⟩ := bent_row_ok d1.2 (by omega) x e1 (by omega)
  by_cases hj : j = 2
  · obtain ⟨e, he⟩ := chk_ok d2.2 7 (by decide) (env F lot saved (some (.int (k : Nat))) (some (.int (j : Nat))) (some (.str y)) none none none none none) y e2 (by omega) rfl
    refine ⟨some (.str y), π2 ++ e, ?_, (d2.2.app e).mono (by omega)⟩
    subst hj
    unfold chk at he
    unfold lapB
    unfold env at he ⊢
    simp_arith [ix_due hk, a1, show (((2 : Nat) : Int) == 2) = true from rfl, a2, he]
    exact he
  · obtain ⟨e, he⟩ := chk_ok d1.2 7 (by decide) (env F lot saved (some (.int (k : Nat))) (some (.int (j : Nat))) (some (.str x)) none none none none none) x e1 (by omega) rfl
    refine ⟨some (.str x), π1 ++ e, ?_, (d1.2.app e).mono (by omega)⟩
    have hj2 : (((j : Nat) : Int) == 2) = false := beq_eq_false_iff_ne.mpr (by omega)
    unfold chk at he
    unfold lapB
    unfold env at he ⊢
    simp_arith [ix_due hk, a1, hj2, he]
    exact he
noncomputable def body1 : MS := (sThen (sIf (mOr (mB (mOp (fEqS true) (mLst false (mCons (mArgs (fCall 1 [] F_step_row) (mCons (mOp fIx (mVar 2) (mVar 5)) (mNil))) (mCons (mArgs (fCall 1 [] F_step_row) (mCons (mOp fIx (mVar 2) (mVar 5)) (mNil))) (mNil)))) (mLst false (mCons (mOp fIx (mVar 3) (mVar 5)) (mCons (mOp fIx (mVar 3) (mVar 5)) (mNil)))))) (mB (mOp (fEqS true) (mArgs fRepr (mCons (mArgs (fCall 1 [] F_read_step) (mCons (mOp fIx (mVar 3) (mVar 5)) (mNil))) (mNil))) (mArgs fRepr (mCons (mOp fIx (mVar 2) (mVar 5)) (mNil)))))) (sRet (mC (.bl false))) (sNx)) (sFor (mSrcA fRng1 (mCons (mC (.int 3)) (mNil))) (setN 6) (sThen (sSet 7 (mArgs (fCall 2 [] F__law_bent_row) (mCons (mVar 1) (mCons (mOp fIx (mVar 3) (mVar 5)) (mNil))))) (sThen (sSet 7 (mIf (mB (mOp (fEqS false) (mVar 6) (mC (.int 2)))) (mArgs (fCall 2 [] F__law_bent_row) (mCons (mVar 1) (mCons (mVar 7) (mNil)))) (mVar 7))) (sIf (mB (mOp (fEqS true) (mArgs fRepr (mCons (mSaid 1 "law.<locals>.<lambda>" [7] 14 (mArgs (fCall 1 [] F_read_step) (mCons (mVar 7) (mNil))) R__law_said) (mNil))) (mArgs fRepr (mCons (mArgs (fCall 2 [] F__law_row_due) (mCons (mVar 7) (mCons (mC (.int 0)) (mNil)))) (mNil))))) (sRet (mC (.bl false))) (sNx))))))
theorem body1_ok {C : Nat} {π : PH} (h : Base C π) (hC : C + 60 < 1000000) (F : List D) (lot : List Stp) (saved : Str) (k : Nat) (s : Stp) (hk : lot[k]? = some s) (hs : GG s) (x6 x7 : Option D) :
    ∃ y6 y7 π', body1 (env F lot saved (some (.int (k : Nat))) x6 x7 none none none none none) π = .nx (env F lot saved (some (.int (k : Nat))) y6 y7 none none none none none) π' ∧ Base (C + 30) π' := by
  obtain ⟨e, he⟩ := read_step_ok s.row (gg_ok hs) π h.t0
  rw [row_back s hs.1 hs.2] at he
  have hrow := row_asc s hs.1
  have heq := eqS_strs (l := [s.row, s.row]) (fun w hw => by simp at hw; rw [hw]; exact hrow) true π
  have hrep := fRepr_val (gd_d hs) (by decide) (by rw [sz]; omega)
  have hb : Base C (π ++ e) := h.app e
  obtain ⟨δ', π', a1, y6, y7, rfl, b1⟩ := forLoop_inv (s := .fix (rngD 0 3)) (set := setN 6) (body := lapB) (fun j δ π' => ∃ y6 y7, δ = env F lot saved (some (.int (k : Nat))) y6 y7 none none none none none ∧ Base (C + 10 * j) π') 3
    (fun j δ π1 hj ⟨y6, y7, hδ, hB⟩ => by
      subst hδ
      obtain ⟨z7, π2, c1, c2⟩ := lap_ok hB (by omega) F lot saved k s hk hs j y7
      exact ⟨_, _, _, π2, rng_get 3 j hj π1, rfl, c1, _, _, rfl, c2.mono (by omega)⟩) (fun _ _ _ => rfl) 3 0 _ (π ++ e) rfl ⟨x6, x7, rfl, hb⟩
  refine ⟨y6, y7, π', ?_, b1⟩
  have hfor : sFor (mSrcA fRng1 (mCons (mC (.int 3)) (mNil))) (setN 6) lapB (env F lot saved (some (.int (k : Nat))) x6 x7 none none none none none) (π ++ e) = .nx (env F lot saved (some (.int (k : Nat))) y6 y7 none none none none none) π' := by
    rw [sFor_ap]
    have hr : fRng1 [.int 3] (π ++ e) = .ok (.fix (rngD 0 3)) (π ++ e) := rng_ok 3 (by omega) (π ++ e)
    simp_arith [mSrcA_ap, hr, rng_len]
    exact a1
  have hfor' := hfor
  unfold lapB at hfor'
  unfold env at hfor'
  unfold body1 env
  simp_arith [ix_lot hk, ix_due hk, step_row_ok s hs.1]
  simp only [List.map_cons, List.map_nil] at heq
  have he' : F_read_step [.str s.row] π = .ok s.d (π ++ e) := he
  simp_arith [heq, he', hrep, show (showD s.d == showD s.d) = true from beq_self_eq_true _, hfor']
theorem log_rows_ok (lot : List Stp) (hl : lot.length ≤ 100) (h : ∀ s ∈ lot, GG s) (π : PH) : F_log_rows [.tup (lotD lot)] π = .ok (.ref π.length) (π ++ [.lst (dueL lot)]) := by
  have e : mLc true [1] (mUn fSrc (mVar 0)) (setN 1) mYes (mArgs (fCall 1 [] F_step_row) (mCons (mVar 1) (mNil))) [some (.tup (lotD lot)), none] π = MI.alloc true (dueL lot) π := by
    have := lcLoop_st (xs := lotD lot) (set := setN 1) (te := mArgs (fCall 1 [] F_step_row) (mCons (mVar 1) (mNil))) (δ := wipeE [some (.tup (lotD lot)), none] [1]) (fun _ π' => π' = π) (fun i d => (dueL lot)[i]? = some d) (by unfold lotD; rw [List.length_map, sz]; omega) (fun i d π1 hx hI => by
      subst hI
      unfold lotD at hx
      rw [List.getElem?_map] at hx
      obtain ⟨s, hs, rfl⟩ := Option.map_eq_some_iff.mp hx
      refine ⟨_, .str s.row, π1, rfl, ?_, rfl, ?_⟩
      · rw [wipe_cons, wipe_nil]
        simp_arith [step_row_ok s (h s (List.mem_of_getElem? hs)).1]
      · unfold dueL due
        rw [List.map_map, List.getElem?_map, hs]; rfl) (lotD lot).length 0 [] π (by simp) rfl rfl (fun j e hd => by simp at hd)
    obtain ⟨es, π', e1, rfl, e3, e4⟩ := this
    have hes : es = dueL lot := by
      refine List.ext_getElem? fun i => ?_
      cases hx : es[i]? with
      | none =>
        have := List.getElem?_eq_none_iff.mp hx
        refine (List.getElem?_eq_none ?_).symm
        unfold dueL due lotD at *
        simp only [List.length_map] at *
        omega
      | some d => exact (e4 i d hx).symm
    unfold mLc
    rw [show mUn fSrc (mVar 0) [some (.tup (lotD lot)), none] π' = .ok (.fix (lotD lot)) π' from rfl, bind_ok]
    show (lcLoop (.fix (lotD lot)) (setN 1) mYes _ _ (lotD lot).length 0 [] π').bind _ = _
    rw [e1, hes]
    rfl
  unfold F_log_rows runB m_log_rows
  simp_arith [e]
theorem logGo_lot : ∀ (lot : List Stp) (i : Nat) (acc : List D), (∀ s ∈ lot, GG s) → logGo i acc (due lot) = .ok (acc ++ lotD lot) := by
  intro lot
  induction lot with
  | nil => intro i acc _; simp [due, logGo, lotD]
  | cons s r ih =>
    intro i acc h
    have hs := h s List.mem_cons_self
    show logGo i acc (s.row :: due r) = _
    unfold logGo
    rw [row_back s hs.1 hs.2]
    dsimp only
    rw [ih (i + 1) (acc ++ [s.d]) fun x hx => h x (List.mem_cons_of_mem _ hx)]
    simp [lotD]
end LW

set_option Elab.async false
set_option linter.all false
set_option maxRecDepth 100000
set_option maxHeartbeats 4000000
/-! The law. -/
namespace LW
open PySem L2 MI TL
noncomputable def pageB : MS := (sIf (mB (mOp (fEqS true) (mArgs fRepr (mCons (mSaid 1 "law.<locals>.<lambda>" [8] 14 (mArgs (fCall 1 [] F_read_step) (mCons (mVar 8) (mNil))) R__law_said) (mNil))) (mArgs fRepr (mCons (mArgs (fCall 2 [] F__law_row_due) (mCons (mVar 8) (mCons (mC (.int 0)) (mNil)))) (mNil))))) (sRet (mC (.bl false))) (sNx))
noncomputable def lapC : MS := (sThen (sUnp [10, 11] (mTup (mCons (mArgs (fLst true) (mCons (mVar 3) (mNil))) (mCons (mArgs (fCall 2 [] F__law_draw) (mCons (mVar 1) (mCons (mArgs fLen (mCons (mVar 3) (mNil))) (mNil)))) (mNil))))) (sThen (sPut (mVar 10) (mVar 11) (mArgs (fCall 2 [] F__law_bent_row) (mCons (mVar 1) (mCons (mOp fIx (mVar 10) (mVar 11)) (mNil))))) (sThen (sSet 12 (mArgs (fLst false) (mCons (mVar 10) (mNil)))) (sIf (mOr (mB (mOp (fEqS true) (mArgs fRepr (mCons (mSaid 1 "law.<locals>.<lambda>" [10] 14 (mArgs (fCall 1 [] F_read_log) (mCons (mVar 10) (mNil))) R__law_said) (mNil))) (mArgs fRepr (mCons (mArgs (fCall 1 [] F__law_log_due) (mCons (mVar 10) (mNil))) (mNil))))) (mB (mOp (fEqS true) (mVar 10) (mVar 12)))) (sRet (mC (.bl false))) (sNx)))))
theorem sum_len (l : List Str) (n : Nat) (h : ∀ w ∈ l, w.length ≤ n) : rz l ≤ (310 * (n + 1) + 20) * l.length := by
  have := sum_le l n h
  unfold rz
  have e : (310 * (n + 1) + 20) * l.length = 310 * (n * l.length) + 330 * l.length := by
    rw [Nat.add_mul, Nat.mul_assoc, Nat.add_mul, Nat.one_mul, Nat.mul_add]; omega
  omega
theorem lapC_ok {C : Nat} {π : PH} (h : Base C π) (hC : C + 30 < 1000000) (F : List D) (lot : List Stp) (saved : Str) (h25 : lot.length = 25) (hs : ∀ s ∈ lot, GG s) (x5 x6 x7 x8 x9 x10 x11 x12 : Option D) :
    ∃ y10 y11 y12 π', lapC (env F lot saved x5 x6 x7 x8 x9 x10 x11 x12) π = .nx (env F lot saved x5 x6 x7 x8 x9 y10 y11 y12) π' ∧ Base (C + 10) π' := by
  have hl3 := h.lt
  have hlen : (dueL lot).length = 25 := by unfold dueL due; rw [List.length_map, List.length_map, h25]
  have h1 : Base C (π ++ [.lst (dueL lot)]) := h.app _
  obtain ⟨v, π1, a1, b1, c1, d1⟩ := draw_b h1 (by omega) 25 (by decide) (by decide)
  obtain ⟨k, rfl⟩ := Int.eq_ofNat_of_zero_le a1
  have hk : k < lot.length := by omega
  have hkl : lot[k]? = some lot[k] := List.getElem?_eq_getElem hk
  have hsk := hs _ (List.getElem_mem hk)
  have hr1 : π1[π.length]? = some (.lst (dueL lot)) := by rw [drawn_get d1 (by omega)]; exact at_end π _
  have hrow := row_len lot[k] hsk.1
  obtain ⟨x, π2, a2, d2, e2, l2⟩ := bent_row_ok d1.2 (by omega) lot[k].row (row_asc _ hsk.1) (by omega)
  have hr2 : π2[π.length]? = some (.lst (dueL lot)) := by rw [drawn_get d2 (by omega)]; exact hr1
  have hix : fIx (.ref π.length) (.int (k : Nat)) π1 = .ok (.str lot[k].row) π1 := by
    rw [ix_ref hr1, atI_n]
    unfold dueL due
    rw [List.map_map, List.getElem?_map, hkl]; rfl
  have hix2 : ixN (dueL lot).length (k : Int) = some k := by
    unfold ixN
    rw [if_pos (by omega), if_pos (by rw [hlen]; omega), Int.toNat_natCast]
  have hput : fPut (.ref π.length) (.int (k : Nat)) (.str x) π2 = some (π2.set π.length (.lst (((due lot).set k x).map D.str))) := by
    show (match π2[π.length]? with | some (.lst xs) => (ixN xs.length (k : Int)).map fun j => π2.set π.length (.lst (xs.set j (.str x))) | _ => none) = _
    rw [hr2]
    dsimp only
    rw [hix2]
    show some (π2.set π.length (.lst ((dueL lot).set k (.str x)))) = _
    unfold dueL
    rw [List.map_set]
  have hrows : ∀ w ∈ (due lot).set k x, asc w ∧ w.length ≤ 1500 := fun w hw => by
    rcases List.mem_or_eq_of_mem_set hw with hw | rfl
    · obtain ⟨p, q⟩ := due_asc hs w hw; exact ⟨p, by omega⟩
    · exact ⟨e2, by omega⟩
  have hrl : ((due lot).set k x).length = 25 := by rw [List.length_set]; unfold due; rw [List.length_map, h25]
  generalize (due lot).set k x = rows at hput hrows hrl
  have h3 : Base (C + 1 + 5) (π2.set π.length (.lst (rows.map D.str))) := d2.2.set _ (by omega) _
  have hr3 : (π2.set π.length (.lst (rows.map D.str)))[π.length]? = some (.lst (rows.map D.str)) := set_lst hr2
  generalize π2.set π.length (.lst (rows.map D.str)) = π3 at hput h3 hr3
  have hok : ∀ s ∈ rows, Ok s := fun s hs => ⟨(hrows s hs).1, by have := (hrows s hs).2; rw [sz]; omega⟩
  obtain ⟨e, he⟩ := read_log_ref π.length rows hok (by rw [hrl]; decide) π3 h3.t0 hr3
  obtain ⟨e', he'⟩ := log_due_ok π.length rows hok (by rw [hrl]; decide) (π3 ++ e) (tab_app hr3)
  have hz := sum_len rows 1500 (fun w hw => (hrows w hw).2)
  rw [hrl] at hz
  have hrep := fRepr_val (logD_gd rows hok (by rw [hrl]; decide)) (by decide) (by rw [sz]; omega)
  have hsaid : mSaid 1 "law.<locals>.<lambda>" [10] 14 (mArgs (fCall 1 [] F_read_log) (mCons (mVar 10) (mNil))) R__law_said (env F lot saved x5 x6 x7 x8 x9 (some (.ref π.length)) (some (.int (k : Nat))) (some (.lst (rows.map D.str)))) π3 = .ok (logD (logGo 0 [] rows)) (π3 ++ e) := by
    rw [mSaid_ok h3.t1 (d := .ref π.length) rfl]
    refine said_log _ _ π3 e ?_
    obtain ⟨δ2, q1, q2⟩ := ask_env 10 (by decide) (.ref π.length)
    unfold askE
    rw [q1]
    dsimp only
    rw [mArgs_ap, mCons_ap, mVar_ap, q2]
    simp_arith [he]
  have hne := eqS_ref (fun w hw => (hrows w hw).1) true (tab_app (e := e') (tab_app (e := e) hr3))
  refine ⟨some (.ref π.length), some (.int (k : Nat)), some (.lst (rows.map D.str)), π3 ++ e ++ e', ?_, ((h3.app e).app e').mono (by omega)⟩
  have hll : fLst false [.ref π.length] π3 = .ok (.lst (rows.map D.str)) π3 := by
    show opt (sqOf π3 (.ref π.length)) (fun xs => MI.alloc false xs π3) = _
    rw [show sqOf π3 (.ref π.length) = some (rows.map D.str) by show (match π3[π.length]? with | some (.lst ds) => some ds | _ => none) = _; rw [hr3]]
    rfl
  have hlt : fLst true [.lst (dueL lot)] π = .ok (.ref π.length) (π ++ [.lst (dueL lot)]) := rfl
  have hln : ∀ π, fLen [.lst (dueL lot)] π = .ok (.int 25) π := fun π => by rw [fLen_lst, hlen]; rfl
  have hsaid' := hsaid
  unfold env at hsaid'
  unfold lapC env
  simp_arith [hlt, hln, c1, hix, a2, sPut_ap, hput, hll, hsaid', hrep, he', show (showD (logD (logGo 0 [] rows)) == showD (logD (logGo 0 [] rows))) = true from beq_self_eq_true _, hne]
theorem source_ok (ns : List Int) (π : PH) (hl : π.length = 2) : F__law_source [.frz (ns.map D.int)] π = .ok (.ref 2) (π ++ [srcO (ns.take 63) 0 0 0]) := by
  have e : fSl false none (some 63) (.frz (ns.map D.int)) π = .ok (.lst ((ns.take 63).map D.int)) π := by
    show opt (lsOf π (.frz (ns.map D.int))) (fun ds => MI.alloc false (cut ds none (some 63)) π) = _
    rw [show lsOf π (.frz (ns.map D.int)) = some (ns.map D.int) from rfl, opt_some, show cut (ns.map D.int) none (some 63) = (ns.map D.int).take 63 from cut_to _ 63, List.map_take]
    rfl
  unfold F__law_source runB m__law_source
  simp_arith [e]
  rw [hl]
  rfl
def pis : PH := [.tbl q0, .tbl q1]
theorem plain (ns : List Int) : ∃ π', runB 14 m_law [.frz (ns.map D.int)] pis = .ok (.bl true) π' := by
  have hsrc := source_ok ns pis rfl
  have hB0 : Base 0 (pis ++ [srcO (ns.take 63) 0 0 0]) := ⟨rfl, rfl, ns.take 63, 0, 0, 0, rfl, by omega, by omega, by omega⟩
  generalize pis ++ [srcO (ns.take 63) 0 0 0] = π1 at hsrc hB0
  obtain ⟨lot, π2, a2, b2, h25, hs⟩ := steps_ok hB0 (by omega)
  have hdueL : mLc false [13] (mUn fSrc (mVar 2)) (setN 13) mYes (mArgs (fCall 1 [] F__law_row) (mCons (mVar 13) (mNil))) [some (.frz (ns.map D.int)), some (.ref 2), some (.lst (lotD lot)), none, none, none, none, none, none, none, none, none, none, none] π2 = .ok (.lst (dueL lot)) π2 := by
    obtain ⟨es, π', e1, e2, e3, e4⟩ := mLc_st (i0 := 13) (src := mUn fSrc (mVar 2)) (xs := lotD lot) (te := mArgs (fCall 1 [] F__law_row) (mCons (mVar 13) (mNil))) (δ := [some (.frz (ns.map D.int)), some (.ref 2), some (.lst (lotD lot)), none, none, none, none, none, none, none, none, none, none, none]) (π0 := π2) (fun _ π' => π' = π2) (fun i d => (dueL lot)[i]? = some d) (src_lst rfl) (by unfold lotD; rw [List.length_map, h25]; decide) rfl (fun i d π1 hx hI => by
      subst hI
      unfold lotD at hx
      rw [List.getElem?_map] at hx
      obtain ⟨s, hs1, rfl⟩ := Option.map_eq_some_iff.mp hx
      refine ⟨.str s.row, π1, ?_, rfl, ?_⟩
      · rw [wipe_cons, wipe_nil]
        simp_arith [law_row_ok s (hs s (List.mem_of_getElem? hs1)).1]
      · unfold dueL due
        rw [List.map_map, List.getElem?_map, hs1]; rfl)
    subst e2
    have hes : es = dueL lot := by
      refine List.ext_getElem? fun i => ?_
      cases hx : es[i]? with
      | none =>
        have := List.getElem?_eq_none_iff.mp hx
        refine (List.getElem?_eq_none ?_).symm
        unfold dueL due
        unfold lotD at e3
        simp only [List.length_map] at *
        omega
      | some d => exact (e4 i d hx).symm
    rw [e1, hes]
  have hgl := gds_lot hs
  rw [h25] at hgl
  have hrepl := fRepr_val (Gd.lst hgl) (by decide) (by rw [sz]; omega)
  have hrept := fRepr_val (Gd.tup hgl) (by decide) (by rw [sz]; omega)
  generalize hsaved : showD (.lst (lotD lot)) = saved at hrepl
  have hlotlen : ∀ π, fLen [.lst (lotD lot)] π = .ok (.int 25) π := fun π => by rw [fLen_lst]; unfold lotD; rw [List.length_map, h25]; rfl
  -- the first loop
  obtain ⟨δ3, π3, a3, x5, x6, x7, rfl, b3⟩ := forLoop_inv (s := .fix (rngD 0 25)) (set := setN 5) (body := body1) (fun k δ π => ∃ x5 x6 x7, δ = env (ns.map D.int) lot saved x5 x6 x7 none none none none none ∧ Base (0 + 60 + 30 * k) π) 25
    (fun k δ π hk ⟨x5, x6, x7, hδ, hB⟩ => by
      subst hδ
      have hkl : lot[k]? = some lot[k] := List.getElem?_eq_getElem (by omega)
      obtain ⟨y6, y7, π', c1, c2⟩ := body1_ok hB (by omega) (ns.map D.int) lot saved k lot[k] hkl (hs _ (List.getElem_mem _)) x6 x7
      exact ⟨_, _, _, π', rng_get 25 k hk π, rfl, c1, _, _, _, rfl, c2.mono (by omega)⟩) (fun _ _ _ => rfl) 25 0 _ π2 rfl ⟨none, none, none, rfl, b2⟩
  have for1 : sFor (mSrcA fRng1 (mCons (mArgs fLen (mCons (mVar 2) (mNil))) (mNil))) (setN 5) body1 (env (ns.map D.int) lot saved none none none none none none none none) π2 = .nx (env (ns.map D.int) lot saved x5 x6 x7 none none none none none) π3 := by
    have hr : fRng1 [.int 25] π2 = .ok (.fix (rngD 0 25)) π2 := rng_ok 25 (by omega) π2
    rw [sFor_ap]
    unfold env at a3 ⊢
    simp_arith [mSrcA_ap, hlotlen, hr, rng_len]
    exact a3
  -- the rows by hand
  obtain ⟨r, e4, p4, q4, r4⟩ := by_hand_ok π3
  have hB4 := b3.app e4
  generalize π3 ++ e4 = π4 at p4 q4 hB4
  obtain ⟨δ5, π5, a5, x8, rfl, b5⟩ := forLoop_inv (s := .mut r byHand.length) (set := setN 8) (body := pageB) (fun k δ π => ∃ x8, δ = env (ns.map D.int) lot saved x5 x6 x7 x8 none none none none ∧ (Base (0 + 60 + 30 * 25) π ∧ π[r]? = some (.lst (byHand.map D.str)))) byHand.length
    (fun k δ π hk ⟨x8, hδ, hB, hr⟩ => by
      subst hδ
      have hkl : byHand[k]? = some byHand[k] := List.getElem?_eq_getElem hk
      have hx := byHand_ok _ (List.getElem_mem hk)
      obtain ⟨e, he⟩ := chk_ok hB 8 (by decide) (env (ns.map D.int) lot saved x5 x6 x7 (some (.str byHand[k])) none none none none) byHand[k] hx.1 (by omega) rfl
      refine ⟨.str byHand[k], _, _, π ++ e, ?_, rfl, he, _, rfl, hB.app e, tab_app hr⟩
      show (match π[r]? with | some (.lst ys) => if ys.length = byHand.length then ys[k]? else none | _ => none) = _
      rw [hr]
      dsimp only
      rw [if_pos (by simp), List.getElem?_map, hkl]; rfl)
    (fun δ π ⟨x8, hδ, hB, hr⟩ => by
      show (match π[r]? with | some (.lst ys) => decide (ys.length = byHand.length) | _ => false) = true
      rw [hr]
      simp) byHand.length 0 _ π4 (by simp) ⟨none, rfl, hB4, q4⟩
  have for2 : sFor (mUn fSrc ((fun _ π => F__law_by_hand [] π))) (setN 8) pageB (env (ns.map D.int) lot saved x5 x6 x7 none none none none none) π3 = .nx (env (ns.map D.int) lot saved x5 x6 x7 x8 none none none none) π5 := by
    have hsr : mUn fSrc ((fun _ π => F__law_by_hand [] π)) (env (ns.map D.int) lot saved x5 x6 x7 none none none none none) π3 = .ok (.mut r byHand.length) π4 := by
      rw [mUn_ap, p4, bind_ok]
      show opt (srcOf π4 (.ref r)) (fun s => Res.ok s π4) = _
      rw [show srcOf π4 (.ref r) = some (.mut r byHand.length) by show (match π4[r]? with | some (.lst ys) => some (Src.mut r ys.length) | _ => none) = _; rw [q4]; simp]
      rfl
    rw [sFor_ap, hsr, sb_ok]
    exact a5
  -- the logs
  have h5 := b5.1
  have hl5 := h5.lt
  have hlog := fun π => log_rows_ok lot (by omega) hs π
  have hda := fun w hw => (due_asc hs w hw).1
  have h6 : Base (0 + 60 + 30 * 25) ((π5 ++ [O.lst (dueL lot)]).set π5.length (O.lst (dueL lot ++ [D.str "add a"]))) := (h5.app _).set _ (by omega) _
  have hap := append_ref (at_end π5 (.lst (dueL lot))) (.str "add a") (by unfold dueL due; rw [List.length_map, List.length_map, h25]; decide)
  have hty := tyB_ref (at_end π5 (.lst (dueL lot)))
  generalize (π5 ++ [O.lst (dueL lot)]).set π5.length (O.lst (dueL lot ++ [D.str "add a"])) = π6 at h6 hap
  have h7 : Base (0 + 60 + 30 * 25) (π6 ++ [.lst (dueL lot)]) := h6.app _
  have hq := eqS_ref hda true (at_end π6 (.lst ((due lot).map D.str)))
  obtain ⟨e8, he8⟩ := read_log_lst (due lot) (fun s hw => ⟨(due_asc hs s hw).1, by have := (due_asc hs s hw).2; rw [sz]; omega⟩) (by unfold due; rw [List.length_map, h25]; decide) (π6 ++ [.lst (dueL lot)]) h7.t0
  rw [logGo_lot lot 0 [] hs, List.nil_append] at he8
  have he8' : F_read_log [.lst (dueL lot)] (π6 ++ [.lst (dueL lot)]) = .ok (.tup (lotD lot)) (π6 ++ [.lst (dueL lot)] ++ e8) := he8
  have h8 : Base (0 + 60 + 30 * 25) (π6 ++ [.lst (dueL lot)] ++ e8) := h7.app _
  have hq' : fEqS true (.ref π6.length) (.lst (dueL lot)) (π6 ++ [.lst (dueL lot)]) = .ok (.bl (true != true)) (π6 ++ [.lst (dueL lot)]) := hq
  generalize π6 ++ [.lst (dueL lot)] ++ e8 = π8 at he8' h8
  -- the last loop
  obtain ⟨δ9, π9, a9, y6, y10, y11, y12, rfl, b9⟩ := forLoop_inv (s := .fix (rngD 0 12)) (set := setN 6) (body := lapC) (fun k δ π => ∃ y6 y10 y11 y12, δ = env (ns.map D.int) lot saved x5 y6 x7 x8 (some (.ref π5.length)) y10 y11 y12 ∧ Base (0 + 60 + 30 * 25 + 10 * k) π) 12
    (fun k δ π hk ⟨y6, y10, y11, y12, hδ, hB⟩ => by
      subst hδ
      obtain ⟨z10, z11, z12, π', c1, c2⟩ := lapC_ok hB (by omega) (ns.map D.int) lot saved h25 hs x5 (some (.int (k : Nat))) x7 x8 (some (.ref π5.length)) y10 y11 y12
      exact ⟨_, _, _, π', rng_get 12 k hk π, rfl, c1, _, _, _, _, rfl, c2.mono (by omega)⟩) (fun _ _ _ => rfl) 12 0 _ π8 rfl ⟨x6, none, none, none, rfl, h8⟩
  have for3 : sFor (mSrcA fRng1 (mCons (mC (.int 12)) (mNil))) (setN 6) lapC (env (ns.map D.int) lot saved x5 x6 x7 x8 (some (.ref π5.length)) none none none) π8 = .nx (env (ns.map D.int) lot saved x5 y6 x7 x8 (some (.ref π5.length)) y10 y11 y12) π9 := by
    have hr : fRng1 [.int 12] π8 = .ok (.fix (rngD 0 12)) π8 := rng_ok 12 (by omega) π8
    rw [sFor_ap]
    unfold env at a9 ⊢
    simp_arith [mSrcA_ap, hr, rng_len]
    exact a9
  -- the end
  obtain ⟨e10, he10⟩ := read_log_lst [] (fun _ h => by cases h) (by decide) π9 b9.t0
  have he10' : F_read_log [.lst []] π9 = .ok (.tup []) (π9 ++ e10) := he10
  have hlog0 := log_rows_ok [] (by decide) (fun _ h => by cases h) (π9 ++ e10)
  have hlog0' : F_log_rows [.tup []] (π9 ++ e10) = .ok (.ref (π9 ++ e10).length) (π9 ++ e10 ++ [.lst []]) := hlog0
  have hz1 : ∀ π, fEqS false (.tup []) (.tup []) π = .ok (.bl true) π := fun _ => rfl
  have hz2 : fEqS false (.ref (π9 ++ e10).length) (.lst []) (π9 ++ e10 ++ [.lst []]) = .ok (.bl true) (π9 ++ e10 ++ [.lst []]) := (Gds.nil 0).eq_nil (by omega) false _ _ (at_end _ _)
  refine ⟨π9 ++ e10 ++ [.lst []], ?_⟩
  have for1' := for1
  have for2' := for2
  have for3' := for3
  unfold body1 at for1'
  unfold pageB at for2'
  unfold lapC at for3'
  unfold env at for1' for2' for3'
  unfold runB m_law
  have a2' : F__law_steps [.ref 2] π1 = .ok (.lst (lotD lot)) π2 := a2
  simp_arith [hsrc, a2', hdueL, hrepl, for1', for2', hlog, hty, hap, hq', he8', hrept, hrepl, show (showD (.tup (lotD lot)) == showD (.tup (lotD lot))) = true from beq_self_eq_true _, show (saved == saved) = true from beq_self_eq_true _, for3', he10', hz1, hlog0', hz2]
end LW

set_option Elab.async false
set_option linter.all false
set_option maxRecDepth 100000
set_option maxHeartbeats 4000000
namespace LW
open PySem PySem.Spec PyProof.Rows L2 MI
theorem tf_nodup {K : PySem.W.Frag} {mg : Str → Option Value} (c : Ct K mg) : (tf.map fun p => (He.cT K p).2).Nodup := of_decide_eq_true (c.exq 12 (f := nodupB tf) rfl)
theorem noSeq {K : PySem.W.Frag} {mg : Str → Option Value} (c : Ct K mg) : noSeqB K = true := c.exq 11 (f := noSeqB) rfl
def qs : List Str := ["StepReader.step_written.<locals>.<lambda>", "law.<locals>.<lambda>"]
def pi0 : PH := qs.map O.tbl
/-- the plain law -/
def Law : Prop := ∀ ns : List Int, ns.length ≤ 63 → (∀ z ∈ ns, Builtin.Int.intBits z ≤ 1048576) → ∃ π', runB 14 m_law [.frz (ns.map D.int)] pi0 = .ok (.bl true) π'
theorem law_call (pl : Law) (w : World) (mg : Str → Option Value) (fa : Addr) (h : Heap) (Y : hk.says w h) (hg : h.Ns mainGlobals mg) (hm : mg "law" = some (.ref fa)) : ∃ (K : PySem.W.Frag) (cs : List (Addr × Addr)), K.In h ∧ noSeqB K = true ∧
      (∀ p ∈ cs, h.get? p.2 = some { cls := .none, data := .fields #[] }) ∧ (∀ p ∈ cs, K.lookup p.2 = none) ∧ (∀ p ∈ cs, PySem.W.CodeHd h p.1 p.2) ∧
      ∀ (s : Shared) (base : Heap) (H : Hp) (a : Addr) (o : Obj) (ns : List Int), s.heap = h → ns.length ≤ 63 → (∀ z ∈ ns, Builtin.Int.intBits z ≤ 1048576) → K.In base → base.Ns mainGlobals mg → (∀ p ∈ cs, LamX.TabB base mg p.1 p.2) → Env0 PR w K mg base callerA [] s H →
        (∀ p ∈ cs, H p.2 = some (.tbl #[])) → H a = some (.frz o (.lst (ns.map V.int))) →
        codeAny (model PR w) callerA (.call (.ref fa) ⟨[.ref a], []⟩) (CR (L2.CX PR w) [] PR w H s (fun v _ => v = .bl true) (fun _ _ _ => False)) s := by
  obtain ⟨K, KX, sm⟩ := Y
  have cc : Ct K mg := ⟨h, KX, hg, sm⟩
  have e : fa = He.fAd K ("law", none) := by
    have z := cc.g_law
    rw [hm] at z
    cases z
    rfl
  refine ⟨K, tf.map (He.cT K), KX, noSeq cc, fun p hp => ?_, fun p hp => ?_, fun p hp => ?_, fun s base H a o ns hs hl hz kb gb tb e0 hT ha => ?_⟩
  · obtain ⟨p', hp', rfl⟩ := List.mem_map.mp hp
    exact sm.empty p' hp'
  · obtain ⟨p', hp', rfl⟩ := List.mem_map.mp hp
    exact sm.out p' hp'
  · obtain ⟨p', hp', rfl⟩ := List.mem_map.mp hp
    exact PySem.W.codeHd_of_K KX (sm.hd p' hp')
  · obtain ⟨fd, Fu⟩ := cc.def_ 46 rfl
    subst e
    have tb' : TB K mg base := fun p hp => tb _ (List.mem_map.mpr ⟨p, hp, rfl⟩)
    have r : RelP (gOf K) (fun _ => False) (tf.map fun p => (He.cT K p).2) pi0 H := relP_start rfl (tf_nodup cc) (fun p hp => hT _ (List.mem_map.mpr ⟨p, hp, rfl⟩)) fun t p ht => by
      show (He.cT K (tf.getD t ("", none))).2 = _
      rw [List.getD_eq_getElem?_getD, ht]
      rfl
    exact law_fin (g := gOf K) (at_ := ("law", none)) (k := 13) (N := ["_law_script", "_law_source_here", "_law_lot", "_law_due", "_law_saved", "_law_k", "_law_lap", "_law_bent", "_law_page", "_law_found", "_law_pages_now", "_law_at", "_law_kept", "_law_deed"]) (ps := ["_law_script"]) Fu sc_law rfl ⟨rfl, by decide, by decide⟩ e0 (fun cdv E hr tk hcode => b_law cc tb' hr tk hcode) (fun _ _ _ _ _ _ us hl => match us, hl with | [_], _ => rfl) r (.cons (.frz ha (rds_ints ns)) .nil) (pl ns hl hz)
end LW
open PySem PySem.W PySem.Calls PyProof.Rows
theorem law_holds (pl : LW.Law) : PySem.Challenge.rw_centbook_k74_rows_and_errors.Holds := by
  w_on; o_law
  refine HandSHeadRun.head_any (r := OpenLaw.row PySem.Challenge.rw_centbook_k74_rows_and_errors) (q := view (OpenLaw.row PySem.Challenge.rw_centbook_k74_rows_and_errors).prog [65]) (H := LW.hk) (ob := LW.ob) (M := 6000) (loose := LW.loose) (d := HandSHeadRun.topDef (OpenLaw.row PySem.Challenge.rw_centbook_k74_rows_and_errors).prog 65) (kwd := []) LW.ob_eq
    (by kernel_rfl) (fun s => by kernel_rfl) LW.run (by kernel_rfl) (by kernel_rfl) (by kernel_rfl) (by rfl) (by first | assumption | decide +kernel) (by decide +kernel) ⟨rfl, rfl, rfl, rfl, rfl, by decide +kernel⟩ ?hw ?hc
  case hw => w_witness2
  case hc =>
    refine MI.walk_at (l := PySem.Challenge.rw_centbook_k74_rows_and_errors) (n := 63) rfl (by decide) (by kernel_rfl) ?F
    intro w mg fa h Y G hmg0
    have hmg : mg ("law" : PySem.Str) = some (.ref fa) := by
      have e : (HandSHeadRun.topDef (OpenLaw.row PySem.Challenge.rw_centbook_k74_rows_and_errors).prog 65).name = ("law" : PySem.Str) := by kernel_rfl
      rw [← e]
      exact hmg0
    exact LW.law_call pl w mg fa h Y G hmg

set_option maxRecDepth 100000 in
set_option maxHeartbeats 8000000 in
theorem PySem.Challenge.cw_centbook_k74_rows_and_errors_holds : PySem.Challenge.rw_centbook_k74_rows_and_errors.Holds := by
  exact law_holds fun ns _ _ => LW.plain ns
