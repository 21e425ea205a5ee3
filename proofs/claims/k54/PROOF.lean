import PyProof.Rows.All
import Wide.All
import OpenK.AllK
import Wide.FinOn
import KE.KStateDown
import HandS.ForMost
import HandS.ForExc
import HandS.TupAny
import HandS.IsInst
import HandS.TryMany
import HandS.ExcIs
import HandS.ExcField
import HandS.SortInts
import HandS.Small
import HandS.StrMore
import HandS.WideBits
import HandS.Defaults
import KE.KDictKeyed
import KE.KDictCopyH
import KE.KDictZip
import HandS.TupMul
import HandS.List
import PyProof.EqKinds
import PyProof.FactsAll.dict_1
import HandS.Style
import HandS.TupLe
import HandS.RaiseMore
import HandS.More
import HandS.SetFor
import KE.DataMinMax
import HandS.Dict
import HandS.Iter
import HandS.Flow
import HandS.Rev
import KE.KRevSl
import PyProof.ListRange
import KE.GoesEnum
import HandS.HeadHook1
import HandS.HeadHook2
import HandS.Codes
import HandS.HeadEnd
import HandS.Head0
import HandS.Head1
import HandS.Head2
import HandS.ExcInit
import HandS.Nested
import KE.KExcSuper
import KE.KSuperObj
import PySem.Challenge.RW_keptlengths_k54_whole_things_as_texts
set_option Elab.async false
set_option linter.all false
set_option maxRecDepth 100000
/-! DL1: pure data over the hand layer: values D, partial memory Mem, how they lie in the layer's heap, and the judgements lifted. -/
namespace DL
open PySem PySem.Spec PyProof.Rows L2

/-- a value: tuples are data, what may change stands at an address -/
inductive D where
  | non | bl (b : Bool) | int (i : Int) | str (l : List Nat) | tup (xs : List D) | obj (a : Addr)
  deriving Inhabited

def S (l : List Nat) : Str := ⟨l.toArray⟩
theorem S_list (z : Str) : S z.cps.toList = z := by cases z; simp [S]
theorem S_cps (l : List Nat) : (S l).cps.toList = l := by simp [S]
theorem S_len (l : List Nat) : (S l).length = l.length := by simp [S, Str.length]
theorem S_app (a b : List Nat) : S a ++ S b = S (a ++ b) := by
  show Str.append _ _ = _
  simp [S, Str.append]
theorem S_inj {a b : List Nat} (h : S a = S b) : a = b := by
  have := congrArg (fun z : Str => z.cps.toList) h
  simpa [S] using this

mutual
def RepD (K : PySem.W.Frag) (H : Hp) : D → V → Prop
  | .non, v => v = .non
  | .bl b, v => v = .bl b
  | .int i, v => v = .int i
  | .str l, v => v = .str (S l)
  | .tup ds, v => ∃ a vs, v = .ref a ∧ SqT K H a vs ∧ RepL K H ds vs
  | .obj a, v => v = .ref a
def RepL (K : PySem.W.Frag) (H : Hp) : List D → List V → Prop
  | [], vs => vs = []
  | d :: ds, vs => ∃ v ws, vs = v :: ws ∧ RepD K H d v ∧ RepL K H ds ws
end

/-- tuples and known things stay -/
structure Keep (H H' : Hp) : Prop where
  tup : ∀ b xs, H b = some (.tup xs) → H' b = some (.tup xs)
  frz : ∀ b o u, H b = some (.frz o u) → H' b = some (.frz o u)
theorem Keep.rfl' {H : Hp} : Keep H H := ⟨fun _ _ h => h, fun _ _ _ h => h⟩
theorem Keep.trans {H H1 H2 : Hp} (a : Keep H H1) (b : Keep H1 H2) : Keep H H2 := ⟨fun c xs h => b.tup c xs (a.tup c xs h), fun c o u h => b.frz c o u (a.frz c o u h)⟩
theorem Keep.new {H : Hp} {p : Addr} {o : HO} (h : H p = none) : Keep H (upd H p o) := ⟨fun b xs e => by rw [upd_ne (ne_of_none e h)]; exact e, fun b ob u e => by rw [upd_ne (ne_of_none e h)]; exact e⟩
theorem Keep.mut {H : Hp} {p : Addr} {o ob : HO} (h : H p = some ob) (m : Mut (some ob)) : Keep H (upd H p o) :=
  ⟨fun b xs e => by
    have : b ≠ p := fun z => by subst z; rw [h] at e; cases e; exact m
    rw [upd_ne this]; exact e, fun b o u e => by
    have : b ≠ p := fun z => by subst z; rw [h] at e; cases e; exact m
    rw [upd_ne this]; exact e⟩
theorem sqT_keep {K : PySem.W.Frag} {H H' : Hp} {a : Addr} {xs : List V} (k : Keep H H') (h : SqT K H a xs) : SqT K H' a xs := by
  rcases h with (h | ⟨o, h⟩) | h
  · exact .inl (.inl (k.tup _ _ h))
  · exact .inl (.inr ⟨o, k.frz _ _ _ h⟩)
  · exact .inr h

mutual
theorem RepD.keep {K : PySem.W.Frag} {H H' : Hp} (k : Keep H H') : ∀ (d : D) (v : V), RepD K H d v → RepD K H' d v
  | .non, v, h => h
  | .bl b, v, h => h
  | .int i, v, h => h
  | .str l, v, h => h
  | .tup ds, v, h => by
    unfold RepD at h ⊢
    obtain ⟨a, vs, e, q, r⟩ := h
    exact ⟨a, vs, e, sqT_keep k q, RepL.keep k ds vs r⟩
  | .obj a, v, h => h
theorem RepL.keep {K : PySem.W.Frag} {H H' : Hp} (k : Keep H H') : ∀ (ds : List D) (vs : List V), RepL K H ds vs → RepL K H' ds vs
  | [], vs, h => h
  | d :: ds, vs, h => by
    unfold RepL at h ⊢
    obtain ⟨v, ws, e, r, q⟩ := h
    exact ⟨v, ws, e, RepD.keep k d v r, RepL.keep k ds ws q⟩
end

section
variable {K : PySem.W.Frag} {H : Hp}
theorem RepD.non {v : V} : RepD K H .non v ↔ v = .non := by unfold RepD; exact Iff.rfl
theorem RepD.bl {b : Bool} {v : V} : RepD K H (.bl b) v ↔ v = .bl b := by unfold RepD; exact Iff.rfl
theorem RepD.int {i : Int} {v : V} : RepD K H (.int i) v ↔ v = .int i := by unfold RepD; exact Iff.rfl
theorem RepD.str {l : List Nat} {v : V} : RepD K H (.str l) v ↔ v = .str (S l) := by unfold RepD; exact Iff.rfl
theorem RepD.tup {ds : List D} {v : V} : RepD K H (.tup ds) v ↔ ∃ a vs, v = .ref a ∧ SqT K H a vs ∧ RepL K H ds vs := by unfold RepD; exact Iff.rfl
theorem RepD.obj {a : Addr} {v : V} : RepD K H (.obj a) v ↔ v = .ref a := by unfold RepD; exact Iff.rfl
theorem RepL.nil {vs : List V} : RepL K H [] vs ↔ vs = [] := by unfold RepL; exact Iff.rfl
theorem RepL.cons {d : D} {ds : List D} {vs : List V} : RepL K H (d :: ds) vs ↔ ∃ v ws, vs = v :: ws ∧ RepD K H d v ∧ RepL K H ds ws := by
  constructor
  · intro h; unfold RepL at h; exact h
  · intro h; unfold RepL; exact h
theorem RepL.length : ∀ {ds : List D} {vs : List V}, RepL K H ds vs → ds.length = vs.length
  | [], vs, h => by rw [RepL.nil] at h; subst h; rfl
  | d :: ds, vs, h => by
    obtain ⟨v, ws, e, r, q⟩ := RepL.cons.mp h
    subst e
    simp [RepL.length q]
theorem RepL.app : ∀ {ds es : List D} {vs ws : List V}, RepL K H ds vs → RepL K H es ws → RepL K H (ds ++ es) (vs ++ ws)
  | [], es, vs, ws, h, h' => by rw [RepL.nil] at h; subst h; exact h'
  | d :: ds, es, vs, ws, h, h' => by
    obtain ⟨v, us, e, r, q⟩ := RepL.cons.mp h
    subst e
    exact RepL.cons.mpr ⟨v, us ++ ws, rfl, r, RepL.app q h'⟩
theorem RepL.get : ∀ {ds : List D} {vs : List V} {i : Nat} {d : D}, RepL K H ds vs → ds[i]? = some d → ∃ v, vs[i]? = some v ∧ RepD K H d v
  | [], _, _, _, _, e => by simp at e
  | x :: xs, vs, i, d, h, e => by
    obtain ⟨v, us, ev, r, q⟩ := RepL.cons.mp h
    subst ev
    cases i with
    | zero => simp at e; subst e; exact ⟨v, by simp, r⟩
    | succ i => simp at e; obtain ⟨u, h1, h2⟩ := RepL.get q e; exact ⟨u, by simpa using h1, h2⟩
theorem RepL.getV : ∀ {ds : List D} {vs : List V} {i : Nat} {v : V}, RepL K H ds vs → vs[i]? = some v → ∃ d, ds[i]? = some d ∧ RepD K H d v
  | [], vs, _, _, h, e => by rw [RepL.nil] at h; subst h; simp at e
  | x :: xs, vs, i, w, h, e => by
    obtain ⟨v, us, ev, r, q⟩ := RepL.cons.mp h
    subst ev
    cases i with
    | zero => simp at e; subst e; exact ⟨x, by simp, r⟩
    | succ i => simp at e; obtain ⟨u, h1, h2⟩ := RepL.getV q e; exact ⟨u, by simpa using h1, h2⟩
theorem RepL.set : ∀ {ds : List D} {vs : List V} {d : D} {v : V} (i : Nat), RepL K H ds vs → RepD K H d v → RepL K H (ds.set i d) (vs.set i v)
  | [], vs, _, _, _, h, r => by rw [RepL.nil] at h; subst h; simp [RepL.nil]
  | x :: xs, vs, d, w, i, h, r => by
    obtain ⟨v, us, ev, r', q⟩ := RepL.cons.mp h
    subst ev
    cases i with
    | zero => simp; exact RepL.cons.mpr ⟨w, us, rfl, r, q⟩
    | succ i => simp; exact RepL.cons.mpr ⟨v, _, rfl, r', RepL.set i q r⟩
theorem RepL.take : ∀ {ds : List D} {vs : List V} (n : Nat), RepL K H ds vs → RepL K H (ds.take n) (vs.take n)
  | [], vs, n, h => by rw [RepL.nil] at h; subst h; simp [RepL.nil]
  | x :: xs, vs, n, h => by
    obtain ⟨v, us, ev, r', q⟩ := RepL.cons.mp h
    subst ev
    cases n with
    | zero => simp [RepL.nil]
    | succ n => simp; exact RepL.cons.mpr ⟨v, _, rfl, r', RepL.take n q⟩
theorem RepL.drop : ∀ {ds : List D} {vs : List V} (n : Nat), RepL K H ds vs → RepL K H (ds.drop n) (vs.drop n)
  | [], vs, n, h => by rw [RepL.nil] at h; subst h; simp [RepL.nil]
  | x :: xs, vs, n, h => by
    obtain ⟨v, us, ev, r', q⟩ := RepL.cons.mp h
    subst ev
    cases n with
    | zero => simp; exact RepL.cons.mpr ⟨v, us, rfl, r', q⟩
    | succ n => simp; exact RepL.drop n q
theorem RepL.rev : ∀ {ds : List D} {vs : List V}, RepL K H ds vs → RepL K H ds.reverse vs.reverse
  | [], vs, h => by rw [RepL.nil] at h; subst h; exact RepL.nil.mpr rfl
  | d :: ds, vs, h => by
    obtain ⟨v, us, e, r, q⟩ := RepL.cons.mp h
    subst e
    rw [List.reverse_cons, List.reverse_cons]
    exact (RepL.rev q).app (RepL.cons.mpr ⟨v, [], rfl, r, RepL.nil.mpr rfl⟩)
theorem RepL.one {d : D} {v : V} (h : RepD K H d v) : RepL K H [d] [v] := RepL.cons.mpr ⟨v, [], rfl, h, RepL.nil.mpr rfl⟩
theorem RepL.dropLast {ds : List D} {vs : List V} (h : RepL K H ds vs) : RepL K H ds.dropLast vs.dropLast := by
  rw [List.dropLast_eq_take, List.dropLast_eq_take, h.length]; exact h.take _
theorem RepL.erase : ∀ {ds : List D} {vs : List V} (n : Nat), RepL K H ds vs → RepL K H (ds.eraseIdx n) (vs.eraseIdx n)
  | [], vs, n, h => by rw [RepL.nil] at h; subst h; simp [RepL.nil]
  | x :: xs, vs, n, h => by
    obtain ⟨v, us, ev, r', q⟩ := RepL.cons.mp h
    subst ev
    cases n with
    | zero => simp; exact q
    | succ n => simp; exact RepL.cons.mpr ⟨v, _, rfl, r', RepL.erase n q⟩
theorem RepL.flat {k : Nat} {ds : List D} {vs : List V} (h : RepL K H ds vs) : RepL K H (List.replicate k ds).flatten (List.replicate k vs).flatten := by
  induction k with
  | zero => simp [RepL.nil]
  | succ k ih => rw [List.replicate_succ, List.replicate_succ, List.flatten_cons, List.flatten_cons]; exact h.app ih
/-- ints, bools, texts -/
theorem RepL.ints : ∀ {ns : List Int} {vs : List V}, RepL K H (ns.map D.int) vs ↔ vs = ns.map V.int
  | [], vs => RepL.nil
  | n :: ns, vs => by
    rw [List.map_cons, RepL.cons]
    constructor
    · rintro ⟨v, ws, rfl, r, q⟩; rw [RepD.int] at r; rw [RepL.ints] at q; rw [r, q]; rfl
    · rintro rfl; exact ⟨_, _, rfl, RepD.int.mpr rfl, RepL.ints.mpr rfl⟩
theorem RepL.bls : ∀ {ns : List Bool} {vs : List V}, RepL K H (ns.map D.bl) vs ↔ vs = ns.map V.bl
  | [], vs => RepL.nil
  | n :: ns, vs => by
    rw [List.map_cons, RepL.cons]
    constructor
    · rintro ⟨v, ws, rfl, r, q⟩; rw [RepD.bl] at r; rw [RepL.bls] at q; rw [r, q]; rfl
    · rintro rfl; exact ⟨_, _, rfl, RepD.bl.mpr rfl, RepL.bls.mpr rfl⟩
theorem RepL.strs : ∀ {ns : List (List Nat)} {vs : List V}, RepL K H (ns.map D.str) vs ↔ vs = (ns.map S).map V.str
  | [], vs => RepL.nil
  | n :: ns, vs => by
    rw [List.map_cons, RepL.cons]
    constructor
    · rintro ⟨v, ws, rfl, r, q⟩; rw [RepD.str] at r; rw [RepL.strs] at q; rw [r, q]; rfl
    · rintro rfl; exact ⟨_, _, rfl, RepD.str.mpr rfl, RepL.strs.mpr rfl⟩
end

/-! ### what may change -/
inductive MO where
  | lst (xs : List D)
  | ro (xs : List D)
  | dct (kvs : List (D × D))
  | ins (c : Nat) (fs : List D)
abbrev Mem := Addr → Option MO
def mup (M : Mem) (a : Addr) (o : MO) : Mem := fun b => if b = a then some o else M b
theorem mup_same {M : Mem} {a : Addr} {o : MO} : mup M a o a = some o := by unfold mup; rw [if_pos rfl]
theorem mup_ne {M : Mem} {a b : Addr} {o : MO} (h : b ≠ a) : mup M a o b = M b := by unfold mup; rw [if_neg h]
def Sub (M M' : Mem) : Prop := ∀ a o, M a = some o → M' a = some o
theorem Sub.rfl' {M : Mem} : Sub M M := fun _ _ h => h
theorem Sub.trans {M M1 M2 : Mem} (a : Sub M M1) (b : Sub M1 M2) : Sub M M2 := fun x o h => b x o (a x o h)
theorem Sub.new {M : Mem} {p : Addr} {o : MO} (h : M p = none) : Sub M (mup M p o) := fun a u e => by
  have : a ≠ p := fun z => by subst z; rw [h] at e; cases e
  rw [mup_ne this]; exact e

/-- what a program's top has: classes with their fields in order, exception classes with their field -/
structure Cf where
  ct : List (Str × List Str)
  et : List (Str × Option Str)
  fb : List Str
  gl : List (Str × D)
structure Cfg extends Cf where
  K : PySem.W.Frag
  mg : Str → Option Value
  P : Program
  w : World

/-! ### dicts: keys by data, values -/
mutual
def nkey : D → Option NestedKey
  | .non => some .none
  | .int i => some (.num i)
  | .str l => some (.text (S l))
  | .tup ds => (nkeys ds).map .tup
  | .bl _ => none
  | .obj _ => none
def nkeys : List D → Option (List NestedKey)
  | [] => some []
  | d :: ds => match nkey d, nkeys ds with
    | some k, some ks => some (k :: ks)
    | _, _ => none
end
def lkey : D → Option Leaf
  | .non => some .none
  | .int i => some (.num i)
  | .str l => some (.text (S l))
  | _ => none
def RelDV (K : PySem.W.Frag) (H : Hp) (d : D) (u : Value) : Prop := ∃ v, RepD K H d v ∧ RelV v u
def LeafRel (G : Cfg) (H : Hp) (p : D × D) (q : Leaf × Value) : Prop := lkey p.1 = some q.1 ∧ RelDV G.K H p.2 q.2
def TupRel (G : Cfg) (H : Hp) (p : D × D) (q : NestedKey × Addr × Value) : Prop := (∃ ds, p.1 = .tup ds) ∧ nkey p.1 = some q.1 ∧ q.1.depth ≤ 8 ∧ RepD G.K H p.1 (.ref q.2.1) ∧ RelDV G.K H p.2 q.2.2
def LeafRep (G : Cfg) (H : Hp) (kvs : List (D × D)) (es : Array DictEntry) : Prop := ∃ lk : List (Leaf × Value), KeysOf (leafKind G.P G.w) es ∧ Pairs (leafKind G.P G.w) es.toList lk ∧ (lk.map (·.1)).Nodup ∧ Paired (LeafRel G H) kvs lk
def TupRep (G : Cfg) (H : Hp) (kvs : List (D × D)) (es : Array DictEntry) : Prop := ∃ xs : List (NestedKey × Addr × Value), es.toList = xs.map (entryOfKey (nestedKind G.P G.w)) ∧ (xs.map (·.1)).Nodup ∧ Paired (TupRel G H) kvs xs
structure DctRep (G : Cfg) (H : Hp) (a : Addr) (kvs : List (D × D)) (o : Obj) : Prop where
  big : kvs.length ≤ sizeLine
  sm : (a == sysModules) = false
  ex : o.ExactDict
  dat : ∃ es ep, o.data = .dict es ep ∧ (LeafRep G H kvs es ∨ TupRep G H kvs es)
def objO (a : Addr) (o : Obj) : HO := .ext fun h => h.get? a = some o
theorem RelDV.keep {K : PySem.W.Frag} {H H' : Hp} (k : Keep H H') {d : D} {u : Value} : RelDV K H d u → RelDV K H' d u := fun ⟨v, r, e⟩ => ⟨v, RepD.keep k _ _ r, e⟩
theorem DctRep.keep {G : Cfg} {H H' : Hp} (k : Keep H H') {a : Addr} {kvs : List (D × D)} {o : Obj} (h : DctRep G H a kvs o) : DctRep G H' a kvs o := by
  obtain ⟨h1, h2, h3, es, ep, h4, h5⟩ := h
  refine ⟨h1, h2, h3, es, ep, h4, h5.imp (fun ⟨lk, a1, a2, a3, a4⟩ => ⟨lk, a1, a2, a3, PySem.Paired.mono (fun p q r => ⟨r.1, r.2.keep k⟩) a4⟩) fun ⟨xs, a1, a2, a3⟩ => ⟨xs, a1, a2, PySem.Paired.mono (fun p q r => ⟨r.1, r.2.1, r.2.2.1, RepD.keep k _ _ r.2.2.2.1, r.2.2.2.2.keep k⟩) a3⟩⟩

def RepO (G : Cfg) (H : Hp) (a : Addr) : MO → HO → Prop
  | .lst ds, o => ∃ vs, o = .lst vs ∧ RepL G.K H ds vs
  | .ro ds, o => ∃ ob vs, o = .frz ob (.lst vs) ∧ RepL G.K H ds vs
  | .dct kvs, o => ∃ ob, o = objO a ob ∧ DctRep G H a kvs ob
  | .ins c fs, o => ∃ ci C dx fv, G.ct[c]? = some ci ∧ G.mg ci.1 = some (.ref C) ∧ o = .ins C dx fv ∧ fv.map (·.1) = ci.2.take fs.length ∧ RepL G.K H fs (fv.map (·.2))
def RepM (G : Cfg) (H : Hp) (M : Mem) : Prop := ∀ a o, M a = some o → ∃ ho, H a = some ho ∧ RepO G H a o ho
theorem RepO.keep {G : Cfg} {H H' : Hp} (k : Keep H H') {a : Addr} {o : MO} {ho : HO} (h : RepO G H a o ho) : RepO G H' a o ho := by
  cases o with
  | lst ds => obtain ⟨vs, e, r⟩ := h; exact ⟨vs, e, RepL.keep k _ _ r⟩
  | ro ds => obtain ⟨ob, vs, e, r⟩ := h; exact ⟨ob, vs, e, RepL.keep k _ _ r⟩
  | dct kvs => obtain ⟨ob, e, r⟩ := h; exact ⟨ob, e, r.keep k⟩
  | ins c fs => obtain ⟨ci, C, dx, fv, h1, h2, h3, h4, r⟩ := h; exact ⟨ci, C, dx, fv, h1, h2, h3, h4, RepL.keep k _ _ r⟩
theorem RepM.sub {G : Cfg} {H : Hp} {M M' : Mem} (h : RepM G H M') (s : Sub M M') : RepM G H M := fun a o e => h a o (s a o e)
theorem RepM.none {G : Cfg} {H : Hp} {M : Mem} (h : RepM G H M) {p : Addr} (e : H p = none) : M p = none := by
  cases q : M p with
  | none => rfl
  | some o => obtain ⟨ho, h1, _⟩ := h p o q; rw [e] at h1; cases h1
/-- a new object -/
theorem RepM.new {G : Cfg} {H : Hp} {M : Mem} (h : RepM G H M) {p : Addr} {o : MO} {ho : HO} (e : H p = Option.none) (r : RepO G H p o ho) : RepM G (upd H p ho) (mup M p o) := fun a u q => by
  by_cases z : a = p
  · subst z; rw [mup_same] at q; cases q; exact ⟨ho, upd_same, r.keep (Keep.new e)⟩
  · rw [mup_ne z] at q
    obtain ⟨hu, h1, h2⟩ := h a u q
    exact ⟨hu, by rw [upd_ne z]; exact h1, h2.keep (Keep.new e)⟩
/-- an object that is not looked at -/
theorem RepM.skip {G : Cfg} {H : Hp} {M : Mem} (h : RepM G H M) {p : Addr} {ho : HO} (e : H p = Option.none) : RepM G (upd H p ho) M := fun a u q => by
  obtain ⟨hu, h1, h2⟩ := h a u q
  exact ⟨hu, by rw [upd_ne (ne_of_none h1 e)]; exact h1, h2.keep (Keep.new e)⟩
/-- an object changed -/
theorem RepM.put {G : Cfg} {H : Hp} {M : Mem} (h : RepM G H M) {p : Addr} {o : MO} {hb ho : HO} (e : H p = some hb) (m : Mut (some hb)) (r : RepO G H p o ho) : RepM G (upd H p ho) (mup M p o) := fun a u q => by
  by_cases z : a = p
  · subst z; rw [mup_same] at q; cases q; exact ⟨ho, upd_same, r.keep (Keep.mut e m)⟩
  · rw [mup_ne z] at q
    obtain ⟨hu, h1, h2⟩ := h a u q
    exact ⟨hu, by rw [upd_ne z]; exact h1, h2.keep (Keep.mut e m)⟩

/-! ### the names' values -/
abbrev En := List (Option D)
def RepS (K : PySem.W.Frag) (H : Hp) (ρ : En) (σ : L2.St) : Prop := ρ.length = σ.length ∧ ∀ (i : Nat) (d : D), ρ[i]? = some (some d) → ∃ v, σ[i]? = some (some v) ∧ RepD K H d v
theorem RepS.keep {K : PySem.W.Frag} {H H' : Hp} {ρ : En} {σ : L2.St} (h : RepS K H ρ σ) (k : Keep H H') : RepS K H' ρ σ := ⟨h.1, fun i d e => let ⟨v, e1, r⟩ := h.2 i d e; ⟨v, e1, RepD.keep k _ _ r⟩⟩
theorem RepS.set {K : PySem.W.Frag} {H : Hp} {ρ : En} {σ : L2.St} (h : RepS K H ρ σ) {d : D} {v : V} (i : Nat) (r : RepD K H d v) : RepS K H (ρ.set i (some d)) (σ.set i (some v)) := by
  refine ⟨by rw [List.length_set, List.length_set]; exact h.1, fun j e q => ?_⟩
  by_cases z : i = j
  · subst z
    by_cases hi : i < ρ.length
    · rw [List.getElem?_set_self hi] at q; cases q
      exact ⟨v, List.getElem?_set_self (by rw [← h.1]; exact hi), r⟩
    · rw [List.getElem?_eq_none (by simpa using hi)] at q; cases q
  · rw [List.getElem?_set_ne z] at q ⊢
    exact h.2 j e q
theorem RepS.unset {K : PySem.W.Frag} {H : Hp} {ρ : En} {σ : L2.St} (h : RepS K H ρ σ) (i : Nat) : RepS K H (ρ.set i Option.none) (σ.set i Option.none) := by
  refine ⟨by rw [List.length_set, List.length_set]; exact h.1, fun j e q => ?_⟩
  by_cases z : i = j
  · subst z
    by_cases hi : i < ρ.length
    · rw [List.getElem?_set_self hi] at q; cases q
    · rw [List.getElem?_eq_none (by simpa using hi)] at q; cases q
  · rw [List.getElem?_set_ne z] at q ⊢
    exact h.2 j e q

/-! ### lifted readings -/
abbrev DK := D → Mem → Prop
abbrev TD := En → Mem → DK → Prop
abbrev TDT := En → Mem → (Bool → Mem → Prop) → Prop
abbrev TDA := En → Mem → (List D → Mem → Prop) → Prop
structure EndsD where
  nx : En → Mem → Prop
  rt : DK
  bk : En → Mem → Prop := fun _ _ => False
  ct : En → Mem → Prop := fun _ _ => False
abbrev TDS := EndsD → En → Mem → Prop

/-- from a heap and memory to later ones: tuples and known things stay, nothing is forgotten, what memory tells anew is new -/
structure Step (H : Hp) (M : Mem) (H' : Hp) (M' : Mem) : Prop where
  kp : Keep H H'
  grow : ∀ a, H a ≠ none → H' a ≠ none
  new : ∀ a, H a ≠ none → M a = none → M' a = none
  frame : ∀ a o, H a = some o → M a = none → H' a = some o
theorem Step.rfl' {H : Hp} {M : Mem} : Step H M H M := ⟨Keep.rfl', fun _ h => h, fun _ _ h => h, fun _ _ h _ => h⟩
theorem some_ne {α : Type} {x : Option α} {a : α} (h : x = some a) : x ≠ none := by rw [h]; exact fun z => nomatch z
theorem Step.trans {H H1 H2 : Hp} {M M1 M2 : Mem} (a : Step H M H1 M1) (b : Step H1 M1 H2 M2) : Step H M H2 M2 :=
  ⟨a.kp.trans b.kp, fun x h => b.grow x (a.grow x h), fun x h m => b.new x (a.grow x h) (a.new x h m), fun x o h m => b.frame x o (a.frame x o h m) (a.new x (some_ne h) m)⟩
theorem upd_grow {H : Hp} {p : Addr} {o : HO} (a : Addr) (h : H a ≠ none) : upd H p o a ≠ none := by
  by_cases z : a = p
  · subst z; rw [upd_same]; exact fun z => nomatch z
  · rw [upd_ne z]; exact h
/-- a new object that memory does not tell -/
theorem Step.hid {H : Hp} {M : Mem} {p : Addr} {o : HO} (h : H p = none) : Step H M (upd H p o) M := ⟨Keep.new h, upd_grow, fun _ _ m => m, fun a u e _ => by rw [upd_ne (ne_of_none e h)]; exact e⟩
theorem Step.new' {H : Hp} {M : Mem} {p : Addr} {o : HO} {u : MO} (h : H p = none) : Step H M (upd H p o) (mup M p u) := ⟨Keep.new h, upd_grow, fun a ha m => by
  have : a ≠ p := fun z => by subst z; exact ha h
  rw [mup_ne this]; exact m, fun a u e _ => by rw [upd_ne (ne_of_none e h)]; exact e⟩
theorem Step.put {H : Hp} {M : Mem} {p : Addr} {o ob : HO} {u u0 : MO} (h : H p = some ob) (mu : Mut (some ob)) (hm : M p = some u0) : Step H M (upd H p o) (mup M p u) := ⟨Keep.mut h mu, upd_grow, fun a ha m => by
  have : a ≠ p := fun z => by subst z; rw [hm] at m; cases m
  rw [mup_ne this]; exact m, fun a u e m => by
  have : a ≠ p := fun z => by subst z; rw [hm] at m; cases m
  rw [upd_ne this]; exact e⟩
theorem Step.sub {H H' : Hp} {M M1 M2 : Mem} (a : Step H M H' M1) (s : Sub M2 M1) : Step H M H' M2 := ⟨a.kp, a.grow, fun x h m => (by
  cases q : M2 x with
  | none => rfl
  | some o =>
    have z := s x o q
    rw [a.new x h m] at z
    exact nomatch z), a.frame⟩

/-- what is wanted of values and memory, said of the layer's -/
def OkK (G : Cfg) (H : Hp) (M : Mem) (Q0 : DK) (Q : VK) : Prop := ∀ d M' H' v, Q0 d M' → RepD G.K H' d v → RepM G H' M' → Step H M H' M' → Q v H'
def OkT (G : Cfg) (H : Hp) (M : Mem) (Q0 : Bool → Mem → Prop) (Q : Bool → Hp → Prop) : Prop := ∀ b M' H', Q0 b M' → RepM G H' M' → Step H M H' M' → Q b H'
def OkA (G : Cfg) (n : Nat) (H : Hp) (M : Mem) (Q0 : List D → Mem → Prop) (Q : List V → Hp → Prop) : Prop := ∀ ds M' H' vs, ds.length = n → Q0 ds M' → RepL G.K H' ds vs → RepM G H' M' → Step H M H' M' → Q vs H'
def OkS (G : Cfg) (H : Hp) (M : Mem) (Q0 : En → Mem → Prop) (Q : L2.St → Hp → Prop) : Prop := ∀ ρ' M' σ' H', Q0 ρ' M' → RepS G.K H' ρ' σ' → RepM G H' M' → Step H M H' M' → Q σ' H'
/-- where the code's run began -/
structure Bs where
  H : Hp
  M : Mem
def lift (G : Cfg) (B : Bs) (t : TD) : TE := fun σ H Q => ∃ ρ M Q0, Step B.H B.M H M ∧ RepS G.K H ρ σ ∧ RepM G H M ∧ t ρ M Q0 ∧ OkK G H M Q0 Q
def liftT (G : Cfg) (B : Bs) (t : TDT) : TT := fun σ H Q => ∃ ρ M Q0, Step B.H B.M H M ∧ RepS G.K H ρ σ ∧ RepM G H M ∧ t ρ M Q0 ∧ OkT G H M Q0 Q
def liftA (G : Cfg) (B : Bs) (n : Nat) (t : TDA) : TA := fun σ H Q => ∃ ρ M Q0, Step B.H B.M H M ∧ RepS G.K H ρ σ ∧ RepM G H M ∧ t ρ M Q0 ∧ OkA G n H M Q0 Q
structure OkE (G : Cfg) (H : Hp) (M : Mem) (D0 : EndsD) (D1 : Ends) : Prop where
  nx : OkS G H M D0.nx D1.nx
  rt : OkK G H M D0.rt D1.rt
  bk : OkS G H M D0.bk D1.bk
  ct : OkS G H M D0.ct D1.ct
def liftS (G : Cfg) (B : Bs) (t : TDS) : TS := fun D1 σ H => ∃ ρ M D0, Step B.H B.M H M ∧ RepS G.K H ρ σ ∧ RepM G H M ∧ t D0 ρ M ∧ OkE G H M D0 D1

theorem OkK.on {G : Cfg} {H H' : Hp} {M M' : Mem} {Q0 : DK} {Q : VK} (h : OkK G H M Q0 Q) (k : Step H M H' M') : OkK G H' M' Q0 Q := fun d M2 H2 v q r m k2 => h d M2 H2 v q r m (k.trans k2)
theorem OkT.on {G : Cfg} {H H' : Hp} {M M' : Mem} {Q0 : Bool → Mem → Prop} {Q : Bool → Hp → Prop} (h : OkT G H M Q0 Q) (k : Step H M H' M') : OkT G H' M' Q0 Q := fun d M2 H2 q m k2 => h d M2 H2 q m (k.trans k2)
theorem OkA.on {G : Cfg} {n : Nat} {H H' : Hp} {M M' : Mem} {Q0 : List D → Mem → Prop} {Q : List V → Hp → Prop} (h : OkA G n H M Q0 Q) (k : Step H M H' M') : OkA G n H' M' Q0 Q := fun d M2 H2 v l q r m k2 => h d M2 H2 v l q r m (k.trans k2)
theorem OkS.on {G : Cfg} {H H' : Hp} {M M' : Mem} {Q0 : En → Mem → Prop} {Q : L2.St → Hp → Prop} (h : OkS G H M Q0 Q) (k : Step H M H' M') : OkS G H' M' Q0 Q := fun ρ M2 σ H2 q r m k2 => h ρ M2 σ H2 q r m (k.trans k2)
theorem OkE.on {G : Cfg} {H H' : Hp} {M M' : Mem} {D0 : EndsD} {D1 : Ends} (h : OkE G H M D0 D1) (k : Step H M H' M') : OkE G H' M' D0 D1 := ⟨h.nx.on k, h.rt.on k, h.bk.on k, h.ct.on k⟩

/-! ### exceptions -/
structure Ex where
  c : Nat
  args : List D
def RepX (G : Cfg) (H : Hp) (x : Ex) (cls : Value) (dx : Option Addr) : Prop := ∃ ei C, G.et[x.c]? = some ei ∧ G.mg ei.1 = some (.ref C) ∧ cls = .ref C ∧
  match ei.2, x.args with
  | none, [] => dx = none
  | some f, [v] => ∃ d u, dx = some d ∧ H d = some (.xd [(f, u)]) ∧ RepD G.K H v u
  | _, _ => False
abbrev WD := Ex → En → Mem → Prop
def liftW (G : Cfg) (B : Bs) (W : WD) : WX := fun cls dx σ H => ∃ x ρ M, Step B.H B.M H M ∧ RepX G H x cls dx ∧ RepS G.K H ρ σ ∧ RepM G H M ∧ W x ρ M
def OkX (G : Cfg) (H : Hp) (M : Mem) (E0 : Ex → Mem → Prop) (E : XK) : Prop := ∀ x M' H' cls dx, E0 x M' → RepX G H' x cls dx → RepM G H' M' → Step H M H' M' → E cls dx H'
abbrev SpD := List D → Mem → DK → (Ex → Mem → Prop) → Prop
def liftSp (G : Cfg) (n : Nat) (sp : SpD) : Sp := fun vs H Q E => ∃ ds M Q0 E0, ds.length = n ∧ RepL G.K H ds vs ∧ RepM G H M ∧ sp ds M Q0 E0 ∧ OkK G H M Q0 Q ∧ OkX G H M E0 E

/-! ### weaker readings -/
section
variable {X : Cx}
theorem _root_.L2.PE.weak {e : Expr} {t t' : TE} (h : PE X e t) (w : ∀ σ H Q, t' σ H Q → t σ H Q) : PE X e t' := ⟨fun pins s σ H Q I q => h.run pins s σ H Q I (w σ H Q q)⟩
theorem _root_.L2.PT.weak {e : Expr} {t t' : TT} (h : PT X e t) (w : ∀ σ H Q, t' σ H Q → t σ H Q) : PT X e t' := ⟨fun pins s σ H Q I q => h.run pins s σ H Q I (w σ H Q q)⟩
theorem _root_.L2.PW.weak {e : Expr} {t t' : TT} (h : PW X e t) (w : ∀ σ H Q, t' σ H Q → t σ H Q) : PW X e t' := ⟨fun wh pins s σ H Q I q => h.run wh pins s σ H Q I (w σ H Q q)⟩
theorem _root_.L2.PA.weak {es : List Expr} {t t' : TA} (h : PA X es t) (w : ∀ σ H Q, t' σ H Q → t σ H Q) : PA X es t' := ⟨fun pos pins s σ H Q I q => h.run pos pins s σ H Q I (w σ H Q q)⟩
theorem _root_.L2.PS.weak {e : Stmt} {t t' : TS} (h : PS X e t) (w : ∀ D σ H, t' D σ H → t D σ H) : PS X e t' := ⟨fun pins s σ H D I q => h.run pins s σ H D I (w D σ H q)⟩
theorem _root_.L2.PSs.weak {e : List Stmt} {t t' : TS} (h : PSs X e t) (w : ∀ D σ H, t' D σ H → t D σ H) : PSs X e t' := ⟨fun pins s σ H D I q => h.run pins s σ H D I (w D σ H q)⟩
theorem _root_.L2.PS.weakI {e : Stmt} {t t' : TS} (h : PS X e t) (w : ∀ D σ H, Keep X.H_0 H → t' D σ H → t D σ H) : PS X e t' := ⟨fun pins s σ H D I q => h.run pins s σ H D I (w D σ H ⟨I.base.tups, I.base.frzs⟩ q)⟩
theorem _root_.L2.PE.weakI {e : Expr} {t t' : TE} (h : PE X e t) (w : ∀ σ H Q, Keep X.H_0 H → t' σ H Q → t σ H Q) : PE X e t' := ⟨fun pins s σ H Q I q => h.run pins s σ H Q I (w σ H Q ⟨I.base.tups, I.base.frzs⟩ q)⟩
end
end DL
set_option Elab.async false
set_option linter.all false
set_option maxRecDepth 100000
/-! DL2: operations on values: what they ask, and that the layer's rules keep them. -/
namespace DL
open PySem PySem.Spec PyProof.Rows L2

abbrev R2D := D → D → Mem → DK → Prop
def lift2 (G : Cfg) (r : R2D) : R2 := fun x y H Q => ∃ d e M Q0, RepD G.K H d x ∧ RepD G.K H e y ∧ RepM G H M ∧ r d e M Q0 ∧ OkK G H M Q0 Q
abbrev RLD := List D → Mem → DK → Prop
def liftC (G : Cfg) (r : RLD) : List V → Hp → VK → Prop := fun vs H Q => ∃ ds M Q0, RepL G.K H ds vs ∧ RepM G H M ∧ r ds M Q0 ∧ OkK G H M Q0 Q
abbrev RMD := D → List D → Mem → DK → Prop
def liftM (G : Cfg) (r : RMD) : V → List V → Hp → VK → Prop := fun x vs H Q => ∃ d ds M Q0, RepD G.K H d x ∧ RepL G.K H ds vs ∧ RepM G H M ∧ r d ds M Q0 ∧ OkK G H M Q0 Q

/-! ### lists that are read -/
def rdL (M : Mem) (a : Addr) : Option (List D) := match M a with
  | some (.lst xs) => some xs
  | some (.ro xs) => some xs
  | _ => none
theorem rdL_ok {G : Cfg} {H : Hp} {M : Mem} {a : Addr} {xs : List D} (m : RepM G H M) (e : rdL M a = some xs) : ∃ vs, SqL G.K H a vs ∧ RepL G.K H xs vs := by
  unfold rdL at e
  split at e
  · rename_i xs' q
    cases e
    obtain ⟨ho, h1, vs, h2, r⟩ := m a _ q
    subst h2
    exact ⟨vs, .inl (.inl h1), r⟩
  · rename_i xs' q
    cases e
    obtain ⟨ho, h1, ob, vs, h2, r⟩ := m a _ q
    subst h2
    exact ⟨vs, .inl (.inr ⟨ob, h1⟩), r⟩
  · cases e
theorem lst_ok {G : Cfg} {H : Hp} {M : Mem} {a : Addr} {xs : List D} (m : RepM G H M) (e : M a = some (.lst xs)) : ∃ vs, H a = some (.lst vs) ∧ RepL G.K H xs vs := by
  obtain ⟨ho, h1, vs, h2, r⟩ := m a _ e
  subst h2
  exact ⟨vs, h1, r⟩
theorem new_lst {G : Cfg} {H : Hp} {M : Mem} {p : Addr} {ds : List D} {vs : List V} (m : RepM G H M) (e : H p = none) (r : RepL G.K H ds vs) : RepM G (upd H p (.lst vs)) (mup M p (.lst ds)) := m.new e ⟨vs, rfl, r⟩
theorem put_lst {G : Cfg} {H : Hp} {M : Mem} {p : Addr} {ds : List D} {vs us : List V} (m : RepM G H M) (e : H p = some (.lst us)) (r : RepL G.K H ds vs) : RepM G (upd H p (.lst vs)) (mup M p (.lst ds)) := m.put e trivial ⟨vs, rfl, r⟩
theorem keep_put {H : Hp} {p : Addr} {us : List V} {o : HO} (e : H p = some (.lst us)) : Keep H (upd H p o) := Keep.mut e trivial
/-- a new tuple -/
theorem new_tup {G : Cfg} {H : Hp} {p : Addr} {ds : List D} {vs : List V} (e : H p = none) (r : RepL G.K H ds vs) : RepD G.K (upd H p (.tup vs)) (.tup ds) (.ref p) :=
  RepD.tup.mpr ⟨p, vs, rfl, .inl (.inl upd_same), RepL.keep (Keep.new e) _ _ r⟩

def big : Nat := 16777216
theorem big_eq : sizeLine = big := sizeLine_eq

section
variable {X : Cx} {G : Cfg}

/-! ### + -/
def vAdd : R2D := fun d e M Q => match d, e with
  | .int i, .int j => Q (.int (i + j)) M
  | .str a, .str b => a.length + b.length ≤ big ∧ Q (.str (a ++ b)) M
  | .tup a, .tup b => a.length + b.length ≤ big ∧ Q (.tup (a ++ b)) M
  | .obj a, .obj b => match M a, M b with
    | some (.lst xs), some (.lst ys) => xs.length + ys.length ≤ big ∧ ∀ p, M p = none → Q (.obj p) (mup M p (.lst (xs ++ ys)))
    | _, _ => False
  | _, _ => False
theorem od_add (hK : X.K = G.K) : OpR X (binaryOp .Add) (lift2 G vAdd) := by
  intro pins s σ H x y v u Q I rx ry h
  obtain ⟨d, e, M, Q0, rd, re, rm, hr, ok⟩ := h
  unfold vAdd at hr
  split at hr
  · rw [RepD.int] at rd re; subst rd re
    exact op_add pins s σ H _ _ v u Q I rx ry ⟨_, _, rfl, rfl, ok _ _ _ _ hr (RepD.int.mpr rfl) rm Step.rfl'⟩
  · rw [RepD.str] at rd re; subst rd re
    exact op_add_str pins s σ H _ _ v u Q I rx ry ⟨_, _, rfl, rfl, by rw [S_len, S_len, big_eq]; exact hr.1, ok _ _ _ _ hr.2 (RepD.str.mpr (by rw [S_app])) rm Step.rfl'⟩
  · obtain ⟨p, vs, rfl, hp, rp⟩ := RepD.tup.mp rd
    obtain ⟨q, ws, rfl, hq, rq⟩ := RepD.tup.mp re
    refine op_catA pins s σ H _ _ v u Q I rx ry ⟨p, q, vs, ws, rfl, rfl, by rw [hK]; exact hp, by rw [hK]; exact hq, by rw [← rp.length, ← rq.length, big_eq]; exact hr.1, ?_, ?_, ?_⟩
    · intro ev
      refine ok _ _ _ _ hr.2 (RepD.tup.mpr ⟨q, ws, rfl, hq, ?_⟩) rm Step.rfl'
      have := rp.length; rw [ev] at this
      rw [List.length_eq_zero_iff.mp this]; exact rq
    · intro _ ew
      refine ok _ _ _ _ hr.2 (RepD.tup.mpr ⟨p, vs, rfl, hp, ?_⟩) rm Step.rfl'
      have := rq.length; rw [ew] at this
      rw [List.length_eq_zero_iff.mp this, List.append_nil]; exact rp
    · intro _ _ t ht
      exact ok _ _ _ _ hr.2 (new_tup ht (rp.app rq)) (rm.skip ht) (Step.hid ht)
  · rename_i a b
    rw [RepD.obj] at rd re; subst rd re
    split at hr
    · rename_i xs ys q1 q2
      obtain ⟨vs, h1, r1⟩ := lst_ok rm q1
      obtain ⟨ws, h2, r2⟩ := lst_ok rm q2
      refine op_cat pins s σ H _ _ v u Q I rx ry ⟨a, b, vs, ws, rfl, rfl, h1, h2, by rw [← r1.length, ← r2.length, big_eq]; exact hr.1, fun p hp => ?_⟩
      exact ok _ _ _ _ (hr.2 p (rm.none hp)) (RepD.obj.mpr rfl) (new_lst rm hp (r1.app r2)) (Step.new' hp)
    · exact hr.elim
  · exact hr.elim

/-! ### ints -/
def vI (C : Int → Int → Prop) (g : Int → Int → D) : R2D := fun d e M Q => match d, e with
  | .int i, .int j => C i j ∧ Q (g i j) M
  | _, _ => False
def flatD : D → V
  | .non => .non
  | .bl b => .bl b
  | .int i => .int i
  | .str l => .str (S l)
  | .tup _ => .non
  | .obj a => .ref a
theorem od_int {f : Value → Value → Sem Value} {C C' : Int → Int → Prop} {g : Int → Int → V} {g' : Int → Int → D} (h : OpR X f (rI C g)) (hC : ∀ i j, C' i j → C i j) (hg : ∀ K H i j, C' i j → RepD K H (g' i j) (g i j)) : OpR X f (lift2 G (vI C' g')) := by
  intro pins s σ H x y v u Q I rx ry hr
  obtain ⟨d, e, M, Q0, rd, re, rm, hr, ok⟩ := hr
  unfold vI at hr
  split at hr
  · rw [RepD.int] at rd re; subst rd re
    exact h pins s σ H _ _ v u Q I rx ry ⟨_, _, rfl, rfl, hC _ _ hr.1, ok _ _ _ _ hr.2 (hg _ _ _ _ hr.1) rm Step.rfl'⟩
  · exact hr.elim
theorem od_int0 {f : Value → Value → Sem Value} {g : Int → Int → V} {g' : Int → Int → D} (h : OpR X f (rI0 g)) (hg : ∀ K H i j, RepD K H (g' i j) (g i j)) : OpR X f (lift2 G (vI (fun _ _ => True) g')) := by
  intro pins s σ H x y v u Q I rx ry hr
  obtain ⟨d, e, M, Q0, rd, re, rm, hr, ok⟩ := hr
  unfold vI at hr
  split at hr
  · rw [RepD.int] at rd re; subst rd re
    exact h pins s σ H _ _ v u Q I rx ry ⟨_, _, rfl, rfl, ok _ _ _ _ hr.2 (hg _ _ _ _) rm Step.rfl'⟩
  · exact hr.elim
abbrev vSub : R2D := vI (fun _ _ => True) fun i j => .int (i - j)
theorem od_sub : OpR X (binaryOp .Sub) (lift2 G vSub) := od_int0 op_sub fun _ _ _ _ => RepD.int.mpr rfl
abbrev vDiv : R2D := vI (fun _ j => 0 < j ∧ j.natAbs.log2 < 9000) fun i j => .int (i / j)
theorem od_div : OpR X (binaryOp .FloorDiv) (lift2 G vDiv) := od_int op_fdivW (fun _ _ h => h) fun _ _ _ _ _ => RepD.int.mpr rfl
abbrev vMod : R2D := vI (fun _ j => 0 < j) fun i j => .int (i % j)
theorem od_mod : OpR X (binaryOp .Mod) (lift2 G vMod) := od_int op_mod (fun _ _ h => h) fun _ _ _ _ _ => RepD.int.mpr rfl
abbrev vPow : R2D := vI (fun i j => 0 ≤ j ∧ j ≤ 1000000 ∧ i.natAbs < 2 ^ 64) fun i j => .int (i ^ j.toNat)
theorem od_pow : OpR X (binaryOp .Pow) (lift2 G vPow) := od_int op_pow (fun _ _ h => h) fun _ _ _ _ _ => RepD.int.mpr rfl
abbrev vShl : R2D := vI (fun i j => 0 ≤ j ∧ (Builtin.Int.intBits i : Int) + j ≤ 134217728) fun i j => .int (i * 2 ^ j.toNat)
theorem od_shl : OpR X (binaryOp .LShift) (lift2 G vShl) := od_int op_shlW (fun _ _ h => ⟨h.1, by have e : (2 : Int) ^ 27 = 134217728 := by decide
                                                                                                  rw [e]; exact h.2⟩) fun _ _ _ _ _ => RepD.int.mpr rfl
abbrev vShr : R2D := vI (fun _ j => 0 ≤ j) fun i j => .int (i / 2 ^ j.toNat)
theorem od_shr : OpR X (binaryOp .RShift) (lift2 G vShr) := od_int op_shr (fun _ _ h => h) fun _ _ _ _ _ => RepD.int.mpr rfl
abbrev vAnd : R2D := vI (fun _ _ => True) fun i j => .int (Builtin.bitAnd i j)
theorem od_and : OpR X (binaryOp .BitAnd) (lift2 G vAnd) := od_int0 op_and fun _ _ _ _ => RepD.int.mpr rfl

/-! ### a list times a flag -/
theorem rmul_bool_list (b : Bool) (l : Addr) (items : Array Value) (n : Nat) :
    Meets (Builtin.«int.__rmul__» ⟨[.bool b, .ref l], []⟩) (fun _ R s => s.heap.get? l = some { cls := .type "list", dict := none, data := .seq items n, slots := #[] } ∧ R (.ok (.ret Value.notImplemented)) s) :=
  .of_wp fun prog w A R s h => by obtain ⟨hp, g, d, tk, os⟩ := s; obtain ⟨hl, h⟩ := h; wp_walk; exact ⟨_, rfl, h⟩
theorem mul_list_bool (l : Addr) (items : Array Value) (n : Nat) (b : Bool) (hc1 : ¬items.size * (if b = true then (1 : Int) else 0).toNat > (2 ^ 63 - 1) / 8) (hc2 : ¬Builtin.List.listTooLong (items.size * (if b = true then (1 : Int) else 0).toNat) = true) :
    Meets (Builtin.«list.__mul__» ⟨[.ref l, .bool b], []⟩) (fun _ R s => s.heap.get? l = some { cls := .type "list", dict := none, data := .seq items n, slots := #[] } ∧ R (.ok (.ret (Value.ref s.heap.objs.size))) { s with heap := s.heap.push { cls := Value.type "list", data := Data.seq (List.foldl (fun x1 x2 => x1 ++ x2) #[] (List.replicate (if items.isEmpty = true then 0 else (if b = true then (1 : Int) else 0).toNat) items)) } }) :=
  .of_wp fun prog w A R s h => by
    obtain ⟨hp, g, d, tk, os⟩ := s; obtain ⟨hl, h⟩ := h
    have hsz := AutoListH.joined_fits hc2
    have hc0 : ¬(!Builtin.List.listFitsIndex (if b = true then (1 : Int) else 0)) = true := by cases b <;> decide
    wp_walk; refine wpAny_ite_false (decide_eq_false (Nat.not_lt.mpr hsz)) ?_; wp_walk; exact ⟨_, rfl, h⟩
theorem op_repB : OpR X (binaryOp .Mult) (fun x y H Q => ∃ l b xs, x = .ref l ∧ y = .bl b ∧ H l = some (.lst xs) ∧ ∀ p, H p = none → Q (.ref p) (upd H p (.lst (List.replicate (if b = true then 1 else 0) xs).flatten))) := by
  intro pins s σ H x y v u Q I rx ry h
  obtain ⟨l, b, xs, rfl, rfl, hH, q⟩ := h
  cases rx
  cases ry
  obtain ⟨z, its, n, r, hl, e⟩ := I.lstM hH
  have ek : (if b = true then (1 : Int) else 0).toNat = (if b = true then 1 else 0) := by cases b <;> rfl
  have hz : its.toArray.size ≤ sizeLine := by rw [List.size_toArray, ← hl]; exact z
  have hlen : its.toArray.size * (if b = true then (1 : Int) else 0).toNat ≤ sizeLine := by rw [ek]; cases b <;> simp <;> simpa using hz
  have hcap : ¬ its.toArray.size * (if b = true then (1 : Int) else 0).toNat > (2 ^ 63 - 1) / 8 := by
    have : (sizeLine : Nat) ≤ (2 ^ 63 - 1) / 8 := by decide
    omega
  have hlong : ¬ Builtin.List.listTooLong (its.toArray.size * (if b = true then (1 : Int) else 0).toNat) = true := by
    rw [notLongL hlen]
    exact Bool.false_ne_true
  have hnew : List.foldl (fun x1 x2 => x1 ++ x2) #[] (List.replicate (if its.toArray.isEmpty = true then 0 else (if b = true then (1 : Int) else 0).toNat) its.toArray) = (List.replicate (if b = true then 1 else 0) its).flatten.toArray := by
    rw [ek]
    cases its with
    | nil => cases b <;> simp
    | cons a r' => cases b <;> simp
  refine wpAny_binaryOp_repeat_ref (T := "list") (U := "bool") (by decide) ⟨_, e, rfl⟩ (fun s' => rfl) noFill_list_mul PySem.F.fills_bool_mul PySem.F.slot_bool_rmul repeat_list PySem.F.slot_bool_index.lookup
    (call_meets PySem.F.slot_bool_rmul rfl PySem.F.entry_int_rmul (PySem.F.args_int_rmul_2 _ _) (rmul_bool_list b l its.toArray n)
      ⟨e, rfl, ⟨_, e, rfl⟩, call_meets PySem.F.slot_list_mul ⟨_, e, rfl⟩ PySem.F.entry_list_mul (PySem.F.args_list_mul_2 _ _) (mul_list_bool l its.toArray n b hcap hlong) ⟨e, ?_⟩⟩)
  rw [hnew]
  exact ⟨.ref _, _, I.lnew (t' := s.toks) (r.rep _) (by cases b <;> simp <;> exact z), rfl, q _ I.fresh⟩
/-! ### * -/
def vMul : R2D := fun d e M Q => match d, e with
  | .int i, .int j => (Builtin.Int.intBits i : Int) + (Builtin.Int.intBits j : Int) ≤ 134217728 ∧ Q (.int (i * j)) M
  | .obj a, .int k => match M a with
    | some (.lst xs) => 0 ≤ k ∧ k < 100000000 ∧ xs.length * k.toNat ≤ big ∧ ∀ p, M p = none → Q (.obj p) (mup M p (.lst (List.replicate k.toNat xs).flatten))
    | _ => False
  | .obj a, .bl b => match M a with
    | some (.lst xs) => ∀ p, M p = none → Q (.obj p) (mup M p (.lst (List.replicate (if b = true then 1 else 0) xs).flatten))
    | _ => False
  | .tup xs, .int k => xs ≠ [] ∧ 2 ≤ k ∧ k ≤ 1000 ∧ xs.length ≤ 1000 ∧ Q (.tup (List.replicate k.toNat xs).flatten) M
  | .str l, .int k => l ≠ [] ∧ 1 ≤ k ∧ l.length * k.toNat ≤ 1000000 ∧ Q (.str (List.replicate k.toNat l).flatten) M
  | _, _ => False

theorem tooLong_no {n : Nat} (h : n ≤ 1000000) : Builtin.Str.tooLong n = false := by
  unfold Builtin.Str.tooLong
  refine decide_eq_false ?_
  have := sizeLine_eq
  omega
theorem foldl_repS (l : List Nat) : ∀ (k : Nat) (acc : Array Nat), (List.replicate k l.toArray).foldl (· ++ ·) acc = acc ++ (List.replicate k l).flatten.toArray
  | 0, acc => by simp
  | k + 1, acc => by rw [List.replicate_succ, List.foldl_cons, foldl_repS l k, List.replicate_succ, List.flatten_cons]; simp [Array.append_assoc]
theorem op_mul_str : OpR X (binaryOp .Mult) (fun x y H Q => ∃ (l : List Nat) (k : Int), x = .str (S l) ∧ y = .int k ∧ l ≠ [] ∧ 1 ≤ k ∧ l.length * k.toNat ≤ 1000000 ∧ Q (.str (S (List.replicate k.toNat l).flatten)) H) := by
  intro pins s σ H x y v u Q I rx ry h
  obtain ⟨l, k, rfl, rfl, hl, hk, hz, q⟩ := h
  obtain ⟨t, rfl⟩ := rx
  obtain ⟨t', rfl⟩ := ry
  have l1 : 1 ≤ l.length := by cases l with | nil => exact absurd rfl hl | cons _ _ => simp
  have kb : k ≤ 1000000 := by
    have : k.toNat ≤ l.length * k.toNat := Nat.le_mul_of_pos_left _ l1
    omega
  refine PySem.P.mul_str (by
    have h1 : ¬ k < -(2 ^ 63 : Int) := by omega
    have h2 : ¬ k ≥ 2 ^ 63 := by omega
    rw [decide_eq_false h1, decide_eq_false h2]; rfl) (fun _ _ => ?_) (fun _ _ => ?_) ?_
  · have e : ((S l).length : Int) ≤ 1000000 := by
      rw [S_len]
      have : l.length ≤ l.length * k.toNat := Nat.le_mul_of_pos_right _ (by omega)
      omega
    have e2 : (1000000 : Int) ≤ (2 ^ 63 - 1) / k := by
      rw [Int.le_ediv_iff_mul_le (by omega)]
      omega
    omega
  · rw [S_len]; exact tooLong_no hz
  · rw [if_neg (by omega)]
    by_cases k1 : k = 1
    · subst k1
      rw [if_pos (by simp)]
      refine ⟨.str (S l), H, I, ⟨_, rfl⟩, ?_⟩
      simpa using q
    · have : ¬ ((k == 1 || (S l).length == 0) = true) := by
        rw [S_len]
        simp only [Bool.or_eq_true, beq_iff_eq]
        omega
      rw [if_neg this]
      have eS : (⟨(List.replicate k.toNat (S l).cps).foldl (· ++ ·) #[]⟩ : Str) = S (List.replicate k.toNat l).flatten := by
        show (⟨_⟩ : Str) = ⟨_⟩
        rw [show (S l).cps = l.toArray from rfl, foldl_repS]; simp
      rw [eS]
      refine ⟨?_, .str (S (List.replicate k.toNat l).flatten), H, I.tok _, ⟨_, rfl⟩, q⟩
      rw [S_len, big_eq]
      simp only [List.length_flatten, List.map_replicate, List.sum_replicate_nat]
      rw [Nat.mul_comm]
      unfold big; omega
theorem od_mul (hK : X.K = G.K) : OpR X (binaryOp .Mult) (lift2 G vMul) := by
  intro pins s σ H x y v u Q I rx ry h
  obtain ⟨d, e, M, Q0, rd, re, rm, hr, ok⟩ := h
  unfold vMul at hr
  split at hr
  · rw [RepD.int] at rd re; subst rd re
    exact op_mulX pins s σ H _ _ v u Q I rx ry ⟨_, _, rfl, rfl, hr.1, ok _ _ _ _ hr.2 (RepD.int.mpr rfl) rm Step.rfl'⟩
  · rename_i a k
    rw [RepD.obj] at rd; rw [RepD.int] at re; subst rd re
    split at hr
    · rename_i xs q1
      obtain ⟨vs, h1, r1⟩ := lst_ok rm q1
      refine op_rep pins s σ H _ _ v u Q I rx ry ⟨a, k, vs, rfl, rfl, h1, by omega, by omega, by rw [← r1.length, big_eq]; exact hr.2.2.1, fun p hp => ?_⟩
      exact ok _ _ _ _ (hr.2.2.2 p (rm.none hp)) (RepD.obj.mpr rfl) (new_lst rm hp r1.flat) (Step.new' hp)
    · exact hr.elim
  · rename_i a b
    rw [RepD.obj] at rd; rw [RepD.bl] at re; subst rd re
    split at hr
    · rename_i xs q1
      obtain ⟨vs, h1, r1⟩ := lst_ok rm q1
      refine op_repB pins s σ H _ _ v u Q I rx ry ⟨a, b, vs, rfl, rfl, h1, fun p hp => ?_⟩
      exact ok _ _ _ _ (hr p (rm.none hp)) (RepD.obj.mpr rfl) (new_lst rm hp r1.flat) (Step.new' hp)
    · exact hr.elim
  · rename_i xs k
    obtain ⟨p, vs, rfl, hp, rp⟩ := RepD.tup.mp rd
    rw [RepD.int] at re; subst re
    have hl := rp.length
    refine op_repT pins s σ H _ _ v u Q I rx ry ⟨p, k, vs, rfl, rfl, by rw [hK]; exact hp, ?_, hr.2.1, hr.2.2.1, by rw [← hl]; exact hr.2.2.2.1, fun t ht => ?_⟩
    · intro ev; rw [ev] at hl; exact hr.1 (List.length_eq_zero_iff.mp hl)
    · exact ok _ _ _ _ hr.2.2.2.2 (new_tup ht rp.flat) (rm.skip ht) (Step.hid ht)
  · rename_i l k
    rw [RepD.str] at rd; rw [RepD.int] at re; subst rd re
    exact op_mul_str pins s σ H _ _ v u Q I rx ry ⟨_, _, rfl, rfl, hr.1, hr.2.1, hr.2.2.1, ok _ _ _ _ hr.2.2.2 (RepD.str.mpr rfl) rm Step.rfl'⟩
  · exact hr.elim
end
end DL
set_option Elab.async false
set_option linter.all false
set_option maxRecDepth 100000
set_option maxHeartbeats 2000000
/-! DL0: a list, a dict == an int. -/
namespace DL
open PySem PySem.Spec PyProof.Rows L2 PySem.SeqAt AutoSeq1 MeetsSeq
theorem dict_eq_declines_int (l : Addr) (es : Array DictEntry) (ep : Nat) (b : Int) (u : Tok) :
    Meets (Builtin.«dict.__eq__» ⟨[.ref l, .int b u], []⟩) (fun _ R s => s.heap.get? l = some { cls := .type "dict", dict := none, data := .dict es ep, slots := #[] } ∧ R (.ok (.ret .notImplemented)) s) :=
  .of_wp fun prog w A R s h => by obtain ⟨hp, g, d, tk, os⟩ := s; obtain ⟨hl, h⟩ := h; have f1 := F.sub_int_dict; wp_walk using wpAny_loadPart' hl; exact ⟨_, rfl, h⟩
theorem int_eq_declines_dict (b : Int) (u : Tok) (l : Addr) (es : Array DictEntry) (ep : Nat) :
    Meets (Builtin.«int.__eq__» ⟨[.int b u, .ref l], []⟩) (fun _ R s => s.heap.get? l = some { cls := .type "dict", dict := none, data := .dict es ep, slots := #[] } ∧ R (.ok (.ret .notImplemented)) s) :=
  .of_wp fun prog w A R s h => by obtain ⟨hp, g, d, tk, os⟩ := s; obtain ⟨hl, h⟩ := h; wp_walk using wpAny_loadPart' hl, wpAny_load hl; exact ⟨_, rfl, h⟩
theorem rc_dict_int {A : Around} {s : Shared} {l : Addr} {o : Obj} {es : Array DictEntry} {ep : Nat} (b : Int) (u : Tok) (ho : s.heap.get? l = some o) (hx : o.ExactDict) (hd : o.data = .dict es ep) (hu : A.units < cLine) : RcAt A s (.ref l) (.int b u) false := fun prog w E Q h => by
  obtain ⟨cls, dd, data, sl⟩ := o
  obtain ⟨h1, h2, h3⟩ := hx
  simp only at h1 h2 h3 hd
  subst h1 h2 h3 hd
  exact rc_eq_decline_or (k := false) ⟨_, ho, rfl⟩ (typeIs_int s b u) (by decide) F.sub_int_dict F.slot_dict_eq F.slot_int_eq_refl
    (fun _ hq => call_meets F.slot_dict_eq ⟨_, ho, rfl⟩ F.entry_dict_eq (F.args_dict_eq_2 _ _) (dict_eq_declines_int l es ep b u) ⟨ho, hq⟩)
    (fun _ hq => call_meets F.slot_int_eq_refl (typeIs_int s b u) F.entry_int_eq (F.args_int_eq_2 _ _) (int_eq_declines_dict b u l es ep) ⟨ho, hq⟩)
    (fun _ hq => wpAny_of_eq (rfl : isSame (.ref l) (.int b u) = pure false) hq) (.inr hu) h
/-- a list or a dict -/
def LdAt (K : PySem.W.Frag) (H : Hp) (a : Addr) : Prop := (∃ vs, SqL K H a vs) ∨ ∃ o es ep, H a = some (objO a o) ∧ o.ExactDict ∧ o.data = .dict es ep
theorem op_eqO {X : Cx} (hu : X.A.units + 64 < cLine) : OpR X (compareOp .Eq) (fun x y H Q => ∃ (a : Addr) (i : Int), x = .ref a ∧ y = .int i ∧ LdAt X.K H a ∧ Q (.bl false) H) := by
  intro pins s σ H x y v u Q I rx ry h
  obtain ⟨a, i, rfl, rfl, hl, q⟩ := h
  obtain rfl : v = Value.ref a := rx
  obtain ⟨t, rfl⟩ := ry
  have hu' : X.A.units < cLine := by omega
  have fin : RcAt X.A s (.ref a) (.int i t) false := by
    rcases hl with ⟨vs, hs⟩ | ⟨o, es, ep, ho, hx, hd⟩
    · obtain ⟨its, rv, ⟨ob, n, ho, hc, hdd, hd⟩, _⟩ := I.list hs
      exact RcAt.list_int i t ⟨ob, ho, hc, n, hd⟩ hu'
    · have z : ObjOk X.prog X.w H s.heap a (objO a o) := I.hok a _ ho
      exact rc_dict_int i t z.1 hx hd hu'
  exact fin X.prog X.w _ _ ⟨.bl _, H, I, rfl, q⟩
end DL
set_option Elab.async false
set_option linter.all false
set_option maxRecDepth 100000
/-! DL3: comparisons, truth, subscripts, slices, isinstance. -/
namespace DL
open PySem PySem.Spec PyProof.Rows L2

/-! ### values as data, for == -/
def toP : Nat → Mem → D → Option PyData
  | 0, _, _ => none
  | n + 1, M, d => match d with
    | .non => some .none
    | .bl b => some (.bool b)
    | .int i => some (.int i)
    | .str l => some (.str (S l))
    | .tup xs => (xs.mapM (toP n M)).map .tuple
    | .obj a => match rdL M a with
      | some xs => (xs.mapM (toP n M)).map .list
      | none => none
theorem toP_all {G : Cfg} {H : Hp} {M : Mem} {n : Nat} (ih : ∀ d v p, RepD G.K H d v → toP n M d = some p → Dp G.K H v p ∧ p.depth ≤ n) :
    ∀ (ds : List D) (vs : List V) (ps : List PyData), RepL G.K H ds vs → ds.mapM (toP n M) = some ps → DpAll G.K H vs ps ∧ PyData.depthAll ps ≤ n
  | [], vs, ps, h, e => by
    rw [RepL.nil] at h; subst h
    simp at e; subst e
    exact ⟨.nil, by simp [PyData.depthAll]⟩
  | d :: ds, vs, ps, h, e => by
    obtain ⟨v, ws, rfl, r, q⟩ := RepL.cons.mp h
    rw [List.mapM_cons] at e
    cases e1 : toP n M d with
    | none => rw [e1] at e; cases e
    | some p =>
      rw [e1] at e
      cases e2 : ds.mapM (toP n M) with
      | none => rw [e2] at e; cases e
      | some qs =>
        rw [e2] at e
        cases e
        obtain ⟨h1, h2⟩ := ih d v p r e1
        obtain ⟨h3, h4⟩ := toP_all ih ds ws qs q e2
        exact ⟨.cons h1 h3, by simp only [PyData.depthAll]; omega⟩
theorem toP_ok {G : Cfg} {H : Hp} {M : Mem} (m : RepM G H M) : ∀ (n : Nat) (d : D) (v : V) (p : PyData), RepD G.K H d v → toP n M d = some p → Dp G.K H v p ∧ p.depth ≤ n
  | 0, d, v, p, _, e => by cases e
  | n + 1, d, v, p, r, e => by
    cases d with
    | non => rw [RepD.non] at r; subst r; cases e; exact ⟨.non, by simp [PyData.depth]⟩
    | bl b => rw [RepD.bl] at r; subst r; cases e; exact ⟨.bl b, by simp [PyData.depth]⟩
    | int i => rw [RepD.int] at r; subst r; cases e; exact ⟨.int i, by simp [PyData.depth]⟩
    | str l => rw [RepD.str] at r; subst r; cases e; exact ⟨.str _, by simp [PyData.depth]⟩
    | tup xs =>
      obtain ⟨a, vs, rfl, hq, rq⟩ := RepD.tup.mp r
      have e' : (xs.mapM (toP n M)).map PyData.tuple = some p := e
      cases e2 : xs.mapM (toP n M) with
      | none => rw [e2] at e'; cases e'
      | some ps =>
        rw [e2] at e'; cases e'
        obtain ⟨h1, h2⟩ := toP_all (toP_ok m n) xs vs ps rq e2
        exact ⟨.tup hq h1, by simp only [PyData.depth]; omega⟩
    | obj a =>
      rw [RepD.obj] at r; subst r
      have e' : (match rdL M a with | some xs => (xs.mapM (toP n M)).map PyData.list | none => none) = some p := e
      cases e3 : rdL M a with
      | none => rw [e3] at e'; cases e'
      | some xs =>
        rw [e3] at e'
        obtain ⟨vs, hq, rq⟩ := rdL_ok m e3
        have e'' : (xs.mapM (toP n M)).map PyData.list = some p := e'
        cases e2 : xs.mapM (toP n M) with
        | none => rw [e2] at e''; cases e''
        | some ps =>
          rw [e2] at e''; cases e''
          obtain ⟨h1, h2⟩ := toP_all (toP_ok m n) xs vs ps rq e2
          exact ⟨.lst hq h1, by simp only [PyData.depth]; omega⟩

section
variable {X : Cx} {G : Cfg}
def isLd (M : Mem) (a : Addr) : Bool := match M a with
  | some (.lst _) => true
  | some (.ro _) => true
  | some (.dct _) => true
  | _ => false
theorem isLd_ok {G : Cfg} {H : Hp} {M : Mem} {a : Addr} (rm : RepM G H M) (h : isLd M a = true) : LdAt G.K H a := by
  unfold isLd at h
  split at h
  · rename_i xs e
    obtain ⟨vs, hp, _⟩ := rdL_ok (xs := xs) rm (by unfold rdL; rw [e])
    exact .inl ⟨vs, hp⟩
  · rename_i xs e
    obtain ⟨vs, hp, _⟩ := rdL_ok (xs := xs) rm (by unfold rdL; rw [e])
    exact .inl ⟨vs, hp⟩
  · rename_i kvs e
    obtain ⟨ho, h1, ob, rfl, h2⟩ := rm a _ e
    obtain ⟨es, ep, h3, _⟩ := h2.dat
    exact .inr ⟨ob, es, ep, h1, h2.ex, h3⟩
  · cases h
/-- == with its answer k -/
def vEqK (neg : Bool) : R2D := fun d e M Q => match d, e with
  | .int i, .int j => Q (.bl (if neg then !decide (i = j) else decide (i = j))) M
  | .str a, .str b => Q (.bl (if neg then !decide (a = b) else decide (a = b))) M
  | .bl a, .bl b => Q (.bl (if neg then !decide (a = b) else decide (a = b))) M
  | .obj a, .int _ => neg = false ∧ isLd M a = true ∧ Q (.bl false) M
  | d, e => match toP 60 M d, toP 60 M e with
    | some p, some q => p.canLay0 = true ∧ q.canLay0 = true ∧ Q (.bl (if neg then !PyData.eqv p q else PyData.eqv p q)) M
    | _, _ => False
abbrev vEq := vEqK false
abbrev vNe := vEqK true
theorem shaped_of {p : PyData} {n : Nat} (h : p.canLay0 = true) (hd : p.depth ≤ n) (hn : n ≤ 64) : SeqAt.shaped p = true := by
  unfold SeqAt.shaped
  rw [h, decide_eq_true (Nat.le_trans hd hn)]; rfl
theorem od_eqG {neg : Bool} {f : Value → Value → Sem Value} (hK : X.K = G.K)
    (hs : OpR X f (fun x y H Q => scal x y = true ∧ Q (.bl (if neg then !decide (x = y) else decide (x = y))) H))
    (hd : OpR X f (fun x y H Q => ∃ d e, Dp X.K H x d ∧ Dp X.K H y e ∧ SeqAt.shaped d = true ∧ SeqAt.shaped e = true ∧ Q (.bl (if neg then !PyData.eqv d e else PyData.eqv d e)) H))
    (hO : neg = false → OpR X f (fun x y H Q => ∃ (a : Addr) (i : Int), x = .ref a ∧ y = .int i ∧ LdAt X.K H a ∧ Q (.bl false) H)) : OpR X f (lift2 G (vEqK neg)) := by
  intro pins s σ H x y v u Q I rx ry hr
  obtain ⟨d, e, M, Q0, rd, re, rm, hr, ok⟩ := hr
  unfold vEqK at hr
  split at hr
  · rename_i i j
    rw [RepD.int] at rd re; subst rd re
    refine hs pins s σ H _ _ v u Q I rx ry ⟨rfl, ok _ _ _ _ hr (RepD.bl.mpr ?_) rm Step.rfl'⟩
    have : decide (V.int i = V.int j) = decide (i = j) := by by_cases h : i = j <;> simp [h]
    rw [this]
  · rename_i i j
    rw [RepD.str] at rd re; subst rd re
    refine hs pins s σ H _ _ v u Q I rx ry ⟨rfl, ok _ _ _ _ hr (RepD.bl.mpr ?_) rm Step.rfl'⟩
    have : decide (V.str (S i) = V.str (S j)) = decide (i = j) := by
      by_cases h : i = j
      · simp [h]
      · have : S i ≠ S j := fun z => h (S_inj z)
        simp [h, this]
    rw [this]
  · rename_i i j
    rw [RepD.bl] at rd re; subst rd re
    refine hs pins s σ H _ _ v u Q I rx ry ⟨rfl, ok _ _ _ _ hr (RepD.bl.mpr ?_) rm Step.rfl'⟩
    have : decide (V.bl i = V.bl j) = decide (i = j) := by by_cases h : i = j <;> simp [h]
    rw [this]
  · rw [RepD.obj] at rd; subst rd
    rw [RepD.int] at re; subst re
    exact hO hr.1 pins s σ H _ _ v u Q I rx ry ⟨_, _, rfl, rfl, by rw [hK]; exact isLd_ok rm hr.2.1, ok _ _ _ _ hr.2.2 (RepD.bl.mpr rfl) rm Step.rfl'⟩
  · split at hr
    · rename_i p q e1 e2
      obtain ⟨a1, a2⟩ := toP_ok rm 60 _ _ _ rd e1
      obtain ⟨b1, b2⟩ := toP_ok rm 60 _ _ _ re e2
      exact hd pins s σ H _ _ v u Q I rx ry ⟨p, q, by rw [hK]; exact a1, by rw [hK]; exact b1, shaped_of hr.1 a2 (by decide), shaped_of hr.2.1 b2 (by decide), ok _ _ _ _ hr.2.2 (RepD.bl.mpr rfl) rm Step.rfl'⟩
    · exact hr.elim
theorem od_eq (hK : X.K = G.K) (hu : X.A.units + 64 < cLine) : OpR X (compareOp .Eq) (lift2 G vEq) := od_eqG (neg := false) hK op_eq (op_eqD hu) fun _ => op_eqO hu
theorem od_ne (hK : X.K = G.K) (hu : X.A.units + 64 < cLine) : OpR X (compareOp .NotEq) (lift2 G vNe) := od_eqG (neg := true) hK op_ne (op_neD hu) fun z => by cases z

/-- order of ints, of texts -/
def vOrd (gi : Int → Int → Bool) (gs : List Nat → List Nat → Bool) : R2D := fun d e M Q => match d, e with
  | .int i, .int j => Q (.bl (gi i j)) M
  | .str a, .str b => Q (.bl (gs a b)) M
  | _, _ => False
theorem od_ord {op : CmpOp} {gi : Int → Int → Bool} {gs : List Nat → List Nat → Bool} (hi : OpR X (compareOp op) (rI0 fun i j => .bl (gi i j)))
    (hs : OpR X (compareOp op) (fun x y H Q => ∃ i j : Str, x = .str i ∧ y = .str j ∧ Q (.bl (gs i.cps.toList j.cps.toList)) H)) : OpR X (compareOp op) (lift2 G (vOrd gi gs)) := by
  intro pins s σ H x y v u Q I rx ry hr
  obtain ⟨d, e, M, Q0, rd, re, rm, hr, ok⟩ := hr
  unfold vOrd at hr
  split at hr
  · rw [RepD.int] at rd re; subst rd re
    exact hi pins s σ H _ _ v u Q I rx ry ⟨_, _, rfl, rfl, ok _ _ _ _ hr (RepD.bl.mpr rfl) rm Step.rfl'⟩
  · rw [RepD.str] at rd re; subst rd re
    exact hs pins s σ H _ _ v u Q I rx ry ⟨_, _, rfl, rfl, ok _ _ _ _ hr (RepD.bl.mpr (by rw [S_cps, S_cps])) rm Step.rfl'⟩
  · exact hr.elim
abbrev vLt : R2D := vOrd (fun i j => decide (i < j)) fun a b => decide (a < b)
abbrev vLe : R2D := vOrd (fun i j => decide (i ≤ j)) fun a b => !decide (b < a)
abbrev vGt : R2D := vOrd (fun i j => decide (j < i)) fun a b => decide (b < a)
abbrev vGe : R2D := vOrd (fun i j => decide (j ≤ i)) fun a b => !decide (a < b)
theorem od_lt : OpR X (compareOp .Lt) (lift2 G vLt) := od_ord op_lt op_lt_str
theorem od_le : OpR X (compareOp .LtE) (lift2 G vLe) := od_ord op_le op_le_str
theorem od_gt : OpR X (compareOp .Gt) (lift2 G vGt) := od_ord op_gt op_gt_str
theorem od_ge : OpR X (compareOp .GtE) (lift2 G vGe) := od_ord op_ge op_ge_str

/-- is None, is True -/
def isNon : D → Bool | .non => true | _ => false
def vIsK (neg : Bool) : R2D := fun d e M Q => match d, e with
  | .bl a, .bl b => Q (.bl (if neg then !decide (a = b) else decide (a = b))) M
  | d, .non => Q (.bl (if neg then !isNon d else isNon d)) M
  | _, _ => False
theorem isNon_eq {K : PySem.W.Frag} {H : Hp} {d : D} {v : V} (r : RepD K H d v) : decide (v = .non) = isNon d := by
  cases d with
  | non => rw [RepD.non] at r; subst r; rfl
  | bl b => rw [RepD.bl] at r; subst r; rfl
  | int b => rw [RepD.int] at r; subst r; rfl
  | str b => rw [RepD.str] at r; subst r; rfl
  | tup xs => obtain ⟨a, vs, rfl, _⟩ := RepD.tup.mp r; rfl
  | obj b => rw [RepD.obj] at r; subst r; rfl
theorem od_is : OpR X (compareOp .Is) (lift2 G (vIsK false)) := by
  intro pins s σ H x y v u Q I rx ry hr
  obtain ⟨d, e, M, Q0, rd, re, rm, hr, ok⟩ := hr
  unfold vIsK at hr
  split at hr
  · rw [RepD.bl] at rd re; subst rd re
    exact op_isBl pins s σ H _ _ v u Q I rx ry ⟨_, _, rfl, rfl, ok _ _ _ _ hr (RepD.bl.mpr rfl) rm Step.rfl'⟩
  · rw [RepD.non] at re; subst re
    exact op_isN pins s σ H _ _ v u Q I rx ry ⟨rfl, ok _ _ _ _ hr (RepD.bl.mpr (by rw [isNon_eq rd]; rfl)) rm Step.rfl'⟩
  · exact hr.elim
theorem od_isnot : OpR X (compareOp .IsNot) (lift2 G (vIsK true)) := by
  intro pins s σ H x y v u Q I rx ry hr
  obtain ⟨d, e, M, Q0, rd, re, rm, hr, ok⟩ := hr
  unfold vIsK at hr
  split at hr
  · rw [RepD.bl] at rd re; subst rd re
    exact op_notBl pins s σ H _ _ v u Q I rx ry ⟨_, _, rfl, rfl, ok _ _ _ _ hr (RepD.bl.mpr rfl) rm Step.rfl'⟩
  · rw [RepD.non] at re; subst re
    exact op_notN pins s σ H _ _ v u Q I rx ry ⟨rfl, ok _ _ _ _ hr (RepD.bl.mpr (by rw [isNon_eq rd]; rfl)) rm Step.rfl'⟩
  · exact hr.elim

/-! ### in -/
def isFlat : D → Bool | .non => true | .bl _ => true | .int _ => true | .str _ => true | _ => false
def eqF : D → D → Bool
  | .non, .non => true
  | .bl a, .bl b => a == b
  | .bl a, .int b => (if a then 1 else 0) == b
  | .int a, .bl b => a == (if b then 1 else 0)
  | .int a, .int b => a == b
  | .str a, .str b => decide (a = b)
  | _, _ => false
theorem flat_rep {K : PySem.W.Frag} {H : Hp} {d : D} {v : V} (r : RepD K H d v) (f : isFlat d = true) : flatV v = true ∧ v = flatD d := by
  cases d with
  | non => rw [RepD.non] at r; subst r; exact ⟨rfl, rfl⟩
  | bl b => rw [RepD.bl] at r; subst r; exact ⟨rfl, rfl⟩
  | int b => rw [RepD.int] at r; subst r; exact ⟨rfl, rfl⟩
  | str b => rw [RepD.str] at r; subst r; exact ⟨rfl, rfl⟩
  | tup xs => cases f
  | obj b => cases f
theorem eqF_eq {d e : D} (fd : isFlat d = true) (fe : isFlat e = true) : eqV (flatD d) (flatD e) = eqF d e := by
  cases d <;> cases e <;> first | rfl | (cases fd; done) | (cases fe; done) | skip
  rename_i a b
  show (S a == S b) = decide (a = b)
  by_cases h : a = b
  · subst h; simp
  · have : S a ≠ S b := fun z => h (S_inj z)
    simp [h, this]
theorem flat_all {K : PySem.W.Frag} {H : Hp} {d : D} (fd : isFlat d = true) : ∀ {xs : List D} {vs : List V}, RepL K H xs vs → xs.all isFlat = true → vs.all flatV = true ∧ inV (flatD d) vs = xs.any fun y => eqF y d
  | [], vs, r, _ => by rw [RepL.nil] at r; subst r; exact ⟨rfl, rfl⟩
  | x :: xs, vs, r, f => by
    obtain ⟨v, ws, rfl, r1, r2⟩ := RepL.cons.mp r
    rw [List.all_cons, Bool.and_eq_true] at f
    obtain ⟨h1, h2⟩ := flat_rep r1 f.1
    obtain ⟨h3, h4⟩ := flat_all fd r2 f.2
    refine ⟨by rw [List.all_cons, h1, h3]; rfl, ?_⟩
    unfold inV at h4 ⊢
    rw [List.any_cons, List.any_cons, h4, h2, eqF_eq f.1 fd]
def vInK (neg : Bool) : R2D := fun d e M Q => match d, e with
  | .str [c], .str l => Q (.bl (if neg then !decide (c ∈ l) else decide (c ∈ l))) M
  | d, .tup xs => isFlat d = true ∧ xs.all isFlat = true ∧ Q (.bl (if neg then !xs.any (fun y => eqF y d) else xs.any fun y => eqF y d)) M
  | d, .obj a => match rdL M a with
    | some xs => isFlat d = true ∧ xs.all isFlat = true ∧ Q (.bl (if neg then !xs.any (fun y => eqF y d) else xs.any fun y => eqF y d)) M
    | none => False
  | _, _ => False
theorem od_inG {neg : Bool} {f : Value → Value → Sem Value} (hK : X.K = G.K)
    (h1 : OpR X f (fun x y H Q => ∃ (c : Nat) (z : Str), x = .str ⟨#[c]⟩ ∧ y = .str z ∧ Q (.bl (if neg then !decide (c ∈ z.cps.toList) else decide (c ∈ z.cps.toList))) H))
    (h2 : OpR X f (rIn X.K neg)) : OpR X f (lift2 G (vInK neg)) := by
  intro pins s σ H x y v u Q I rx ry hr
  obtain ⟨d, e, M, Q0, rd, re, rm, hr, ok⟩ := hr
  unfold vInK at hr
  split at hr
  · rw [RepD.str] at rd re; subst rd re
    exact h1 pins s σ H _ _ v u Q I rx ry ⟨_, _, rfl, rfl, ok _ _ _ _ hr (RepD.bl.mpr (by rw [S_cps])) rm Step.rfl'⟩
  · obtain ⟨p, vs, rfl, hp, rp⟩ := RepD.tup.mp re
    obtain ⟨f1, f2⟩ := flat_rep rd hr.1
    obtain ⟨f3, f4⟩ := flat_all hr.1 rp hr.2.1
    subst f2
    exact h2 pins s σ H _ _ v u Q I rx ry ⟨p, vs, rfl, .inr (by rw [hK]; exact hp), f1, f3, ok _ _ _ _ hr.2.2 (RepD.bl.mpr (by rw [f4])) rm Step.rfl'⟩
  · rename_i a
    rw [RepD.obj] at re; subst re
    split at hr
    · rename_i xs e1
      obtain ⟨vs, hp, rp⟩ := rdL_ok rm e1
      obtain ⟨f1, f2⟩ := flat_rep rd hr.1
      obtain ⟨f3, f4⟩ := flat_all hr.1 rp hr.2.1
      subst f2
      exact h2 pins s σ H _ _ v u Q I rx ry ⟨a, vs, rfl, .inl (by rw [hK]; exact hp), f1, f3, ok _ _ _ _ hr.2.2 (RepD.bl.mpr (by rw [f4])) rm Step.rfl'⟩
    · exact hr.elim
  · exact hr.elim
theorem od_in (hK : X.K = G.K) : OpR X (compareOp .In) (lift2 G (vInK false)) := od_inG (neg := false) hK op_in_sign op_in_seq
theorem od_notin (hK : X.K = G.K) : OpR X (compareOp .NotIn) (lift2 G (vInK true)) := od_inG (neg := true) hK op_notIn_sign op_notIn_seq

/-! ### truth -/
def vTru : D → Mem → (Bool → Mem → Prop) → Prop := fun d M Q => match d with
  | .non => Q false M
  | .bl b => Q b M
  | .int i => Q (decide (i ≠ 0)) M
  | .str l => l.length ≤ big ∧ Q (!l.isEmpty) M
  | .tup xs => Q (!xs.isEmpty) M
  | .obj a => match rdL M a with
    | some xs => Q (!xs.isEmpty) M
    | none => False
theorem tru_rep {H : Hp} {M : Mem} {d : D} {v : V} {Q : Bool → Mem → Prop} (hK : X.K = G.K) (r : RepD G.K H d v) (m : RepM G H M) (h : vTru d M Q) : ∃ k, TruV X.K v H k ∧ Q k M := by
  cases d with
  | non => rw [RepD.non] at r; subst r; exact ⟨false, rfl, h⟩
  | bl b => rw [RepD.bl] at r; subst r; exact ⟨b, rfl, h⟩
  | int i =>
    rw [RepD.int] at r; subst r
    refine ⟨_, ?_, h⟩
    show decide (i ≠ 0) = (i != 0)
    by_cases z : i = 0 <;> simp [z]
  | str l =>
    rw [RepD.str] at r; subst r
    refine ⟨_, ⟨by rw [S_len, big_eq]; exact h.1, ?_⟩, h.2⟩
    rw [S_len]
    cases l with
    | nil => simp
    | cons _ _ => simp; omega
  | tup xs =>
    obtain ⟨a, vs, rfl, hp, rp⟩ := RepD.tup.mp r
    refine ⟨_, .inr (.inl ⟨vs, by rw [hK]; exact hp, ?_⟩), h⟩
    have := rp.length
    cases xs <;> cases vs <;> simp_all
  | obj a =>
    rw [RepD.obj] at r; subst r
    have h' : (match rdL M a with | some xs => Q (!xs.isEmpty) M | none => False) := h
    cases e : rdL M a with
    | none => rw [e] at h'; exact h'.elim
    | some xs =>
      rw [e] at h'
      obtain ⟨vs, hp, rp⟩ := rdL_ok m e
      refine ⟨_, .inl ⟨vs, by rw [hK]; exact hp, ?_⟩, h'⟩
      have := rp.length
      cases xs <;> cases vs <;> simp_all

/-! ### subscripts -/
def vIdx : R2D := fun d e M Q => match d, e with
  | .tup xs, .int i => match atI xs i with
    | some x => Q x M
    | none => False
  | .str l, .int i => l.length ≤ big ∧ match atI l i with
    | some c => Q (.str [c]) M
    | none => False
  | .obj a, .int i => match rdL M a with
    | some xs => match atI xs i with
      | some x => Q x M
      | none => False
    | none => False
  | _, _ => False
theorem atI_rep {K : PySem.W.Frag} {H : Hp} {xs : List D} {vs : List V} {i : Int} {d : D} (r : RepL K H xs vs) (e : atI xs i = some d) : ∃ v, atI vs i = some v ∧ RepD K H d v := by
  unfold atI at e ⊢
  rw [← r.length]
  cases q : ixN xs.length i with
  | none => rw [q] at e; cases e
  | some j => rw [q] at e; exact r.get e
theorem id_idx (hK : X.K = G.K) : IxR X (lift2 G vIdx) := by
  intro value slice pins s σ H x y v u Q I rx ry h hs
  obtain ⟨d, e, M, Q0, rd, re, rm, hr, ok⟩ := h
  unfold vIdx at hr
  split at hr
  · rename_i xs i
    obtain ⟨p, vs, rfl, hp, rp⟩ := RepD.tup.mp rd
    rw [RepD.int] at re; subst re
    split at hr
    · rename_i x e1
      obtain ⟨z, e2, rz⟩ := atI_rep rp e1
      exact ix_tup value slice pins s σ H _ _ v u Q I rx ry ⟨p, vs, i, z, rfl, rfl, by rw [hK]; exact hp, e2, ok _ _ _ _ hr rz rm Step.rfl'⟩ hs
    · exact hr.elim
  · rename_i l i
    rw [RepD.str] at rd; rw [RepD.int] at re; subst rd re
    obtain ⟨hl, hr⟩ := hr
    split at hr
    · rename_i c e1
      exact ix_str value slice pins s σ H _ _ v u Q I rx ry ⟨_, i, c, rfl, rfl, by rw [S_len, big_eq]; exact hl, by rw [S_cps]; exact e1, ok _ _ _ _ hr (RepD.str.mpr rfl) rm Step.rfl'⟩ hs
    · exact hr.elim
  · rename_i a i
    rw [RepD.obj] at rd; rw [RepD.int] at re; subst rd re
    split at hr
    · rename_i xs e0
      obtain ⟨vs, hp, rp⟩ := rdL_ok rm e0
      split at hr
      · rename_i x e1
        obtain ⟨z, e2, rz⟩ := atI_rep rp e1
        exact ix_list value slice pins s σ H _ _ v u Q I rx ry ⟨a, vs, i, z, rfl, rfl, by rw [hK]; exact hp, e2, ok _ _ _ _ hr rz rm Step.rfl'⟩ hs
      · exact hr.elim
    · exact hr.elim
  · exact hr.elim

/-! ### slices -/
def cut {α : Type} (xs : List α) (lo hi : Option Int) : List α := (xs.drop (HT.sIx xs.length 0 lo)).take (HT.sIx xs.length xs.length hi - HT.sIx xs.length 0 lo)
abbrev RSD := D → Option Int → Option Int → Mem → DK → Prop
def liftSl (G : Cfg) (r : RSD) : V → Option Int → Option Int → Hp → VK → Prop := fun x lo hi H Q => ∃ d M Q0, RepD G.K H d x ∧ RepM G H M ∧ r d lo hi M Q0 ∧ OkK G H M Q0 Q
def vSlc : RSD := fun d lo hi M Q => match d with
  | .str l => l.length ≤ big ∧ Q (.str (cut l lo hi)) M
  | .tup xs => Q (.tup (cut xs lo hi)) M
  | .obj a => match rdL M a with
    | some xs => ∀ p, M p = none → Q (.obj p) (mup M p (.lst (cut xs lo hi)))
    | none => False
  | _ => False
theorem cut_rep {K : PySem.W.Frag} {H : Hp} {xs : List D} {vs : List V} (r : RepL K H xs vs) (lo hi : Option Int) : RepL K H (cut xs lo hi) (cutV vs lo hi) := by
  unfold cut cutV
  rw [← r.length]
  exact (r.drop _).take _
theorem sd_slc (hK : X.K = G.K) : SlR X (liftSl G vSlc) := by
  intro pins s σ H x v vl vu lo hi sl Q I rx hs pl pu h
  obtain ⟨d, M, Q0, rd, rm, hr, ok⟩ := h
  unfold vSlc at hr
  split at hr
  · rename_i l
    rw [RepD.str] at rd; subst rd
    refine sl_str pins s σ H _ v vl vu lo hi sl Q I rx hs pl pu ⟨_, rfl, by rw [S_len, big_eq]; exact hr.1, ok _ _ _ _ hr.2 (RepD.str.mpr ?_) rm Step.rfl'⟩
    unfold cutS cut
    rw [S_cps, S_len]; rfl
  · rename_i xs
    obtain ⟨p, vs, rfl, hp, rp⟩ := RepD.tup.mp rd
    refine sl_tupA pins s σ H _ v vl vu lo hi sl Q I rx hs pl pu ⟨p, vs, rfl, by rw [hK]; exact hp, fun hw => ?_, fun _ t ht => ?_⟩
    · refine ok _ _ _ _ hr (RepD.tup.mpr ⟨p, vs, rfl, hp, ?_⟩) rm Step.rfl'
      have e : cut xs lo hi = xs := by
        unfold cut
        rw [rp.length, hw.1, hw.2, Nat.sub_zero, List.drop_zero, ← rp.length, List.take_length]
      rw [e]; exact rp
    · exact ok _ _ _ _ hr (new_tup ht (cut_rep rp lo hi)) (rm.skip ht) (Step.hid ht)
  · rename_i a
    rw [RepD.obj] at rd; subst rd
    split at hr
    · rename_i xs e0
      obtain ⟨vs, hp, rp⟩ := rdL_ok rm e0
      exact sl_list pins s σ H _ v vl vu lo hi sl Q I rx hs pl pu ⟨a, vs, rfl, by rw [hK]; exact hp, fun t ht => ok _ _ _ _ (hr t (rm.none ht)) (RepD.obj.mpr rfl) (new_lst rm ht (cut_rep rp lo hi)) (Step.new' ht)⟩
    · exact hr.elim
  · exact hr.elim

/-! ### isinstance, by built-in classes -/
/-- a value's class -/
def tyD (M : Mem) : D → Option String
  | .non => some "NoneType"
  | .bl _ => some "bool"
  | .int _ => some "int"
  | .str _ => some "str"
  | .tup _ => some "tuple"
  | .obj a => match M a with
    | some (.lst _) => some "list"
    | some (.ro _) => some "list"
    | some (.dct _) => some "dict"
    | _ => none
/-- what isinstance asks of a value -/
def KitH (X : Cx) (H : Hp) (v : V) (t : Value) : Prop := ∀ (pins : List (Addr × Obj)) (σ : L2.St) (s : Shared) (u : Value), Inv X pins σ H s → RelV v u → ∃ P : Heap → Prop, PySem.W.KitX X.K u t P ∧ P s.heap ∧ u ≠ .builtin "__main__.__loader__#opaque"
theorem KitH.of {H : Hp} {v : V} {t : Value} (h : TyX X.K H v t) : KitH X H v t := fun pins σ s u I r => kit_of I r h
theorem tyD_ok {H : Hp} {M : Mem} {d : D} {v : V} {T : String} (hK : X.K = G.K) (r : RepD G.K H d v) (m : RepM G H M) (e : tyD M d = some T) : KitH X H v (.type T) := by
  cases d with
  | non => rw [RepD.non] at r; subst r; cases e; exact .of (.base .non)
  | bl b => rw [RepD.bl] at r; subst r; cases e; exact .of (.base (.bl b))
  | int i => rw [RepD.int] at r; subst r; cases e; exact .of (.base (.int i))
  | str l => rw [RepD.str] at r; subst r; cases e; exact .of (.base (.str _))
  | tup xs =>
    obtain ⟨p, vs, rfl, hp, rp⟩ := RepD.tup.mp r
    cases e
    rcases hp with (hp | ⟨o, hp⟩) | ⟨o, its, n, hk, hc, _⟩
    · exact .of (.base (.tup hp))
    · exact .of (.fTuple hp)
    · exact .of (.kTuple (by rw [hK]; exact hk) hc)
  | obj a =>
    rw [RepD.obj] at r; subst r
    have e' : (match M a with | some (.lst _) => some "list" | some (.ro _) => some "list" | some (.dct _) => some "dict" | _ => none) = some T := e
    split at e'
    · rename_i xs q
      cases e'
      obtain ⟨ho, h1, vs, h2, _⟩ := m a _ q
      subst h2
      exact .of (.base (.lst h1))
    · rename_i xs q
      cases e'
      obtain ⟨ho, h1, ob, vs, h2, _⟩ := m a _ q
      subst h2
      exact .of (.base (.frz h1))
    · rename_i xs q
      cases e'
      obtain ⟨ho, h1, ob, h2, h3⟩ := m a _ q
      subst h2
      intro pins σ s u I ru
      cases (show u = Value.ref a from ru)
      have x : ObjOk X.prog X.w H s.heap a (.ext fun h => h.get? a = some ob) := I.hok a _ h1
      exact ⟨_, PySem.W.kitx_dict, ⟨ob, x.1, h3.ex.1⟩, fun z => nomatch z⟩
    · cases e'
theorem call_isiY : CallR X (.builtin "isinstance") (fun xs H Q => ∃ (x c : V) (t u : Value) (b : Bool), xs = [x, c] ∧ ClsV c u ∧ KitH X H x t ∧ PySem.W.kitOne X.K t u = some b ∧ Q (.bl b) H) := by
  intro pins s σ H xs us Q I r h
  obtain ⟨x, c, t, u, b, rfl, k, ty, e, q⟩ := h
  obtain ⟨u1, u2, rfl, r1, r2⟩ := vals2 r
  have e2 := k.eq r2
  subst e2
  obtain ⟨P, Z, p, hx⟩ := ty pins σ s u1 I r1
  exact PySem.W.kia_one Z I.kIn p e hx fun tk => ⟨.bl b, H, I.tok tk, rfl, q⟩
theorem call_isiYT : CallR X (.builtin "isinstance") (fun xs H Q => ∃ (x : V) (tp : Addr) (cs : List V) (t : Value) (us : List Value) (b : Bool), xs = [x, .ref tp] ∧ H tp = some (.tup cs) ∧ Paired ClsV cs us ∧ KitH X H x t ∧ PySem.W.kitAny X.K t us = some b ∧ Q (.bl b) H) := by
  intro pins s σ H xs us Q I r h
  obtain ⟨x, tp, cs, t, ws, b, rfl, hT, k, ty, e, q⟩ := h
  obtain ⟨u1, u2, rfl, r1, r2⟩ := vals2 r
  cases (show u2 = Value.ref tp from r2)
  obtain ⟨P, Z, p, hx⟩ := ty pins σ s u1 I r1
  obtain ⟨_, its, rv, o, h1, h2, n, h3⟩ := (show ObjOk X.prog X.w H s.heap tp (.tup cs) from I.hok tp _ hT)
  have e3 := ClsV.all k rv
  subst e3
  obtain ⟨oc, od, dt, sl⟩ := o
  simp only at h2 h3
  subst h2 h3
  exact PySem.W.kia_tup Z I.kIn p h1 e hx fun tk => ⟨.bl b, H, I.tok tk, rfl, q⟩
end
end DL
set_option Elab.async false
set_option linter.all false
set_option maxRecDepth 100000
/-! DL4: built-in functions and methods. -/
namespace DL
open PySem PySem.Spec PyProof.Rows L2

/-! ### functions -/
inductive BI where
  | len | int | str | abs | min | max | sum | any | all | sorted | list | tuple | ord
  deriving DecidableEq
def BI.name : BI → Str
  | .len => "len" | .int => "int" | .str => "str" | .abs => "abs" | .min => "min" | .max => "max" | .sum => "sum" | .any => "any" | .all => "all"
  | .sorted => "sorted" | .list => "list" | .tuple => "tuple" | .ord => "ord"
def BI.val : BI → Value
  | .len => .builtin "len" | .int => .type "int" | .str => .type "str" | .abs => .builtin "abs" | .min => .builtin "min" | .max => .builtin "max" | .sum => .builtin "sum"
  | .any => .builtin "any" | .all => .builtin "all" | .sorted => .builtin "sorted" | .list => .type "list" | .tuple => .type "tuple" | .ord => .builtin "ord"
theorem BI.boot (b : BI) : bootBuiltins b.name = some b.val := by cases b <;> decide +kernel
theorem BI.nn (b : BI) : b.name ≠ "__name__" := by cases b <;> decide +kernel
theorem BI.nd (b : BI) : (b.name == ("__debug__" : Str)) = false := by cases b <;> decide +kernel

def asInt : D → Option Int | .int i => some i | _ => none
def asBl : D → Option Bool | .bl b => some b | _ => none
def asStr : D → Option (List Nat) | .str l => some l | _ => none
theorem mapM_some {α β : Type} {f : α → Option β} {g : β → α} (hg : ∀ a b, f a = some b → a = g b) : ∀ {xs : List α} {ys : List β}, xs.mapM f = some ys → xs = ys.map g
  | [], ys, h => by simp at h; subst h; rfl
  | x :: xs, ys, h => by
    rw [List.mapM_cons] at h
    cases e : f x with
    | none => rw [e] at h; cases h
    | some y =>
      rw [e] at h
      cases e2 : xs.mapM f with
      | none => rw [e2] at h; cases h
      | some zs => rw [e2] at h; cases h; rw [hg x y e, mapM_some hg e2]; rfl
theorem mapM_map {α β : Type} {f : α → Option β} {g : β → α} (hg : ∀ b, f (g b) = some b) : ∀ (ys : List β), (ys.map g).mapM f = some ys
  | [] => rfl
  | y :: ys => by rw [List.map_cons, List.mapM_cons, hg, mapM_map hg ys]; rfl
theorem asInt_eq {xs : List D} {ns : List Int} (h : xs.mapM asInt = some ns) : xs = ns.map .int := mapM_some (fun a b e => by cases a <;> first | (cases e; rfl) | cases e) h
theorem asBl_eq {xs : List D} {ns : List Bool} (h : xs.mapM asBl = some ns) : xs = ns.map .bl := mapM_some (fun a b e => by cases a <;> first | (cases e; rfl) | cases e) h
theorem asStr_eq {xs : List D} {ns : List (List Nat)} (h : xs.mapM asStr = some ns) : xs = ns.map .str := mapM_some (fun a b e => by cases a <;> first | (cases e; rfl) | cases e) h
theorem asInt_map (ns : List Int) : (ns.map D.int).mapM asInt = some ns := mapM_map (f := asInt) (g := D.int) (fun _ => rfl) ns
theorem asBl_map (ns : List Bool) : (ns.map D.bl).mapM asBl = some ns := mapM_map (f := asBl) (g := D.bl) (fun _ => rfl) ns
theorem asStr_map (ns : List (List Nat)) : (ns.map D.str).mapM asStr = some ns := mapM_map (f := asStr) (g := D.str) (fun _ => rfl) ns

/-- ints in order -/
def isort (ns : List Int) : List Int := ns.mergeSort (fun a b => decide (a ≤ b))
theorem isort_unique {ns ms : List Int} (p : ms.Perm ns) (s : ms.Pairwise (· ≤ ·)) : ms = isort ns := by
  have h1 : (isort ns).Pairwise (· ≤ ·) := by
    have := List.pairwise_mergeSort (le := fun a b : Int => decide (a ≤ b)) (fun a b c h1 h2 => by simp only [decide_eq_true_eq] at h1 h2 ⊢; omega) (fun a b => by simp only [Bool.or_eq_true, decide_eq_true_eq]; omega) ns
    exact this.imp fun h => by simpa using h
  have h2 : (isort ns).Perm ns := List.mergeSort_perm ns _
  exact (p.trans h2.symm).eq_of_pairwise (fun a b _ _ h1 h2 => by omega) s h1

mutual
def noDt : PyData → Bool
  | .dict _ => false
  | .list xs => noDs xs
  | .tuple xs => noDs xs
  | _ => true
def noDs : List PyData → Bool
  | [] => true
  | x :: xs => noDt x && noDs xs
end
mutual
theorem reads_one {h : Heap} : ∀ (d d' : PyData) (v : Value) (as as' : List Addr), noDt d = true → Reads h v d as → Reads h v d' as' → d = d'
  | .none, d', v, _, _, _, r, r' => by cases r; cases r'; rfl
  | .bool b, d', v, _, _, _, r, r' => by cases r; cases r'; rfl
  | .int b, d', v, _, _, _, r, r' => by cases r; cases r'; rfl
  | .str b, d', v, _, _, _, r, r' => by cases r; cases r'; rfl
  | .list xs, d', v, _, _, n, r, r' => by
    cases r with
    | list h1 h2 h3 h4 =>
      cases r' with
      | list g1 g2 g3 g4 =>
        rw [h1] at g1; cases g1
        rw [h3] at g3; cases g3
        rw [reads_ones xs _ _ _ _ (by simpa [noDt] using n) h4 g4]
      | tuple g1 g2 g3 g4 => rw [h1] at g1; cases g1; rw [h2] at g2; exact absurd (Value.type.inj g2) (by decide)
      | dict g1 g2 g3 g4 => rw [h1] at g1; cases g1; rw [h2] at g2; exact absurd (Value.type.inj g2) (by decide)
  | .tuple xs, d', v, _, _, n, r, r' => by
    cases r with
    | tuple h1 h2 h3 h4 =>
      cases r' with
      | tuple g1 g2 g3 g4 =>
        rw [h1] at g1; cases g1
        rw [h3] at g3; cases g3
        rw [reads_ones xs _ _ _ _ (by simpa [noDt] using n) h4 g4]
      | list g1 g2 g3 g4 => rw [h1] at g1; cases g1; rw [h2] at g2; exact absurd (Value.type.inj g2) (by decide)
      | dict g1 g2 g3 g4 => rw [h1] at g1; cases g1; rw [h2] at g2; exact absurd (Value.type.inj g2) (by decide)
  | .dict _, _, _, _, _, n, _, _ => by simp [noDt] at n
theorem reads_ones {h : Heap} : ∀ (ds ds' : List PyData) (vs : List Value) (as as' : List Addr), noDs ds = true → ReadsAll h vs ds as → ReadsAll h vs ds' as' → ds = ds'
  | [], _, _, _, _, _, r, r' => by cases r; cases r'; rfl
  | d :: ds, _, _, _, _, n, r, r' => by
    rw [noDs, Bool.and_eq_true] at n
    cases r with
    | cons r1 r2 =>
      cases r' with
      | cons q1 q2 => rw [reads_one d _ _ _ _ n.1 r1 q1, reads_ones ds _ _ _ _ n.2 r2 q2]
end
theorem reads_at {h : Heap} : ∀ {ds : List PyData} {vs : List Value} {as : List Addr} {i : Nat} {v : Value}, ReadsAll h vs ds as → vs[i]? = some v → ∃ d as, ds[i]? = some d ∧ Reads h v d as
  | [], _, _, i, v, r, e => by cases r; simp at e
  | d :: ds, _, _, i, v, r, e => by
    cases r with
    | cons r1 r2 =>
      cases i with
      | zero => simp at e; subst e; exact ⟨d, _, rfl, r1⟩
      | succ i => simp at e; obtain ⟨d', as, a, b⟩ := reads_at r2 e; exact ⟨d', as, by simpa using a, b⟩
theorem noDs_at : ∀ {ds : List PyData} {i : Nat} {d : PyData}, noDs ds = true → ds[i]? = some d → noDt d = true
  | [], _, _, _, e => by simp at e
  | x :: xs, i, d, n, e => by
    rw [noDs, Bool.and_eq_true] at n
    cases i with
    | zero => simp at e; subst e; exact n.1
    | succ i => exact noDs_at n.2 (by simpa using e)
/-- what is read of a list or a tuple -/
def rdS (M : Mem) : D → Option (List D)
  | .tup xs => some xs
  | .obj a => rdL M a
  | _ => none
def icodes (i : Int) : List Nat := (PySem.Str.ofString (toString i)).cps.toList
def biS : BI → RLD
  | .len, ds, M, Q => match ds with
    | [.str l] => l.length ≤ big ∧ Q (.int l.length) M
    | [d] => match rdS M d with
      | some xs => Q (.int xs.length) M
      | none => False
    | _ => False
  | .int, ds, M, Q => match ds with
    | [.int i] => Q (.int i) M
    | [.bl b] => Q (.int (if b then 1 else 0)) M
    | [.str l] => match PySem.intText? (S l) with
      | some n => l.length ≤ 640 ∧ Q (.int n) M
      | none => False
    | _ => False
  | .str, ds, M, Q => match ds with
    | [.int i] => i.natAbs.log2 < 1920 ∧ Q (.str (icodes i)) M
    | [.str l] => Q (.str l) M
    | _ => False
  | .abs, ds, M, Q => match ds with
    | [.int i] => Q (.int (if i < 0 then -i else i)) M
    | _ => False
  | .min, ds, M, Q => match ds with
    | [.int i, .int j] => Q (.int (if j < i then j else i)) M
    | [.obj a] => match rdL M a with
      | some xs => match xs.mapM asInt with
        | some (n :: ns) => Q (.int (ns.foldl min n)) M
        | _ => match xs.mapM (toP 60 M) with
          | some (p :: ps) => PySem.W.AlikeAll (p :: ps) ∧ noDs (p :: ps) = true ∧ ∀ (i : Nat) (d : D), xs[i]? = some d → toP 60 M d = some (PySem.W.minD p ps) → Q d M
          | _ => False
      | none => False
    | _ => False
  | .max, ds, M, Q => match ds with
    | [.int i, .int j] => Q (.int (if j > i then j else i)) M
    | [.obj a] => match rdL M a with
      | some xs => match xs.mapM asInt with
        | some (n :: ns) => Q (.int (ns.foldl max n)) M
        | _ => False
      | none => False
    | _ => False
  | .sum, ds, M, Q => match ds with
    | [.obj a] => match rdL M a with
      | some xs => match xs.mapM asInt with
        | some ns => Q (.int ns.sum) M
        | _ => False
      | none => False
    | _ => False
  | .any, ds, M, Q => match ds with
    | [.obj a] => match rdL M a with
      | some xs => match xs.mapM asBl with
        | some bs => Q (.bl (bs.any id)) M
        | _ => False
      | none => False
    | _ => False
  | .all, ds, M, Q => match ds with
    | [.obj a] => match rdL M a with
      | some xs => match xs.mapM asBl with
        | some bs => Q (.bl (bs.all id)) M
        | _ => False
      | none => False
    | _ => False
  | .sorted, ds, M, Q => match ds with
    | [.obj a] => match rdL M a with
      | some xs => match xs.mapM asInt with
        | some ns => ∀ p, M p = none → Q (.obj p) (mup M p (.lst ((isort ns).map .int)))
        | _ => False
      | none => False
    | _ => False
  | .list, ds, M, Q => match ds with
    | [d] => match rdS M d with
      | some xs => ∀ p, M p = none → Q (.obj p) (mup M p (.lst xs))
      | none => False
    | _ => False
  | .tuple, ds, M, Q => match ds with
    | [d] => match rdS M d with
      | some xs => Q (.tup xs) M
      | none => False
    | _ => False
  | .ord, ds, M, Q => match ds with
    | [.str [c]] => Q (.int (c : Nat)) M
    | _ => False

section
variable {X : Cx} {G : Cfg}
theorem rep1 {K : PySem.W.Frag} {H : Hp} {d : D} {vs : List V} (r : RepL K H [d] vs) : ∃ v, vs = [v] ∧ RepD K H d v := by
  obtain ⟨v, ws, rfl, r1, r2⟩ := RepL.cons.mp r
  rw [RepL.nil] at r2; subst r2
  exact ⟨v, rfl, r1⟩
theorem rep2 {K : PySem.W.Frag} {H : Hp} {d e : D} {vs : List V} (r : RepL K H [d, e] vs) : ∃ v u, vs = [v, u] ∧ RepD K H d v ∧ RepD K H e u := by
  obtain ⟨v, ws, rfl, r1, r2⟩ := RepL.cons.mp r
  obtain ⟨u, rfl, r3⟩ := rep1 r2
  exact ⟨v, u, rfl, r1, r3⟩
theorem rdS_ok {H : Hp} {M : Mem} {d : D} {v : V} {xs : List D} (hK : X.K = G.K) (m : RepM G H M) (r : RepD G.K H d v) (e : rdS M d = some xs) : ∃ p vs, v = .ref p ∧ (SqL X.K H p vs ∨ SqT X.K H p vs) ∧ RepL G.K H xs vs := by
  cases d with
  | tup ys =>
    cases e
    obtain ⟨p, vs, rfl, hp, rp⟩ := RepD.tup.mp r
    exact ⟨p, vs, rfl, .inr (by rw [hK]; exact hp), rp⟩
  | obj a =>
    rw [RepD.obj] at r; subst r
    obtain ⟨vs, hp, rp⟩ := rdL_ok m e
    exact ⟨a, vs, rfl, .inl (by rw [hK]; exact hp), rp⟩
  | _ => cases e
theorem foldl_min_mem : ∀ (ns : List Int) (n : Int), ns.foldl min n ∈ n :: ns
  | [], n => by simp
  | m :: ns, n => by
    rw [List.foldl_cons]
    have := foldl_min_mem ns (min n m)
    simp only [List.mem_cons] at this ⊢
    rcases this with h | h
    · rcases Int.le_total n m with q | q
      · left; rw [h]; exact Int.min_eq_left q
      · right; left; rw [h]; exact Int.min_eq_right q
    · exact .inr (.inr h)
theorem foldl_min_le : ∀ (ns : List Int) (n y : Int), y ∈ n :: ns → ns.foldl min n ≤ y
  | [], n, y, h => by simp at h; simp [h]
  | m :: ns, n, y, h => by
    rw [List.foldl_cons]
    simp only [List.mem_cons] at h
    have h1 := foldl_min_le ns (min n m) (min n m) List.mem_cons_self
    rcases h with h | h | h
    · subst h; exact Int.le_trans h1 (Int.min_le_left ..)
    · subst h; exact Int.le_trans h1 (Int.min_le_right ..)
    · exact foldl_min_le ns _ y (List.mem_cons_of_mem _ h)
theorem foldl_max_mem : ∀ (ns : List Int) (n : Int), ns.foldl max n ∈ n :: ns
  | [], n => by simp
  | m :: ns, n => by
    rw [List.foldl_cons]
    have := foldl_max_mem ns (max n m)
    simp only [List.mem_cons] at this ⊢
    rcases this with h | h
    · rcases Int.le_total n m with q | q
      · right; left; rw [h]; exact Int.max_eq_right q
      · left; rw [h]; exact Int.max_eq_left q
    · exact .inr (.inr h)
theorem foldl_max_le : ∀ (ns : List Int) (n y : Int), y ∈ n :: ns → y ≤ ns.foldl max n
  | [], n, y, h => by simp at h; simp [h]
  | m :: ns, n, y, h => by
    rw [List.foldl_cons]
    simp only [List.mem_cons] at h
    have h1 := foldl_max_le ns (max n m) (max n m) List.mem_cons_self
    rcases h with h | h | h
    · subst h; exact Int.le_trans (Int.le_max_left ..) h1
    · subst h; exact Int.le_trans (Int.le_max_right ..) h1
    · exact foldl_max_le ns _ y (List.mem_cons_of_mem _ h)

theorem cd_len (hK : X.K = G.K) : CallR X (.builtin "len") (liftC G (biS .len)) := by
  intro pins s σ H xs us Q I r h
  obtain ⟨ds, M, Q0, rd, rm, hr, ok⟩ := h
  simp only [biS] at hr
  split at hr
  · obtain ⟨v, rfl, r1⟩ := rep1 rd
    rw [RepD.str] at r1; subst r1
    exact call_len_str pins s σ H _ us Q I r ⟨_, rfl, by rw [S_len, big_eq]; exact hr.1, ok _ _ _ _ hr.2 (RepD.int.mpr (by rw [S_len])) rm Step.rfl'⟩
  · obtain ⟨v, rfl, r1⟩ := rep1 rd
    split at hr
    · rename_i ys e
      obtain ⟨p, vs, rfl, hp, rp⟩ := rdS_ok hK rm r1 e
      exact call_len_seq pins s σ H _ us Q I r ⟨p, vs, rfl, hp, ok _ _ _ _ hr (RepD.int.mpr (by rw [rp.length])) rm Step.rfl'⟩
    · exact hr.elim
  · exact hr.elim
theorem cd_int : CallR X (.type "int") (liftC G (biS .int)) := by
  intro pins s σ H xs us Q I r h
  obtain ⟨ds, M, Q0, rd, rm, hr, ok⟩ := h
  simp only [biS] at hr
  split at hr
  · obtain ⟨v, rfl, r1⟩ := rep1 rd
    rw [RepD.int] at r1; subst r1
    exact call_int1 pins s σ H _ us Q I r (.inl ⟨_, rfl, ok _ _ _ _ hr (RepD.int.mpr rfl) rm Step.rfl'⟩)
  · obtain ⟨v, rfl, r1⟩ := rep1 rd
    rw [RepD.bl] at r1; subst r1
    exact call_int1 pins s σ H _ us Q I r (.inr ⟨_, rfl, ok _ _ _ _ hr (RepD.int.mpr rfl) rm Step.rfl'⟩)
  · obtain ⟨v, rfl, r1⟩ := rep1 rd
    rw [RepD.str] at r1; subst r1
    split at hr
    · rename_i n e
      exact call_int_str pins s σ H _ us Q I r ⟨_, n, rfl, e, by rw [S_len]; exact hr.1, ok _ _ _ _ hr.2 (RepD.int.mpr rfl) rm Step.rfl'⟩
    · exact hr.elim
  · exact hr.elim
theorem cd_str : CallR X (.type "str") (liftC G (biS .str)) := by
  intro pins s σ H xs us Q I r h
  obtain ⟨ds, M, Q0, rd, rm, hr, ok⟩ := h
  simp only [biS] at hr
  split at hr
  · obtain ⟨v, rfl, r1⟩ := rep1 rd
    rw [RepD.int] at r1; subst r1
    exact call_str_int pins s σ H _ us Q I r ⟨_, rfl, hr.1, ok _ _ _ _ hr.2 (RepD.str.mpr (by rw [icodes, S_list])) rm Step.rfl'⟩
  · obtain ⟨v, rfl, r1⟩ := rep1 rd
    rw [RepD.str] at r1; subst r1
    exact SkE.call_str_str pins s σ H _ us Q I r ⟨_, rfl, ok _ _ _ _ hr (RepD.str.mpr rfl) rm Step.rfl'⟩
  · exact hr.elim
theorem cd_abs : CallR X (.builtin "abs") (liftC G (biS .abs)) := by
  intro pins s σ H xs us Q I r h
  obtain ⟨ds, M, Q0, rd, rm, hr, ok⟩ := h
  simp only [biS] at hr
  split at hr
  · obtain ⟨v, rfl, r1⟩ := rep1 rd
    rw [RepD.int] at r1; subst r1
    exact call_abs pins s σ H _ us Q I r ⟨_, rfl, ok _ _ _ _ hr (RepD.int.mpr rfl) rm Step.rfl'⟩
  · exact hr.elim
theorem cd_ord : CallR X (.builtin "ord") (liftC G (biS .ord)) := by
  intro pins s σ H xs us Q I r h
  obtain ⟨ds, M, Q0, rd, rm, hr, ok⟩ := h
  simp only [biS] at hr
  split at hr
  · rename_i c
    obtain ⟨v, rfl, r1⟩ := rep1 rd
    rw [RepD.str] at r1; subst r1
    exact call_ord pins s σ H _ us Q I r ⟨_, rfl, rfl, ok _ _ _ _ hr (RepD.int.mpr rfl) rm Step.rfl'⟩
  · exact hr.elim
theorem sumI_ok (hK : X.K = G.K) {H : Hp} {M : Mem} {a : Addr} {xs : List D} {ns : List Int} (m : RepM G H M) (e : rdL M a = some xs) (e2 : xs.mapM asInt = some ns) : SqL X.K H a (ns.map V.int) := by
  obtain ⟨vs, hp, rp⟩ := rdL_ok m e
  rw [asInt_eq e2, RepL.ints] at rp; subst rp
  rw [hK]; exact hp
theorem blsI_ok (hK : X.K = G.K) {H : Hp} {M : Mem} {a : Addr} {xs : List D} {ns : List Bool} (m : RepM G H M) (e : rdL M a = some xs) (e2 : xs.mapM asBl = some ns) : SqL X.K H a (ns.map V.bl) := by
  obtain ⟨vs, hp, rp⟩ := rdL_ok m e
  rw [asBl_eq e2, RepL.bls] at rp; subst rp
  rw [hK]; exact hp
theorem cd_sum (hK : X.K = G.K) (hc : X.calm = true) : CallR X (.builtin "sum") (liftC G (biS .sum)) := by
  intro pins s σ H xs us Q I r h
  obtain ⟨ds, M, Q0, rd, rm, hr, ok⟩ := h
  simp only [biS] at hr
  split at hr
  · rename_i a
    obtain ⟨v, rfl, r1⟩ := rep1 rd
    rw [RepD.obj] at r1; subst r1
    split at hr
    · rename_i ys e
      split at hr
      · rename_i ns e2
        exact cr_sum hc pins s σ H _ us Q I r ⟨a, ns, rfl, sumI_ok hK rm e e2, ok _ _ _ _ hr (RepD.int.mpr rfl) rm Step.rfl'⟩
      · exact hr.elim
    · exact hr.elim
  · exact hr.elim
theorem cd_any (hK : X.K = G.K) (hc : X.calm = true) : CallR X (.builtin "any") (liftC G (biS .any)) := by
  intro pins s σ H xs us Q I r h
  obtain ⟨ds, M, Q0, rd, rm, hr, ok⟩ := h
  simp only [biS] at hr
  split at hr
  · rename_i a
    obtain ⟨v, rfl, r1⟩ := rep1 rd
    rw [RepD.obj] at r1; subst r1
    split at hr
    · rename_i ys e
      split at hr
      · rename_i ns e2
        exact cr_any hc pins s σ H _ us Q I r ⟨a, ns, rfl, blsI_ok hK rm e e2, ok _ _ _ _ hr (RepD.bl.mpr rfl) rm Step.rfl'⟩
      · exact hr.elim
    · exact hr.elim
  · exact hr.elim
theorem cd_all (hK : X.K = G.K) (hc : X.calm = true) : CallR X (.builtin "all") (liftC G (biS .all)) := by
  intro pins s σ H xs us Q I r h
  obtain ⟨ds, M, Q0, rd, rm, hr, ok⟩ := h
  simp only [biS] at hr
  split at hr
  · rename_i a
    obtain ⟨v, rfl, r1⟩ := rep1 rd
    rw [RepD.obj] at r1; subst r1
    split at hr
    · rename_i ys e
      split at hr
      · rename_i ns e2
        exact cr_all hc pins s σ H _ us Q I r ⟨a, ns, rfl, blsI_ok hK rm e e2, ok _ _ _ _ hr (RepD.bl.mpr rfl) rm Step.rfl'⟩
      · exact hr.elim
    · exact hr.elim
  · exact hr.elim
theorem cd_sorted (hK : X.K = G.K) : CallR X (.builtin "sorted") (liftC G (biS .sorted)) := by
  intro pins s σ H xs us Q I r h
  obtain ⟨ds, M, Q0, rd, rm, hr, ok⟩ := h
  simp only [biS] at hr
  split at hr
  · rename_i a
    obtain ⟨v, rfl, r1⟩ := rep1 rd
    rw [RepD.obj] at r1; subst r1
    split at hr
    · rename_i ys e
      split at hr
      · rename_i ns e2
        refine cr_sortedI pins s σ H _ us Q I r ⟨a, ns, rfl, sumI_ok hK rm e e2, fun ms p h1 h2 hp => ?_⟩
        rw [isort_unique h1 h2]
        exact ok _ _ _ _ (hr p (rm.none hp)) (RepD.obj.mpr rfl) (new_lst rm hp (RepL.ints.mpr rfl)) (Step.new' hp)
      · exact hr.elim
    · exact hr.elim
  · exact hr.elim
theorem cd_list (hK : X.K = G.K) : CallR X (.type "list") (liftC G (biS .list)) := by
  intro pins s σ H xs us Q I r h
  obtain ⟨ds, M, Q0, rd, rm, hr, ok⟩ := h
  simp only [biS] at hr
  split at hr
  · obtain ⟨v, rfl, r1⟩ := rep1 rd
    split at hr
    · rename_i ys e
      obtain ⟨p, vs, rfl, hp, rp⟩ := rdS_ok hK rm r1 e
      exact call_list_of pins s σ H _ us Q I r ⟨p, vs, rfl, hp, fun l hl => ok _ _ _ _ (hr l (rm.none hl)) (RepD.obj.mpr rfl) (new_lst rm hl rp) (Step.new' hl)⟩
    · exact hr.elim
  · exact hr.elim
theorem cd_tuple (hK : X.K = G.K) : CallR X (.type "tuple") (liftC G (biS .tuple)) := by
  intro pins s σ H xs us Q I r h
  obtain ⟨ds, M, Q0, rd, rm, hr, ok⟩ := h
  simp only [biS] at hr
  split at hr
  · obtain ⟨v, rfl, r1⟩ := rep1 rd
    split at hr
    · rename_i ys e
      obtain ⟨p, vs, rfl, hp, rp⟩ := rdS_ok hK rm r1 e
      refine call_tuple_of pins s σ H _ us Q I r ⟨p, vs, rfl, ?_⟩
      rcases hp with hp | hp
      · exact .inl ⟨hp, fun l hl => ok _ _ _ _ hr (new_tup hl rp) (rm.skip hl) (Step.hid hl)⟩
      · exact .inr ⟨hp, ok _ _ _ _ hr (RepD.tup.mpr ⟨p, vs, rfl, by rw [← hK]; exact hp, rp⟩) rm Step.rfl'⟩
    · exact hr.elim
  · exact hr.elim
theorem mapM_at {f : D → Option PyData} : ∀ {xs : List D} {ps : List PyData} {i : Nat} {d : D}, xs.mapM f = some ps → xs[i]? = some d → f d = ps[i]?
  | [], _, _, _, _, e => by simp at e
  | x :: xs, ps, i, d, h, e => by
    rw [List.mapM_cons] at h
    cases e1 : f x with
    | none => rw [e1] at h; cases h
    | some p =>
      rw [e1] at h
      cases e2 : xs.mapM f with
      | none => rw [e2] at h; cases h
      | some qs =>
        rw [e2] at h
        cases h
        cases i with
        | zero => simp at e; subst e; simpa using e1
        | succ i => simp at e; simpa using mapM_at e2 e
theorem vals_at : ∀ {vs : List V} {us : List Value} {i : Nat} {u : Value}, Vals vs us → us[i]? = some u → ∃ v, vs[i]? = some v ∧ RelV v u
  | [], _, _, _, h, e => by cases h; simp at e
  | v :: vs, _, i, u, h, e => by
    cases h with
    | cons h1 h2 =>
      cases i with
      | zero => simp at e; subst e; exact ⟨v, rfl, h1⟩
      | succ i => simp at e; obtain ⟨w, a, b⟩ := vals_at h2 e; exact ⟨w, by simpa using a, b⟩
theorem cd_min (hK : X.K = G.K) (hc : X.calm = true) (hu : X.A.units + 64 < cLine) : CallR X (.builtin "min") (liftC G (biS .min)) := by
  intro pins s σ H xs us Q I r h
  obtain ⟨ds, M, Q0, rd, rm, hr, ok⟩ := h
  simp only [biS] at hr
  split at hr
  · obtain ⟨v, u, rfl, r1, r2⟩ := rep2 rd
    rw [RepD.int] at r1 r2; subst r1 r2
    exact call_min2 hc pins s σ H _ us Q I r ⟨_, _, rfl, ok _ _ _ _ hr (RepD.int.mpr rfl) rm Step.rfl'⟩
  · rename_i a
    obtain ⟨v, rfl, r1⟩ := rep1 rd
    rw [RepD.obj] at r1; subst r1
    split at hr
    · rename_i ys e
      split at hr
      · rename_i n ns e2
        refine cr_min hc pins s σ H _ us Q I r ⟨a, n :: ns, rfl, sumI_ok hK rm e e2, by simp, fun m hm hy => ?_⟩
        have em : m = ns.foldl min n := by
          have h1 := hy _ (foldl_min_mem ns n)
          have h2 := foldl_min_le ns n m hm
          omega
        subst em
        exact ok _ _ _ _ hr (RepD.int.mpr rfl) rm Step.rfl'
      · split at hr
        · rename_i p ps e2
          obtain ⟨al, nd, hq⟩ := hr
          obtain ⟨vs, hs, rl⟩ := rdL_ok rm e
          rw [← hK] at hs
          obtain ⟨its, rv, hl, _⟩ := I.list hs
          obtain ⟨dp, dd⟩ := toP_all (toP_ok rm 60) ys vs _ rl e2
          rw [← hK] at dp
          obtain ⟨as, ra⟩ := Dp.readsAll I _ _ _ dp rv
          rw [Vals.ref1 r]
          refine PySem.W.min_list_data (I.ok.hd hc) hl.isList ra al (by omega) fun i v h' tk bs hv hr' hk => ?_
          have hv' : its[i]? = some v := by simpa using hv
          obtain ⟨w, hw, rw'⟩ := vals_at rv hv'
          obtain ⟨d, hd, rd'⟩ := rl.getV hw
          obtain ⟨q, as', hq1, hq2⟩ := reads_at ra hv'
          have hq3 := PySem.W.reads_keeps hk hq2
          have eqm := reads_one q _ _ _ _ (noDs_at nd hq1) hq3 hr'
          exact ⟨w, H, I.kept hk, rw', ok _ _ _ _ (hq i d hd (by rw [mapM_at e2 hd, hq1, eqm])) rd' rm Step.rfl'⟩
        · exact hr.elim
    · exact hr.elim
  · exact hr.elim
theorem cd_max (hK : X.K = G.K) (hc : X.calm = true) : CallR X (.builtin "max") (liftC G (biS .max)) := by
  intro pins s σ H xs us Q I r h
  obtain ⟨ds, M, Q0, rd, rm, hr, ok⟩ := h
  simp only [biS] at hr
  split at hr
  · obtain ⟨v, u, rfl, r1, r2⟩ := rep2 rd
    rw [RepD.int] at r1 r2; subst r1 r2
    exact call_max2 hc pins s σ H _ us Q I r ⟨_, _, rfl, ok _ _ _ _ hr (RepD.int.mpr rfl) rm Step.rfl'⟩
  · rename_i a
    obtain ⟨v, rfl, r1⟩ := rep1 rd
    rw [RepD.obj] at r1; subst r1
    split at hr
    · rename_i ys e
      split at hr
      · rename_i n ns e2
        refine cr_max hc pins s σ H _ us Q I r ⟨a, n :: ns, rfl, sumI_ok hK rm e e2, by simp, fun m hm hy => ?_⟩
        have em : m = ns.foldl max n := by
          have h1 := hy _ (foldl_max_mem ns n)
          have h2 := foldl_max_le ns n m hm
          omega
        subst em
        exact ok _ _ _ _ hr (RepD.int.mpr rfl) rm Step.rfl'
      · exact hr.elim
    · exact hr.elim
  · exact hr.elim

/-! ### methods -/
inductive BM where
  | append | extend | pop | popAt | insert | index | join | icount
  deriving DecidableEq
def BM.name : BM → Str
  | .append => "append" | .extend => "extend" | .pop => "pop" | .popAt => "pop" | .insert => "insert" | .index => "index" | .join => "join" | .icount => "count"
def BM.ty : BM → String
  | .append | .extend | .pop | .popAt | .insert | .index | .icount => "list"
  | .join => "str"
def joinC (sep : List Nat) : List (List Nat) → List Nat
  | [] => []
  | [x] => x
  | x :: y :: r => x ++ sep ++ joinC sep (y :: r)
/-- the place of the first item that equals -/
def idxF (xs : List D) (d : D) : Option Nat := xs.findIdx? fun y => eqF y d
def bmS : BM → RMD
  | .append, d, ds, M, Q => match d, ds with
    | .obj a, [x] => match M a with
      | some (.lst xs) => xs.length < big ∧ Q .non (mup M a (.lst (xs ++ [x])))
      | _ => False
    | _, _ => False
  | .extend, d, ds, M, Q => match d, ds with
    | .obj a, [.obj b] => match M a, M b with
      | some (.lst xs), some (.lst ys) => xs.length + ys.length ≤ big ∧ Q .non (mup M a (.lst (xs ++ ys)))
      | _, _ => False
    | _, _ => False
  | .pop, d, ds, M, Q => match d, ds with
    | .obj a, [] => match M a with
      | some (.lst xs) => match xs.getLast? with
        | some x => Q x (mup M a (.lst xs.dropLast))
        | none => False
      | _ => False
    | _, _ => False
  | .popAt, d, ds, M, Q => match d, ds with
    | .obj a, [.int i] => match M a with
      | some (.lst xs) => match ixN xs.length i with
        | some j => match xs[j]? with
          | some x => Q x (mup M a (.lst (xs.eraseIdx j)))
          | none => False
        | none => False
      | _ => False
    | _, _ => False
  | .insert, d, ds, M, Q => match d, ds with
    | .obj a, [.int i, x] => match M a with
      | some (.lst xs) => xs.length < big ∧ 0 ≤ i ∧ i < 2 ^ 63 ∧ Q .non (mup M a (.lst (xs.take i.toNat ++ [x] ++ xs.drop i.toNat)))
      | _ => False
    | _, _ => False
  | .index, d, ds, M, Q => match d, ds with
    | .obj a, [x] => match rdL M a with
      | some xs => isFlat x = true ∧ xs.all isFlat = true ∧ match idxF xs x with
        | some j => Q (.int j) M
        | none => False
      | none => False
    | _, _ => False
  | .join, d, ds, M, Q => match d, ds with
    | .str sep, [e] => match rdS M e with
      | some xs => match xs.mapM asStr with
        | some ys => (ys.map (·.length)).sum + ys.length * sep.length ≤ 16777216 ∧ Q (.str (joinC sep ys)) M
        | none => False
      | none => False
    | _, _ => False
  | .icount, d, ds, M, Q => match d, ds with
    | .obj a, [.int k] => match rdL M a with
      | some xs => match xs.mapM asInt with
        | some ns => Q (.int (ns.count k : Nat)) M
        | none => False
      | none => False
    | .obj a, [.bl k] => match rdL M a with
      | some xs => match xs.mapM asBl with
        | some ns => Q (.int (ns.count k : Nat)) M
        | none => False
      | none => False
    | _, _ => False

theorem md_append : MtR X "list.append" (liftM G (bmS .append)) := by
  intro pins s σ H x xs v us Q I rx rs h
  obtain ⟨d, ds, M, Q0, rd, rl, rm, hr, ok⟩ := h
  simp only [bmS] at hr
  split at hr
  · rename_i a y
    rw [RepD.obj] at rd; subst rd
    obtain ⟨w, rfl, rw'⟩ := rep1 rl
    split at hr
    · rename_i zs e
      obtain ⟨vs, h1, r1⟩ := lst_ok rm e
      exact mt_append pins s σ H _ _ v us Q I rx rs ⟨a, vs, w, rfl, rfl, h1, by rw [← r1.length, big_eq]; exact hr.1, ok _ _ _ _ hr.2 (RepD.non.mpr rfl) (put_lst rm h1 (r1.app (RepL.one rw'))) (Step.put h1 trivial e)⟩
    · exact hr.elim
  · exact hr.elim
theorem md_extend : MtR X "list.extend" (liftM G (bmS .extend)) := by
  intro pins s σ H x xs v us Q I rx rs h
  obtain ⟨d, ds, M, Q0, rd, rl, rm, hr, ok⟩ := h
  simp only [bmS] at hr
  split at hr
  · rename_i a b
    rw [RepD.obj] at rd; subst rd
    obtain ⟨w, rfl, rw'⟩ := rep1 rl
    rw [RepD.obj] at rw'; subst rw'
    split at hr
    · rename_i ys zs e1 e2
      obtain ⟨vs, h1, r1⟩ := lst_ok rm e1
      obtain ⟨ws, h2, r2⟩ := lst_ok rm e2
      exact mt_extend pins s σ H _ _ v us Q I rx rs ⟨a, b, vs, ws, rfl, rfl, h1, h2, by rw [← r1.length, ← r2.length, big_eq]; exact hr.1, ok _ _ _ _ hr.2 (RepD.non.mpr rfl) (put_lst rm h1 (r1.app r2)) (Step.put h1 trivial e1)⟩
    · exact hr.elim
  · exact hr.elim
theorem md_pop : MtR X "list.pop" (liftM G (bmS .pop)) := by
  intro pins s σ H x xs v us Q I rx rs h
  obtain ⟨d, ds, M, Q0, rd, rl, rm, hr, ok⟩ := h
  simp only [bmS] at hr
  split at hr
  · rename_i a
    rw [RepD.obj] at rd; subst rd
    rw [RepL.nil] at rl; subst rl
    split at hr
    · rename_i zs e
      split at hr
      · rename_i y e2
        obtain ⟨vs, h1, r1⟩ := lst_ok rm e
        rw [List.getLast?_eq_getElem?] at e2
        obtain ⟨w, e3, r3⟩ := r1.get e2
        exact mt_pop pins s σ H _ _ v us Q I rx rs ⟨a, vs, w, rfl, rfl, h1, by rw [← r1.length]; exact e3, ok _ _ _ _ hr (RepD.keep (keep_put h1) _ _ r3) (put_lst rm h1 r1.dropLast) (Step.put h1 trivial e)⟩
      · exact hr.elim
    · exact hr.elim
  · exact hr.elim
theorem md_popAt : MtR X "list.pop" (liftM G (bmS .popAt)) := by
  intro pins s σ H x xs v us Q I rx rs h
  obtain ⟨d, ds, M, Q0, rd, rl, rm, hr, ok⟩ := h
  simp only [bmS] at hr
  split at hr
  · rename_i a i
    rw [RepD.obj] at rd; subst rd
    obtain ⟨w, rfl, rw'⟩ := rep1 rl
    rw [RepD.int] at rw'; subst rw'
    split at hr
    · rename_i zs e
      split at hr
      · rename_i j ej
        split at hr
        · rename_i y e2
          obtain ⟨vs, h1, r1⟩ := lst_ok rm e
          obtain ⟨w, e3, r3⟩ := r1.get e2
          obtain ⟨q1, q2, q3, q4⟩ := ixN_seq ej
          have hz : zs.length ≤ 16777216 := by
            obtain ⟨z, _⟩ := (show ObjOk X.prog X.w H s.heap a (.lst vs) from I.hok a _ h1)
            rw [r1.length]
            have := sizeLine_eq
            omega
          exact mt_popAt pins s σ H _ _ v us Q I rx rs ⟨a, vs, i, j, w, rfl, rfl, h1, by omega, by omega, by rw [← r1.length]; exact q1, e3, ok _ _ _ _ hr (RepD.keep (keep_put h1) _ _ r3) (put_lst rm h1 (r1.erase j)) (Step.put h1 trivial e)⟩
        · exact hr.elim
      · exact hr.elim
    · exact hr.elim
  · exact hr.elim
theorem md_insert : MtR X "list.insert" (liftM G (bmS .insert)) := by
  intro pins s σ H x xs v us Q I rx rs h
  obtain ⟨d, ds, M, Q0, rd, rl, rm, hr, ok⟩ := h
  simp only [bmS] at hr
  split at hr
  · rename_i a i y
    rw [RepD.obj] at rd; subst rd
    obtain ⟨u1, u2, rfl, r1, r2⟩ := rep2 rl
    rw [RepD.int] at r1; subst r1
    split at hr
    · rename_i zs e
      obtain ⟨vs, h1, r1⟩ := lst_ok rm e
      exact mt_insert pins s σ H _ _ v us Q I rx rs ⟨a, vs, i, u2, rfl, rfl, h1, by rw [← r1.length, big_eq]; exact hr.1, hr.2.1, hr.2.2.1, ok _ _ _ _ hr.2.2.2 (RepD.non.mpr rfl) (put_lst rm h1 (((r1.take _).app (RepL.one r2)).app (r1.drop _))) (Step.put h1 trivial e)⟩
    · exact hr.elim
  · exact hr.elim
theorem md_index (hK : X.K = G.K) : MtR X "list.index" (liftM G (bmS .index)) := by
  intro pins s σ H x xs v us Q I rx rs h
  obtain ⟨d, ds, M, Q0, rd, rl, rm, hr, ok⟩ := h
  simp only [bmS] at hr
  split at hr
  · rename_i a y
    rw [RepD.obj] at rd; subst rd
    obtain ⟨w, rfl, rw'⟩ := rep1 rl
    split at hr
    · rename_i zs e
      obtain ⟨fy, fz, hr⟩ := hr
      split at hr
      · rename_i j ej
        obtain ⟨vs, h1, r1⟩ := rdL_ok rm e
        obtain ⟨f1, f2⟩ := flat_rep rw' fy
        obtain ⟨f3, _⟩ := flat_all fy r1 fz
        unfold idxF at ej
        rw [List.findIdx?_eq_some_iff_getElem] at ej
        obtain ⟨hj, pj, nj⟩ := ej
        have e1 : zs[j]? = some zs[j] := List.getElem?_eq_getElem hj
        obtain ⟨z, ez, rz⟩ := r1.get e1
        have ff : ∀ (m : Nat) (hm : m < zs.length), isFlat zs[m] = true := fun m hm => List.all_eq_true.mp fz _ (List.getElem_mem hm)
        refine mt_index pins s σ H _ _ v us Q I rx rs ⟨a, vs, w, j, z, rfl, rfl, by rw [hK]; exact h1, f1, f3, ez, ?_, fun m z' hm ez' => ?_, ok _ _ _ _ hr (RepD.int.mpr rfl) rm Step.rfl'⟩
        · rw [f2, (flat_rep rz (ff j hj)).2, eqF_eq (ff j hj) fy]; exact pj
        · obtain ⟨d', ed', rd'⟩ := r1.getV ez'
          have hm2 : m < zs.length := by omega
          rw [List.getElem?_eq_getElem hm2] at ed'
          cases ed'
          rw [f2, (flat_rep rd' (ff m hm2)).2, eqF_eq (ff m hm2) fy]
          have := nj m hm
          simpa using this
      · exact hr.elim
    · exact hr.elim
  · exact hr.elim
theorem join_S0 (sep : List Nat) : ∀ ys : List (List Nat), Str.join (S sep) (ys.map S) = S (joinC sep ys)
  | [] => rfl
  | [x] => rfl
  | x :: y :: r => by
    have e : Str.join (S sep) ((x :: y :: r).map S) = S x ++ S sep ++ Str.join (S sep) ((y :: r).map S) := rfl
    rw [e, join_S0 sep (y :: r), S_app, S_app]
    rfl
theorem join_S (sep : List Nat) (ys : List (List Nat)) : Txt.join (S sep) (ys.map S) = S (joinC sep ys) := by
  unfold Txt.join
  rw [StrLaws.glued_eq_join, join_S0]
theorem md_join (hK : X.K = G.K) : MtR X "str.join" (liftM G (bmS .join)) := by
  intro pins s σ H x xs v us Q I rx rs h
  obtain ⟨d, ds, M, Q0, rd, rl, rm, hr, ok⟩ := h
  simp only [bmS] at hr
  split at hr
  · rename_i sep e
    rw [RepD.str] at rd; subst rd
    obtain ⟨w, rfl, rw'⟩ := rep1 rl
    split at hr
    · rename_i zs e1
      split at hr
      · rename_i ys e2
        obtain ⟨p, vs, rfl, hp, rp⟩ := rdS_ok hK rm rw' e1
        rw [asStr_eq e2, RepL.strs] at rp; subst rp
        refine mt_join pins s σ H _ _ v us Q I rx rs ⟨_, p, ys.map S, rfl, rfl, hp, ?_, ok _ _ _ _ hr.2 (RepD.str.mpr (by rw [join_S])) rm Step.rfl'⟩
        have e3 : (ys.map S).map (fun z : Str => z.length) = ys.map (·.length) := by
          rw [List.map_map]
          exact List.map_congr_left fun y _ => S_len y
        rw [e3, List.length_map, S_len]
        exact hr.1
      · exact hr.elim
    · exact hr.elim
  · exact hr.elim
theorem countP_rel {uy : Value} {y : V} (ry : RelV y uy) (fy : flatV y = true) : ∀ {ys : List V} {its : List Value}, Vals ys its → ys.all flatV = true → its.countP (eqU y) = ys.countP fun z => eqV z y
  | [], _, r, _ => by cases r; rfl
  | z :: zs, _, r, f => by
    cases r with
    | cons r1 r2 =>
      rw [List.all_cons, Bool.and_eq_true] at f
      rw [List.countP_cons, List.countP_cons, countP_rel ry fy r2 f.2, eqU_of r1 f.1]
def rCntF (K : PySem.W.Frag) : V → List V → Hp → VK → Prop := fun x xs H Q => ∃ (a : Addr) (ys : List V) (y : V), x = V.ref a ∧ xs = [y] ∧ SqL K H a ys ∧ flatV y = true ∧ ys.all flatV = true ∧ Q (.int (ys.countP fun z => eqV z y : Nat)) H
theorem mt_countF : MtR X "list.count" (rCntF X.K) := by
  intro pins s σ H x xs v us Q I rx rxs h
  obtain ⟨a, ys, y, rfl, rfl, hs, fy, fys, q⟩ := h
  cases rx
  cases rxs with
  | cons ry rt =>
    rename_i uy ut
    cases rt
    obtain ⟨its, rv, ⟨⟨cls, dd, data, sl⟩, n, ho, hc, hdn, hd⟩, hlen⟩ := I.list hs
    simp only at hc hd
    subst hc hd
    refine call_meets PySem.F.slot_list_count ⟨_, ho, rfl⟩ PySem.F.entry_list_count (PySem.F.args_list_count_2 _ _)
      (SeqAt.list_countAt a its.toArray n dd sl uy (eqU y)) ⟨ho, fun u' hu' => mem_eqAt ry fy rv fys u' (by simpa using hu'), ?_⟩
    refine ⟨.int (ys.countP fun z => eqV z y : Nat), H, I.tok _, ⟨s.toks, ?_⟩, q⟩
    have := countP_rel ry fy rv fys
    show Value.int ((its.toArray.toList.countP (eqU y) : Nat) : Int) s.toks = _
    rw [← this]
theorem md_icount (hK : X.K = G.K) : MtR X "list.count" (liftM G (bmS .icount)) := by
  intro pins s σ H x xs v us Q I rx rs h
  obtain ⟨d, ds, M, Q0, rd, rl, rm, hr, ok⟩ := h
  simp only [bmS] at hr
  split at hr
  · rename_i a k
    rw [RepD.obj] at rd; subst rd
    obtain ⟨w, rfl, rw'⟩ := rep1 rl
    rw [RepD.int] at rw'; subst rw'
    split at hr
    · rename_i zs e
      split at hr
      · rename_i ns e2
        exact mt_lcount pins s σ H _ _ v us Q I rx rs ⟨a, ns, k, rfl, rfl, sumI_ok hK rm e e2, ok _ _ _ _ hr (RepD.int.mpr rfl) rm Step.rfl'⟩
      · exact hr.elim
    · exact hr.elim
  · rename_i a k
    rw [RepD.obj] at rd; subst rd
    obtain ⟨w, rfl, rw'⟩ := rep1 rl
    rw [RepD.bl] at rw'; subst rw'
    split at hr
    · rename_i zs e
      split at hr
      · rename_i ns e2
        obtain ⟨vs, h1, r1⟩ := rdL_ok rm e
        have ez := asBl_eq e2
        subst ez
        rw [RepL.bls] at r1; subst r1
        refine mt_countF pins s σ H _ _ v us Q I rx rs ⟨a, ns.map V.bl, .bl k, rfl, rfl, by rw [hK]; exact h1, rfl, by simp [flatV], ?_⟩
        have ec : (ns.map V.bl).countP (fun z => eqV z (V.bl k)) = ns.count k := by
          rw [List.countP_map, List.count]
          refine List.countP_congr fun x _ => ?_
          cases x <;> cases k <;> simp [eqV]
        rw [ec]
        exact ok _ _ _ _ hr (RepD.int.mpr rfl) rm Step.rfl'
      · exact hr.elim
    · exact hr.elim
  · exact hr.elim
end
end DL
set_option Elab.async false
set_option linter.all false
set_option maxRecDepth 100000
set_option maxHeartbeats 1000000
/-! DLK: dicts by data. -/
namespace DL
open PySem PySem.Spec PyProof.Rows L2

/-! ### data equal, computably -/
mutual
def eqD : D → D → Bool
  | .non, .non => true
  | .bl a, .bl b => a == b
  | .int a, .int b => decide (a = b)
  | .str a, .str b => decide (a = b)
  | .tup a, .tup b => eqDs a b
  | .obj a, .obj b => decide (a = b)
  | _, _ => false
def eqDs : List D → List D → Bool
  | [], [] => true
  | a :: as, b :: bs => eqD a b && eqDs as bs
  | _, _ => false
end
mutual
theorem eqD_eq : ∀ a b : D, eqD a b = true → a = b
  | .non, b, h => by cases b <;> simp_all [eqD]
  | .bl a, b, h => by cases b <;> simp_all [eqD]
  | .int a, b, h => by cases b <;> simp_all [eqD]
  | .str a, b, h => by cases b <;> simp_all [eqD]
  | .obj a, b, h => by cases b <;> simp_all [eqD]
  | .tup a, b, h => by
    cases b with
    | tup b => unfold eqD at h; rw [eqDs_eq a b h]
    | _ => simp_all [eqD]
theorem eqDs_eq : ∀ a b : List D, eqDs a b = true → a = b
  | [], b, h => by cases b <;> simp_all [eqDs]
  | a :: as, b, h => by
    cases b with
    | nil => simp_all [eqDs]
    | cons b bs =>
      unfold eqDs at h
      rw [Bool.and_eq_true] at h
      rw [eqD_eq a b h.1, eqDs_eq as bs h.2]
end
mutual
theorem eqD_rfl : ∀ a : D, eqD a a = true
  | .non => rfl
  | .bl a => by simp [eqD]
  | .int a => by simp [eqD]
  | .str a => by simp [eqD]
  | .obj a => by simp [eqD]
  | .tup a => by unfold eqD; exact eqDs_rfl a
theorem eqDs_rfl : ∀ a : List D, eqDs a a = true
  | [] => rfl
  | a :: as => by unfold eqDs; rw [eqD_rfl a, eqDs_rfl as]; rfl
end
theorem eqD_iff {a b : D} : eqD a b = true ↔ a = b := ⟨eqD_eq a b, fun h => h ▸ eqD_rfl a⟩
instance : DecidableEq D := fun a b => decidable_of_iff _ eqD_iff

/-! ### keys -/
mutual
theorem nkey_inj : ∀ (a b : D) (k : NestedKey), nkey a = some k → nkey b = some k → a = b
  | .non, b, k, h, g => by
    simp [nkey] at h; subst h
    cases b with
    | tup ds => simp [nkey] at g
    | _ => simp_all [nkey]
  | .int i, b, k, h, g => by
    simp [nkey] at h; subst h
    cases b with
    | tup ds => simp [nkey] at g
    | _ => simp_all [nkey]
  | .str l, b, k, h, g => by
    simp [nkey] at h; subst h
    cases b with
    | tup ds => simp [nkey] at g
    | str m => simp [nkey] at g; rw [S_inj g]
    | _ => simp_all [nkey]
  | .bl _, b, k, h, g => by simp [nkey] at h
  | .obj _, b, k, h, g => by simp [nkey] at h
  | .tup ds, b, k, h, g => by
    simp [nkey] at h
    obtain ⟨ks, h1, rfl⟩ := h
    cases b with
    | tup es =>
      simp [nkey] at g
      rw [nkeys_inj ds es ks h1 g]
    | _ => simp [nkey] at g
theorem nkeys_inj : ∀ (a b : List D) (ks : List NestedKey), nkeys a = some ks → nkeys b = some ks → a = b
  | [], b, ks, h, g => by
    simp [nkeys] at h; subst h
    cases b with
    | nil => rfl
    | cons d ds =>
      unfold nkeys at g
      split at g <;> simp at g
  | a :: as, b, ks, h, g => by
    unfold nkeys at h
    split at h
    · rename_i k ks' h1 h2
      simp at h; subst h
      cases b with
      | nil => simp [nkeys] at g
      | cons d ds =>
        unfold nkeys at g
        split at g
        · rename_i k2 ks2 g1 g2
          simp at g
          obtain ⟨rfl, rfl⟩ := g
          rw [nkey_inj a d _ h1 g1, nkeys_inj as ds _ h2 g2]
        · cases g
    · cases h
end
theorem lkey_inj {a b : D} {k : Leaf} (h : lkey a = some k) (g : lkey b = some k) : a = b := by
  cases a <;> cases b <;> simp_all [lkey]
  all_goals first
    | (subst h; simp at g; rw [g])
    | (subst h; simp at g; exact (S_inj g).symm)
    | (subst h; simp at g)
    | skip
theorem lkey_is {K : PySem.W.Frag} {H : Hp} {P : Program} {w : World} {d : D} {v : V} {u : Value} {k : Leaf} (r : RepD K H d v) (rv : RelV v u) (h : lkey d = some k) : (leafKind P w).is k u = true := by
  cases d with
  | non =>
    rw [RepD.non] at r; subst r
    simp [lkey] at h; subst h
    cases (show u = Value.none from rv); rfl
  | int i =>
    rw [RepD.int] at r; subst r
    simp [lkey] at h; subst h
    obtain ⟨t, rfl⟩ := (show ∃ t, u = Value.int i t from rv)
    show decide (i = i) = true
    simp
  | str l =>
    rw [RepD.str] at r; subst r
    simp [lkey] at h; subst h
    obtain ⟨t, rfl⟩ := (show ∃ t, u = Value.str (S l) t from rv)
    show Value.isStrOf (S l) (.str (S l) t) = true
    simp [Value.isStrOf]
  | _ => simp [lkey] at h
section
variable {X : Cx} {pins : List (Addr × Obj)} {σ : L2.St} {H : Hp} {s : Shared}
mutual
theorem nkey_is (I : Inv X pins σ H s) : ∀ (d : D) (v : V) (u : Value) (k : NestedKey), RepD X.K H d v → RelV v u → nkey d = some k → NestedIs s.heap k u
  | .non, v, u, k, r, rv, h => by
    rw [RepD.non] at r; subst r
    simp [nkey] at h; subst h
    cases (show u = Value.none from rv); exact .none
  | .int i, v, u, k, r, rv, h => by
    rw [RepD.int] at r; subst r
    simp [nkey] at h; subst h
    obtain ⟨t, rfl⟩ := (show ∃ t, u = Value.int i t from rv)
    exact .int _ _
  | .str l, v, u, k, r, rv, h => by
    rw [RepD.str] at r; subst r
    simp [nkey] at h; subst h
    obtain ⟨t, rfl⟩ := (show ∃ t, u = Value.str (S l) t from rv)
    exact .text _ _
  | .bl _, v, u, k, r, rv, h => by simp [nkey] at h
  | .obj _, v, u, k, r, rv, h => by simp [nkey] at h
  | .tup ds, v, u, k, r, rv, h => by
    simp [nkey] at h
    obtain ⟨ks, h1, rfl⟩ := h
    obtain ⟨a, vs, rfl, hp, rp⟩ := RepD.tup.mp r
    cases (show u = Value.ref a from rv)
    obtain ⟨its, rvs, ⟨o, ho, hc, n, hd⟩, hz⟩ := I.tuple hp
    exact .tup ho hc hd (by simpa using nkeys_is I ds vs its ks rp rvs h1)
theorem nkeys_is (I : Inv X pins σ H s) : ∀ (ds : List D) (vs : List V) (us : List Value) (ks : List NestedKey), RepL X.K H ds vs → Vals vs us → nkeys ds = some ks → NestedAll s.heap ks us
  | [], vs, us, ks, r, rv, h => by
    rw [RepL.nil] at r; subst r
    cases rv
    simp [nkeys] at h; subst h
    exact .nil
  | d :: ds, vs, us, ks, r, rv, h => by
    obtain ⟨v, ws, rfl, r1, r2⟩ := RepL.cons.mp r
    unfold nkeys at h
    split at h
    · rename_i k ks' h1 h2
      simp at h; subst h
      cases rv with
      | cons q qs => exact .cons (nkey_is I d v _ k r1 q h1) (nkeys_is I ds ws _ ks' r2 qs h2)
    · cases h
end
end

/-! ### look-up, store -/
def dlook (kvs : List (D × D)) (k : D) : Option D := (kvs.find? fun p => eqD p.1 k).map (·.2)
def dput (kvs : List (D × D)) (k v : D) : List (D × D) := if kvs.any (fun p => eqD p.1 k) then kvs.map (fun p => if eqD p.1 k then (p.1, v) else p) else kvs ++ [(k, v)]
def isTup : D → Bool | .tup _ => true | _ => false
/-- a key that fits -/
def keyOk (kvs : List (D × D)) (k : D) : Bool := ((lkey k).isSome && kvs.all fun p => (lkey p.1).isSome) || (isTup k && (match nkey k with | some q => decide (q.depth ≤ 8) | none => false) && kvs.all fun p => isTup p.1)
section
variable {G : Cfg} {H : Hp}
theorem leaf_look {k : D} {q : Leaf} (hk : lkey k = some q) : ∀ {kvs : List (D × D)} {lk : List (Leaf × Value)}, Paired (LeafRel G H) kvs lk → (match dlook kvs k with
    | some v => ∃ u, valueAt lk q = some u ∧ RelDV G.K H v u
    | none => valueAt lk q = none)
  | _, _, .nil => rfl
  | p :: kvs, y :: lk, .cons r rs => by
    have ih := leaf_look hk rs
    unfold dlook at ih ⊢
    unfold valueAt at ih ⊢
    rw [List.find?_cons, List.find?_cons]
    by_cases e : p.1 = k
    · have e2 : y.1 = q := by have := r.1; rw [e, hk] at this; exact (Option.some.inj this).symm
      rw [show eqD p.1 k = true from eqD_iff.mpr e, show decide (y.1 = q) = true from decide_eq_true e2]
      exact ⟨_, rfl, r.2⟩
    · have e2 : y.1 ≠ q := fun z => e (lkey_inj (by rw [r.1, z]) hk)
      rw [show eqD p.1 k = false from Bool.eq_false_iff.mpr fun z => e (eqD_eq _ _ z), show decide (y.1 = q) = false from decide_eq_false e2]
      exact ih
theorem leaf_any {k : D} {q : Leaf} (hk : lkey k = some q) : ∀ {kvs : List (D × D)} {lk : List (Leaf × Value)}, Paired (LeafRel G H) kvs lk → (kvs.any fun p => eqD p.1 k) = lk.any fun y => decide (y.1 = q)
  | _, _, .nil => rfl
  | p :: kvs, y :: lk, .cons r rs => by
    rw [List.any_cons, List.any_cons, leaf_any hk rs]
    congr 1
    by_cases e : p.1 = k
    · have e2 : y.1 = q := by have := r.1; rw [e, hk] at this; exact (Option.some.inj this).symm
      rw [show eqD p.1 k = true from eqD_iff.mpr e, show decide (y.1 = q) = true from decide_eq_true e2]
    · have e2 : y.1 ≠ q := fun z => e (lkey_inj (by rw [r.1, z]) hk)
      rw [show eqD p.1 k = false from Bool.eq_false_iff.mpr fun z => e (eqD_eq _ _ z), show decide (y.1 = q) = false from decide_eq_false e2]
theorem leaf_map {k v : D} {u : Value} {q : Leaf} (hk : lkey k = some q) (rv : RelDV G.K H v u) : ∀ {kvs : List (D × D)} {lk : List (Leaf × Value)}, Paired (LeafRel G H) kvs lk → Paired (LeafRel G H) (kvs.map fun p => if eqD p.1 k then (p.1, v) else p) (lk.map fun y => if y.1 = q then (y.1, u) else y)
  | _, _, .nil => .nil
  | p :: kvs, y :: lk, .cons r rs => by
    rw [List.map_cons, List.map_cons]
    refine .cons ?_ (leaf_map hk rv rs)
    by_cases e : p.1 = k
    · have e2 : y.1 = q := by have := r.1; rw [e, hk] at this; exact (Option.some.inj this).symm
      rw [if_pos (eqD_iff.mpr e), if_pos e2]
      exact ⟨r.1, rv⟩
    · have e2 : y.1 ≠ q := fun z => e (lkey_inj (by rw [r.1, z]) hk)
      rw [if_neg (fun z => e (eqD_eq _ _ z)), if_neg e2]
      exact r
theorem leaf_put {k v : D} {u : Value} {q : Leaf} (hk : lkey k = some q) (rv : RelDV G.K H v u) {kvs : List (D × D)} {lk : List (Leaf × Value)} (r : Paired (LeafRel G H) kvs lk) : Paired (LeafRel G H) (dput kvs k v) (stored lk q u) := by
  unfold dput stored
  rw [leaf_any hk r]
  split
  · exact leaf_map hk rv r
  · exact r.snoc ⟨hk, rv⟩
theorem tup_look {k : D} {q : NestedKey} (hk : nkey k = some q) : ∀ {kvs : List (D × D)} {xs : List (NestedKey × Addr × Value)}, Paired (TupRel G H) kvs xs → (match dlook kvs k with
    | some v => ∃ p, atKey xs q = some p ∧ RelDV G.K H v p.2
    | none => atKey xs q = none)
  | _, _, .nil => rfl
  | p :: kvs, y :: xs, .cons r rs => by
    have ih := tup_look hk rs
    unfold dlook at ih ⊢
    unfold atKey at ih ⊢
    rw [List.find?_cons, List.find?_cons]
    by_cases e : p.1 = k
    · have e2 : y.1 = q := by have := r.2.1; rw [e, hk] at this; exact (Option.some.inj this).symm
      rw [show eqD p.1 k = true from eqD_iff.mpr e, show decide (y.1 = q) = true from decide_eq_true e2]
      exact ⟨_, rfl, r.2.2.2.2⟩
    · have e2 : y.1 ≠ q := fun z => e (nkey_inj _ _ _ (by rw [r.2.1, z]) hk)
      rw [show eqD p.1 k = false from Bool.eq_false_iff.mpr fun z => e (eqD_eq _ _ z), show decide (y.1 = q) = false from decide_eq_false e2]
      exact ih
theorem tup_any {k : D} {q : NestedKey} (hk : nkey k = some q) {kvs : List (D × D)} {xs : List (NestedKey × Addr × Value)} (r : Paired (TupRel G H) kvs xs) : (kvs.any fun p => eqD p.1 k) = (atKey xs q).isSome := by
  have h := tup_look hk r
  have e : (kvs.any fun p => eqD p.1 k) = (dlook kvs k).isSome := by
    unfold dlook
    rw [Option.isSome_map]
    induction kvs generalizing xs with
    | nil => rfl
    | cons p kvs ih =>
      rw [List.any_cons, List.find?_cons]
      cases eqD p.1 k with
      | true => rfl
      | false =>
        cases r with
        | cons r0 rs =>
          rw [Bool.false_or]
          exact ih rs (tup_look hk rs)
  rw [e]
  cases d : dlook kvs k with
  | none => rw [d] at h; rw [h]; rfl
  | some v => rw [d] at h; obtain ⟨p, hp, _⟩ := h; rw [hp]; rfl
theorem tup_map {k v : D} {u : Value} {q : NestedKey} (hk : nkey k = some q) (rv : RelDV G.K H v u) : ∀ {kvs : List (D × D)} {xs : List (NestedKey × Addr × Value)}, Paired (TupRel G H) kvs xs → Paired (TupRel G H) (kvs.map fun p => if eqD p.1 k then (p.1, v) else p) (xs.map (putAt q u))
  | _, _, .nil => .nil
  | p :: kvs, y :: xs, .cons r rs => by
    rw [List.map_cons, List.map_cons]
    refine .cons ?_ (tup_map hk rv rs)
    unfold putAt
    by_cases e : p.1 = k
    · have e2 : y.1 = q := by have := r.2.1; rw [e, hk] at this; exact (Option.some.inj this).symm
      rw [if_pos (eqD_iff.mpr e), if_pos e2]
      exact ⟨r.1, r.2.1, r.2.2.1, r.2.2.2.1, rv⟩
    · have e2 : y.1 ≠ q := fun z => e (nkey_inj _ _ _ (by rw [r.2.1, z]) hk)
      rw [if_neg (fun z => e (eqD_eq _ _ z)), if_neg e2]
      exact r
theorem tup_put {ds : List D} {v : D} {u : Value} {q : NestedKey} {b : Addr} (hk : nkey (.tup ds) = some q) (h8 : q.depth ≤ 8) (rk : RepD G.K H (.tup ds) (.ref b)) (rv : RelDV G.K H v u) {kvs : List (D × D)} {xs : List (NestedKey × Addr × Value)} (r : Paired (TupRel G H) kvs xs) : Paired (TupRel G H) (dput kvs (.tup ds) v) (storedH xs q b u) := by
  unfold dput storedH
  rw [tup_any hk r]
  split
  · exact tup_map hk rv r
  · exact r.snoc ⟨⟨ds, rfl⟩, hk, h8, rk, rv⟩
theorem dput_len (kvs : List (D × D)) (k v : D) : (dput kvs k v).length ≤ kvs.length + 1 := by
  unfold dput
  split
  · simp
  · simp
/-- the one kind -/
theorem rep_leaf {a : Addr} {kvs : List (D × D)} {o : Obj} (h : DctRep G H a kvs o) (hk : (kvs.all fun p => (lkey p.1).isSome) = true) : ∃ es ep, o.data = .dict es ep ∧ LeafRep G H kvs es := by
  obtain ⟨es, ep, e, r | ⟨xs, h1, h2, h3⟩⟩ := h.dat
  · exact ⟨es, ep, e, r⟩
  · cases h3 with
    | nil =>
      rw [List.map_nil] at h1
      have : es = #[] := by simpa using h1
      subst this
      exact ⟨_, ep, e, [], fun y hy => by simp at hy, .nil, List.nodup_nil, .nil⟩
    | cons r rs =>
      rw [List.all_cons, Bool.and_eq_true] at hk
      obtain ⟨ds, hd⟩ := r.1
      rw [hd] at hk
      exact absurd hk.1 (by simp [lkey])
theorem rep_tup {a : Addr} {kvs : List (D × D)} {o : Obj} (h : DctRep G H a kvs o) (hk : (kvs.all fun p => isTup p.1) = true) : ∃ es ep, o.data = .dict es ep ∧ TupRep G H kvs es := by
  obtain ⟨es, ep, e, ⟨lk, h1, h2, h3, h4⟩ | r⟩ := h.dat
  · cases h4 with
    | nil =>
      have : es = #[] := by
        have := h2.length
        simpa using this
      subst this
      exact ⟨_, ep, e, [], rfl, List.nodup_nil, .nil⟩
    | @cons p q _ _ r rs =>
      rw [List.all_cons, Bool.and_eq_true] at hk
      have r1 := r.1
      cases hp : p.1 with
      | tup ds => rw [hp] at r1; simp [lkey] at r1
      | _ => rw [hp] at hk; exact absurd hk.1 (by simp [isTup])
  · exact ⟨es, ep, e, r⟩
end
section
variable {X : Cx} {G : Cfg} {pins : List (Addr × Obj)} {σ : L2.St} {H : Hp} {s : Shared}
theorem objO_at {a : Addr} {o : Obj} (I : Inv X pins σ H s) (h : H a = some (objO a o)) : s.heap.get? a = some o := by
  have x : ObjOk X.prog X.w H s.heap a (.ext fun h => h.get? a = some o) := I.hok a _ h
  exact x.1
theorem objO_ok {P : Program} {w : World} {H : Hp} {h : Heap} {a : Addr} {o : Obj} (e : h.get? a = some o) : ObjOk P w H h a (objO a o) := ⟨e, ⟨_, e⟩, fun h1 h2 z k => k _ z⟩
/-- what the heap holds: keys by value | by tuples -/
theorem dct_leaf (hP : X.prog = G.P) (hw : X.w = G.w) {a : Addr} {kvs : List (D × D)} {o : Obj} (I : Inv X pins σ H s) (h : H a = some (objO a o)) (r : DctRep G H a kvs o) (hk : (kvs.all fun p => (lkey p.1).isSome) = true) :
    ∃ lk, s.heap.DictOf (leafKind X.prog X.w) a lk ∧ Paired (LeafRel G H) kvs lk := by
  obtain ⟨es, ep, e, lk, h1, h2, h3, h4⟩ := rep_leaf r hk
  rw [hP, hw]
  exact ⟨lk, ⟨o, es, ep, objO_at I h, r.ex, e, h1, h2, h3⟩, h4⟩
theorem tup_is (hK : X.K = G.K) (I : Inv X pins σ H s) : ∀ {kvs : List (D × D)} {xs : List (NestedKey × Addr × Value)}, Paired (TupRel G H) kvs xs → ∀ x ∈ xs, (nestedKind X.prog X.w).is s.heap x.1 x.2.1
  | _, _, .nil, x, hx => nomatch hx
  | p :: kvs, y :: xs, .cons r rs, x, hx => by
    rcases List.mem_cons.mp hx with rfl | hx
    · exact ⟨nkey_is I p.1 (.ref _) _ _ (by rw [hK]; exact r.2.2.2.1) rfl r.2.1, r.2.2.1⟩
    · exact tup_is hK I rs x hx
theorem dct_tup (hK : X.K = G.K) (hP : X.prog = G.P) (hw : X.w = G.w) {a : Addr} {kvs : List (D × D)} {o : Obj} (I : Inv X pins σ H s) (h : H a = some (objO a o)) (r : DctRep G H a kvs o) (hk : (kvs.all fun p => isTup p.1) = true) :
    ∃ xs, s.heap.DictOfH (nestedKind X.prog X.w) a xs ∧ Paired (TupRel G H) kvs xs := by
  obtain ⟨es, ep, e, xs, h1, h2, h3⟩ := rep_tup r hk
  have := tup_is hK I h3
  rw [← hP, ← hw] at h1
  exact ⟨xs, ⟨o, es, ep, objO_at I h, r.ex, e, h1, this, h2⟩, h3⟩
theorem dct_type {a : Addr} {kvs : List (D × D)} {o : Obj} (I : Inv X pins σ H s) (h : H a = some (objO a o)) (r : DctRep G H a kvs o) : s.TypeIs (.ref a) "dict" := ⟨o, objO_at I h, r.ex.1⟩
end

/-! ### the operations, as wishes -/
def vDIdx : R2D := fun d k M Q => match d with
  | .obj a => match M a with
    | some (.dct kvs) => keyOk kvs k = true ∧ match dlook kvs k with
      | some v => Q v M
      | none => False
    | _ => False
  | _ => False
def vDIn (neg : Bool) : R2D := fun k d M Q => match d with
  | .obj a => match M a with
    | some (.dct kvs) => keyOk kvs k = true ∧ Q (.bl (if neg then !(dlook kvs k).isSome else (dlook kvs k).isSome)) M
    | _ => False
  | _ => False
def vDSet : D → D → D → Mem → (Mem → Prop) → Prop := fun o k v M Q => match o with
  | .obj a => match M a with
    | some (.dct kvs) => keyOk kvs k = true ∧ kvs.length < big ∧ Q (mup M a (.dct (dput kvs k v)))
    | _ => False
  | _ => False
def vDGet : D → List D → Mem → DK → Prop := fun o ks M Q => match o with
  | .obj a => match M a with
    | some (.dct kvs) => match ks with
      | [k] => keyOk kvs k = true ∧ Q ((dlook kvs k).getD .non) M
      | [k, x] => keyOk kvs k = true ∧ Q ((dlook kvs k).getD x) M
      | _ => False
    | _ => False
  | _ => False
section
variable {X : Cx} {G : Cfg}
theorem keyOk_cases {kvs : List (D × D)} {k : D} (h : keyOk kvs k = true) : ((∃ q, lkey k = some q) ∧ (kvs.all fun p => (lkey p.1).isSome) = true) ∨ ((∃ ds q, k = .tup ds ∧ nkey k = some q ∧ q.depth ≤ 8) ∧ (kvs.all fun p => isTup p.1) = true) := by
  unfold keyOk at h
  rw [Bool.or_eq_true, Bool.and_eq_true, Bool.and_eq_true, Bool.and_eq_true] at h
  rcases h with ⟨h1, h2⟩ | ⟨⟨h1, h2⟩, h3⟩
  · exact .inl ⟨Option.isSome_iff_exists.mp h1, h2⟩
  · right
    refine ⟨?_, h3⟩
    split at h2
    · rename_i q e
      cases k with
      | tup ds => exact ⟨ds, q, rfl, e, of_decide_eq_true h2⟩
      | _ => cases h1
    · cases h2
theorem dct_of {a : Addr} {kvs : List (D × D)} {H : Hp} {M : Mem} (m : RepM G H M) (e : M a = some (.dct kvs)) : ∃ o, H a = some (objO a o) ∧ DctRep G H a kvs o := by
  obtain ⟨ho, h1, o, rfl, r⟩ := m a _ e
  exact ⟨o, h1, r⟩
theorem dct_getItem {pins : List (Addr × Obj)} {σ : L2.St} {H : Hp} {s : Shared} {M : Mem} {a : Addr} {kvs : List (D × D)} {k v : D} {y : V} {u : Value} {Q : V → Prop} {E : Value → Shared → Prop} {A : Around} (hK : X.K = G.K) (hP : X.prog = G.P) (hw : X.w = G.w) (hu : A.units + 9 < cLine) (I : Inv X pins σ H s) (m : RepM G H M) (e : M a = some (.dct kvs))
    (ok : keyOk kvs k = true) (l : dlook kvs k = some v) (r : RepD G.K H k y) (ry : RelV y u) (h : ∀ z, RepD G.K H v z → Q z) :
    wpAny (model X.prog X.w) A (getItem (.ref a) u) (EP X pins σ fun z H' => H' = H ∧ Q z) E s := by
  obtain ⟨o, h1, rep⟩ := dct_of m e
  rcases keyOk_cases ok with ⟨⟨q, hq⟩, hall⟩ | ⟨⟨ds, q, rfl, hq, h8⟩, hall⟩
  · obtain ⟨lk, dd, pr⟩ := dct_leaf hP hw I h1 rep hall
    have z := leaf_look hq pr
    rw [l] at z
    obtain ⟨w', hw', z', rz, rw'⟩ := z
    exact wpAny_getItem_of (lkey_is r ry hq) dd.mapOf hw' ⟨z', H, I.tok _, rw', rfl, h _ rz⟩
  · obtain ⟨xs, dd, pr⟩ := dct_tup hK hP hw I h1 rep hall
    have z := tup_look hq pr
    rw [l] at z
    obtain ⟨p, hp, z', rz, rw'⟩ := z
    obtain ⟨b, vs, rfl, _⟩ := RepD.tup.mp r
    cases (show u = Value.ref b from ry)
    refine wpAny_getItem_heap (knd := nestedKind X.prog X.w) (k := q) (by show A.units + 1 + 8 < cLine; omega) ⟨nkey_is I _ (.ref b) _ _ (by rw [hK]; exact r) rfl hq, h8⟩ dd hp ⟨z', H, I.tok _, rw', rfl, h _ rz⟩
theorem ix_dct (hK : X.K = G.K) (hP : X.prog = G.P) (hw : X.w = G.w) (hu : X.A.units + 64 < cLine) : IxR X (lift2 G vDIdx) := by
  intro value slice pins s σ H x y v u Q I rx ry h hs
  obtain ⟨d, e, M, Q0, rd, re, rm, hr, ok⟩ := h
  unfold vDIdx at hr
  split at hr
  · rename_i a
    rw [RepD.obj] at rd; subst rd
    split at hr
    · rename_i kvs em
      obtain ⟨hk, hr⟩ := hr
      split at hr
      · rename_i v' l
        obtain rfl : v = Value.ref a := rx
        obtain ⟨o, h1, rep⟩ := dct_of rm em
        refine tail_any (dct_type I h1 rep) slot_dict_getitem.lookup ?_ hs
        refine wpAny_mono (dct_getItem hK hP hw (by omega) I rm em hk l re ry (Q := fun z => Q z H) fun z rz => ok _ _ _ _ hr rz rm Step.rfl') (fun w' s' ⟨z, H', I', rz, e', q⟩ => ?_) fun _ _ z => z
        subst e'
        exact ⟨z, _, I', rz, q⟩
      · exact hr.elim
    · exact hr.elim
  · exact hr.elim
theorem dct_in {pins : List (Addr × Obj)} {σ : L2.St} {H : Hp} {s : Shared} {M : Mem} {a : Addr} {kvs : List (D × D)} {k : D} {y : V} {u : Value} {Q : Value → Shared → Prop} {E : Value → Shared → Prop} {A : Around} (neg : Bool) (hK : X.K = G.K) (hP : X.prog = G.P) (hw : X.w = G.w) (hu : A.units + 9 < cLine) (I : Inv X pins σ H s) (m : RepM G H M) (e : M a = some (.dct kvs))
    (ok : keyOk kvs k = true) (r : RepD G.K H k y) (ry : RelV y u) (h : ∀ s', Inv X pins σ H s' → Q (.bool (if neg then !(dlook kvs k).isSome else (dlook kvs k).isSome)) s') :
    wpAny (model X.prog X.w) A (compareOp (if neg then .NotIn else .In) u (.ref a)) Q E s := by
  obtain ⟨o, h1, rep⟩ := dct_of m e
  rcases keyOk_cases ok with ⟨⟨q, hq⟩, hall⟩ | ⟨⟨ds, q, rfl, hq, h8⟩, hall⟩
  · obtain ⟨lk, dd, pr⟩ := dct_leaf hP hw I h1 rep hall
    have z := leaf_look hq pr
    have ez : (dlook kvs k).isSome = (valueAt lk q).isSome := by
      cases l : dlook kvs k with
      | none => rw [l] at z; rw [z]; rfl
      | some v => rw [l] at z; obtain ⟨_, hv, _⟩ := z; rw [hv]; rfl
    cases neg with
    | false => exact wpAny_in_of (lkey_is r ry hq) rep.sm dd.mapOf (by rw [← ez]; exact h _ (I.tok _))
    | true => exact wpAny_notIn_of (lkey_is r ry hq) rep.sm dd.mapOf (by rw [← ez]; exact h _ (I.tok _))
  · obtain ⟨xs, dd, pr⟩ := dct_tup hK hP hw I h1 rep hall
    have z := tup_look hq pr
    have ez : (dlook kvs (.tup ds)).isSome = (atKey xs q).isSome := by
      cases l : dlook kvs (.tup ds) with
      | none => rw [l] at z; rw [z]; rfl
      | some v => rw [l] at z; obtain ⟨_, hv, _⟩ := z; rw [hv]; rfl
    obtain ⟨b, vs, rfl, _⟩ := RepD.tup.mp r
    cases (show u = Value.ref b from ry)
    have hkk : (nestedKind X.prog X.w).is s.heap q b := ⟨nkey_is I _ (.ref b) _ _ (by rw [hK]; exact r) rfl hq, h8⟩
    cases neg with
    | false => exact wpAny_in_heap (knd := nestedKind X.prog X.w) (by show A.units + 1 + 8 < cLine; omega) hkk rep.sm dd (by rw [← ez]; exact h _ (I.tok _))
    | true => exact wpAny_notIn_heap (knd := nestedKind X.prog X.w) (by show A.units + 1 + 8 < cLine; omega) hkk rep.sm dd (by rw [← ez]; exact h _ (I.tok _))
theorem od_din (neg : Bool) (hK : X.K = G.K) (hP : X.prog = G.P) (hw : X.w = G.w) (hu : X.A.units + 64 < cLine) : OpR X (compareOp (if neg then .NotIn else .In)) (lift2 G (vDIn neg)) := by
  intro pins s σ H x y v u Q I rx ry h
  obtain ⟨d, e, M, Q0, rd, re, rm, hr, ok⟩ := h
  unfold vDIn at hr
  split at hr
  · rename_i a
    rw [RepD.obj] at re; subst re
    split at hr
    · rename_i kvs em
      obtain ⟨hk, hr⟩ := hr
      obtain rfl : u = Value.ref a := ry
      exact dct_in neg hK hP hw (by omega) I rm em hk rd rx fun s' I' => ⟨.bl _, H, I', rfl, ok _ _ _ _ hr (RepD.bl.mpr rfl) rm Step.rfl'⟩
    · exact hr.elim
  · exact hr.elim
/-- the dict's object replaced -/
theorem dct_put {P : Program} {w : World} {H : Hp} {h' : Heap} {a : Addr} {kvs : List (D × D)} (hP : P = G.P) (hw : w = G.w) (big' : kvs.length ≤ sizeLine) (sm : (a == sysModules) = false) :
    (∀ lk, h'.DictOf (leafKind P w) a lk → Paired (LeafRel G H) kvs lk → ∃ o, h'.get? a = some o ∧ DctRep G H a kvs o) ∧ (∀ xs, h'.DictOfH (nestedKind P w) a xs → Paired (TupRel G H) kvs xs → ∃ o, h'.get? a = some o ∧ DctRep G H a kvs o) := by
  subst hP hw
  refine ⟨fun lk ⟨o, es, ep, h1, h2, h3, h4, h5, h6⟩ pr => ⟨o, h1, big', sm, h2, es, ep, h3, .inl ⟨lk, h4, h5, h6, pr⟩⟩, fun xs ⟨o, es, ep, h1, h2, h3, h4, h5, h6⟩ pr => ⟨o, h1, big', sm, h2, es, ep, h3, .inr ⟨xs, h4, h6, pr⟩⟩⟩
theorem dct_set {pins : List (Addr × Obj)} {σ : L2.St} {H : Hp} {s : Shared} {M : Mem} {a : Addr} {kvs : List (D × D)} {k v : D} {y z : V} {u uz : Value} {Q : Unit → Shared → Prop} {E : Value → Shared → Prop} {A : Around} (hK : X.K = G.K) (hP : X.prog = G.P) (hw : X.w = G.w) (hu : A.units + 9 < cLine) (I : Inv X pins σ H s) (m : RepM G H M) (e : M a = some (.dct kvs))
    (ok : keyOk kvs k = true) (hb : kvs.length < big) (r : RepD G.K H k y) (ry : RelV y u) (rv : RepD G.K H v z) (rz : RelV z uz)
    (h : ∀ o s', Inv X pins σ (upd H a (objO a o)) s' → DctRep G H a (dput kvs k v) o → Q () s') :
    wpAny (model X.prog X.w) A (setItem (.ref a) u uz) Q E s := by
  obtain ⟨o, h1, rep⟩ := dct_of m e
  have hlen : (dput kvs k v).length ≤ sizeLine := by
    have := dput_len kvs k v
    rw [big_eq]; omega
  have mu : Mut (H a) := by rw [h1]; exact True.intro
  have fin : ∀ {h' : Heap} {o' : Obj} {t' : Nat}, Heap.SameBut a s.heap h' → h'.get? a = some o' → Inv X pins σ (upd H a (objO a o')) { s with heap := h', toks := t' } := fun {h' o' t'} hs ho => I.write (x := a) (e := a) mu (.inl rfl) (fun b q hb z => (hs.2 b hb).trans z) ⟨_, ho⟩ (objO_ok ho)
  rcases keyOk_cases ok with ⟨⟨q, hq⟩, hall⟩ | ⟨⟨ds, q, rfl, hq, h8⟩, hall⟩
  · obtain ⟨lk, dd, pr⟩ := dct_leaf hP hw I h1 rep hall
    refine wpAny_setItem_pairs (knd := leafKind X.prog X.w) (lkey_is r ry hq) dd (fun h' dd' hs => ?_) (by rw [← pr.length]; exact rep.big)
    obtain ⟨o', ho, rep'⟩ := (dct_put (G := G) (H := H) hP hw hlen rep.sm).1 _ dd' (leaf_put hq ⟨z, rv, rz⟩ pr)
    exact h o' _ (fin hs ho) rep'
  · obtain ⟨xs, dd, pr⟩ := dct_tup hK hP hw I h1 rep hall
    obtain ⟨b, vs, rfl, _⟩ := RepD.tup.mp r
    cases (show u = Value.ref b from ry)
    refine wpAny_setItem_heap (knd := nestedKind X.prog X.w) (k := q) (by show A.units + 1 + 8 < cLine; omega) ⟨nkey_is I _ (.ref b) _ _ (by rw [hK]; exact r) rfl hq, h8⟩ dd (fun h' dd' hs => ?_) (by rw [← pr.length]; exact rep.big)
    obtain ⟨o', ho, rep'⟩ := (dct_put (G := G) (H := H) hP hw hlen rep.sm).2 _ dd' (tup_put hq h8 r ⟨z, rv, rz⟩ pr)
    exact h o' _ (fin hs ho) rep'
theorem dct_get {pins : List (Addr × Obj)} {σ : L2.St} {H : Hp} {s : Shared} {M : Mem} {a : Addr} {kvs : List (D × D)} {k x : D} {y z : V} {u uz : Value} {us : List Value} {Q : VK} {E : Value → Shared → Prop} {A : Around} (hK : X.K = G.K) (hP : X.prog = G.P) (hw : X.w = G.w) (hu : A.units + 9 < cLine) (I : Inv X pins σ H s) (m : RepM G H M) (e : M a = some (.dct kvs))
    (ok : keyOk kvs k = true) (r : RepD G.K H k y) (ry : RelV y u) (hus : (us = [u] ∧ z = .non ∧ uz = .none) ∨ us = [u, uz]) (rv : RepD G.K H x z) (rz : RelV z uz)
    (h : ∀ v', RepD G.K H ((dlook kvs k).getD x) v' → Q v' H) :
    wpAny (model X.prog X.w) A (call (.builtin "dict.get") (.ref a :: us)) (EP X pins σ Q) E s := by
  obtain ⟨o, h1, rep⟩ := dct_of m e
  have ty := dct_type I h1 rep
  rcases keyOk_cases ok with ⟨⟨q, hq⟩, hall⟩ | ⟨⟨ds, q, rfl, hq, h8⟩, hall⟩
  · obtain ⟨lk, dd, pr⟩ := dct_leaf hP hw I h1 rep hall
    have zz := leaf_look hq pr
    have fin : ∀ t, EP X pins σ Q ((valueAt lk q).getD uz) { s with toks := t } := fun t => by
      cases l : dlook kvs k with
      | none =>
        rw [l] at zz; rw [zz]
        exact ⟨z, H, I.tok _, rz, h _ (by rw [l]; exact rv)⟩
      | some v =>
        rw [l] at zz
        obtain ⟨u', hu', v', rv', ru'⟩ := zz
        rw [hu']
        exact ⟨v', H, I.tok _, ru', h _ (by rw [l]; exact rv')⟩
    rcases hus with ⟨rfl, _, rfl⟩ | rfl
    · exact call_meetsIn PySem.F.slot_dict_get ty PySem.F.entry_dict_get (PySem.F.args_dict_get_2 _ _) (meets_dict_get (leafKind X.prog X.w) a (lkey_is r ry hq) rep.sm) ⟨_, dd.mapOf, fin _⟩
    · exact call_meetsIn PySem.F.slot_dict_get ty PySem.F.entry_dict_get (PySem.F.args_dict_get_3 _ _ _) (meets_dict_get_default (leafKind X.prog X.w) a (lkey_is r ry hq) rep.sm uz) ⟨_, dd.mapOf, fin _⟩
  · obtain ⟨xs, dd, pr⟩ := dct_tup hK hP hw I h1 rep hall
    have zz := tup_look hq pr
    have fin : ∀ t, EP X pins σ Q (((atKey xs q).map (·.2)).getD uz) { s with toks := t } := fun t => by
      cases l : dlook kvs (.tup ds) with
      | none =>
        rw [l] at zz; rw [zz]
        exact ⟨z, H, I.tok _, rz, h _ (by rw [l]; exact rv)⟩
      | some v =>
        rw [l] at zz
        obtain ⟨p, hp, v', rv', ru'⟩ := zz
        rw [hp]
        exact ⟨v', H, I.tok _, ru', h _ (by rw [l]; exact rv')⟩
    obtain ⟨b, vs, rfl, _⟩ := RepD.tup.mp r
    cases (show u = Value.ref b from ry)
    have hkk : (nestedKind X.prog X.w).is s.heap q b := ⟨nkey_is I _ (.ref b) _ _ (by rw [hK]; exact r) rfl hq, h8⟩
    have hroom : (nestedKind X.prog X.w).room A.in1 := by show A.units + 1 + 8 < cLine; omega
    rcases hus with ⟨rfl, _, rfl⟩ | rfl
    · exact call_meetsIn PySem.F.slot_dict_get ty PySem.F.entry_dict_get (PySem.F.args_dict_get_2 _ _) (meetsH_dict_get (nestedKind X.prog X.w) a b rep.sm) ⟨hroom, q, xs, hkk, dd, fin _⟩
    · exact call_meetsIn PySem.F.slot_dict_get ty PySem.F.entry_dict_get (PySem.F.args_dict_get_3 _ _ _) (meetsH_dict_get_default (nestedKind X.prog X.w) a b rep.sm uz) ⟨hroom, q, xs, hkk, dd, fin _⟩
theorem md_dget (hK : X.K = G.K) (hP : X.prog = G.P) (hw : X.w = G.w) (hu : X.A.units + 64 < cLine) : MtR X "dict.get" (liftM G vDGet) := by
  intro pins s σ H x xs v us Q I rx rxs h
  obtain ⟨d, ds, M, Q0, rd, rds, rm, hr, ok⟩ := h
  unfold vDGet at hr
  split at hr
  · rename_i a
    rw [RepD.obj] at rd; subst rd
    obtain rfl : v = Value.ref a := rx
    split at hr
    · rename_i kvs em
      split at hr
      · rename_i k
        obtain ⟨y, rfl, ry⟩ := rep1 rds
        cases rxs with
        | cons q qs =>
          cases qs
          exact dct_get (x := .non) (z := .non) hK hP hw (by omega) I rm em hr.1 ry q (.inl ⟨rfl, rfl, rfl⟩) (RepD.non.mpr rfl) rfl fun v' rv' => ok _ _ _ _ hr.2 rv' rm Step.rfl'
      · rename_i k x'
        obtain ⟨y, z, rfl, ry, rz⟩ := rep2 rds
        cases rxs with
        | cons q qs =>
          cases qs with
          | cons q2 qs =>
            cases qs
            exact dct_get hK hP hw (by omega) I rm em hr.1 ry q (.inr rfl) rz q2 fun v' rv' => ok _ _ _ _ hr.2 rv' rm Step.rfl'
      · exact hr.elim
    · exact hr.elim
  · exact hr.elim
/-- {} -/
theorem dct_new {P : Program} {w : World} {H : Hp} {h : Heap} (hb : sysModules < h.objs.size) : ∃ o, (h.push { cls := .type "dict", data := .dict #[] }).get? h.objs.size = some o ∧ DctRep G H h.objs.size [] o :=
  ⟨_, Heap.get?_push_size _ rfl, Nat.zero_le _, beq_eq_false_iff_ne.mpr (Ne.symm (Nat.ne_of_lt hb)), ⟨rfl, rfl, rfl⟩, #[], 0, rfl, .inl ⟨[], fun y hy => by simp at hy, .nil, List.nodup_nil, .nil⟩⟩
end
end DL
set_option Elab.async false
set_option linter.all false
set_option maxRecDepth 100000
/-! DL5: the small language: terms, what they ask (wp), when a text's tree is such a term (chk). -/
namespace DL
open PySem PySem.Spec PyProof.Rows L2

/-! ### targets -/
mutual
inductive Tg where
  | name (i : Nat)
  | tup (ts : Tgs)
inductive Tgs where
  | nil
  | cons (t : Tg) (ts : Tgs)
end
mutual
def Tg.slots : Tg → List Nat
  | .name i => [i]
  | .tup ts => ts.slots
def Tgs.slots : Tgs → List Nat
  | .nil => []
  | .cons t ts => t.slots ++ ts.slots
end
mutual
def wpTg : Tg → D → En → (En → Prop) → Prop
  | .name i, d, ρ, k => k (ρ.set i (some d))
  | .tup ts, d, ρ, k => match d with
    | .tup ds => wpTgs ts ds ρ k
    | _ => False
def wpTgs : Tgs → List D → En → (En → Prop) → Prop
  | .nil, ds, ρ, k => match ds with
    | [] => k ρ
    | _ => False
  | .cons t ts, ds, ρ, k => match ds with
    | d :: ds => wpTg t d ρ fun ρ' => wpTgs ts ds ρ' k
    | [] => False
end

/-! ### terms -/
inductive CK where | fn | me (c : Nat) | mk (c : Nat)
  deriving DecidableEq
/-- a def that is called: its name, how many arguments (self among them), the room it needs, its promise -/
structure Cal where
  kind : CK
  nm : Str
  ar : Nat
  lev : Nat
  sp : SpD

/-- what is called, and what is known of exception classes -/
structure Pk where
  l : List Cal
  sub : Nat → Nat → Bool
  fd : Nat → Option Str
abbrev XO := Option (Addr × Ex)

mutual
inductive ME where
  | var (i : Nat)
  | lit (d : D)
  | glb (j : Nat) (d : D)
  | xis (i c : Nat)
  | xisV (i : Nat)
  | xfld (i : Nat) (f : Str)
  | bin (o : Operator) (a b : ME)
  | neg (a : ME)
  | cmp (o : CmpOp) (a b : ME)
  | chn (o o' : CmpOp) (a b c : ME)
  | bo (k : Bool) (es : MEs)
  | not (a : ME)
  | ite (c : MT) (a b : ME)
  | tup (es : MEs)
  | lst (es : MEs)
  | idx (a i : ME)
  | slc (a : ME) (lo hi : MEs)
  | fld (c i : Nat) (a : ME)
  | call (k : Nat) (es : MEs)
  | meth (k : Nat) (o : ME) (es : MEs)
  | make (k : Nat) (es : MEs)
  | bi (f : BI) (es : MEs)
  | isi (a : ME) (T : String)
  | bm (f : BM) (o : ME) (es : MEs)
  | lc (elt : ME) (tg : Tg) (it : MI) (ifs : MTs) (own : List (Str × Nat))
  | rev (a : ME)
  | isit (a : ME) (Ts : List String)
  | dnew
  | ddsp (k v : ME)
  | dget (o : ME) (es : MEs)
  | dzip (a b : ME)
  | lrng (es : MEs)
inductive MEs where
  | nil
  | cons (e : ME) (es : MEs)
/-- tests -/
inductive MT where
  | val (e : ME)
  | cmp (o : CmpOp) (a b : ME)
  | chn (o o' : CmpOp) (a b c : ME)
  | bo (k : Bool) (ts : MTs)
  | not (t : MT)
inductive MTs where
  | nil
  | cons (t : MT) (ts : MTs)
inductive MI where
  | of (e : ME)
  | rng (es : MEs)
  | enu (e : ME)
  | zip (a b : ME)
end

/-! ### what they ask -/
def isDct (M : Mem) (d : D) : Bool := match d with
  | .obj a => match M a with
    | some (.dct _) => true
    | _ => false
  | _ => false
def vGet : R2D := fun d e M Q => if isDct M d = true then vDIdx d e M Q else vIdx d e M Q
def vInG (neg : Bool) : R2D := fun k d M Q => if isDct M d = true then vDIn neg k d M Q else vInK neg k d M Q
def vRev (d : D) (M : Mem) (Q : DK) : Prop := match d with
  | .str l => l.length ≤ 1000000 ∧ Q (.str l.reverse) M
  | .obj a => match rdL M a with
    | some xs => ∀ p, M p = none → Q (.obj p) (mup M p (.lst xs.reverse))
    | none => False
  | _ => False
def kitsB (U : String) : List String → Option Bool
  | [] => some false
  | T :: r => match kitB U T with
    | some true => some true
    | some false => kitsB U r
    | none => none
def vIsi (T : String) (d : D) (M : Mem) (Q : DK) : Prop := match tyD M d with
  | some U => match kitB U T with
    | some r => Q (.bl r) M
    | none => False
  | none => False
def vIsit (Ts : List String) (d : D) (M : Mem) (Q : DK) : Prop := match tyD M d with
  | some U => match kitsB U Ts with
    | some r => Q (.bl r) M
    | none => False
  | none => False
def zipD (xs ys : List D) : List (D × D) := (xs.zip ys).foldl (fun acc p => dput acc p.1 p.2) []
def vZip (d e : D) (M : Mem) (Q : DK) : Prop := match d, e with
  | .obj a, .obj b => match M a, M b with
    | some (.lst xs), some (.lst ys) => (xs.all fun x => (lkey x).isSome) = true ∧ ∀ p, M p = none → Q (.obj p) (mup M p (.dct (zipD xs ys)))
    | _, _ => False
  | _, _ => False
def binS : Operator → R2D
  | .Add => vAdd | .Sub => vSub | .Mult => vMul | .FloorDiv => vDiv | .Mod => vMod | .Pow => vPow | .LShift => vShl | .RShift => vShr | .BitAnd => vAnd
  | _ => fun _ _ _ _ => False
def cmpS : CmpOp → R2D
  | .Eq => vEq | .NotEq => vNe | .Lt => vLt | .LtE => vLe | .Gt => vGt | .GtE => vGe | .Is => vIsK false | .IsNot => vIsK true | .In => vInG false | .NotIn => vInG true
/-- what a loop walks: its items, and what must stay -/
structure Its where
  xs : List D
  ok : Mem → Prop
abbrev TDI := En → Mem → (Its → Mem → Prop) → Prop
def itsOf : D → Mem → (Its → Mem → Prop) → Prop := fun d M R => match d with
  | .tup xs => R ⟨xs, fun _ => True⟩ M
  | .str l => R ⟨l.map fun c => .str [c], fun _ => True⟩ M
  | .obj a => match rdL M a with
    | some xs => R ⟨xs, fun M' => rdL M' a = some xs⟩ M
    | none => False
  | _ => False
def rngOf : List D → Mem → (Its → Mem → Prop) → Prop := fun ds M R => match ds with
  | [.int j] => -(2 ^ 62) ≤ j ∧ j < 2 ^ 62 ∧ R ⟨(List.range j.toNat).map fun k => .int (k : Nat), fun _ => True⟩ M
  | [.int i, .int j] => (-(2 ^ 62) ≤ i ∧ i < 2 ^ 62 ∧ -(2 ^ 62) ≤ j ∧ j < 2 ^ 62) ∧ R ⟨(List.range (j - i).toNat).map fun k => .int (i + (k : Nat)), fun _ => True⟩ M
  | _ => False
def enuL (k : Nat) : List D → List D
  | [] => []
  | x :: xs => .tup [.int k, x] :: enuL (k + 1) xs
def enuOf (d : D) (M : Mem) (R : Its → Mem → Prop) : Prop := match d with
  | .tup xs => R ⟨enuL 0 xs, fun _ => True⟩ M
  | .obj a => match rdL M a with
    | some xs => R ⟨enuL 0 xs, fun M' => rdL M' a = some xs⟩ M
    | none => False
  | _ => False
def zipL : List D → List D → List D
  | x :: xs, y :: ys => .tup [x, y] :: zipL xs ys
  | _, _ => []
def lcGo (tg : D → En → (En → Prop) → Prop) (ifs : TDT) (elt : TD) (ρ : En) (ok : Mem → Prop) : List D → List D → Mem → (List D → Mem → Prop) → Prop
  | [], acc, M, Q => ok M ∧ Q acc M
  | d :: ds, acc, M, Q => ok M ∧ tg d ρ fun ρ' => ifs ρ' M fun b M2 => if b = true then elt ρ' M2 fun v M3 => acc.length < big ∧ lcGo tg ifs elt ρ ok ds (acc ++ [v]) M3 Q else lcGo tg ifs elt ρ ok ds acc M2 Q
def wipeD (ρ : En) : List Nat → En
  | [] => ρ
  | v :: vs => (wipeD ρ vs).set v none
def optI (t : TDA) : En → Mem → (Option Int → Mem → Prop) → Prop := fun ρ M Q => t ρ M fun ds M1 => match ds with
  | [] => Q none M1
  | [.int i] => Q (some i) M1
  | _ => False
/-- has the value a class with these methods? -/
def recv (T : String) (d : D) (M : Mem) : Prop := match d with
  | .str _ => T = "str"
  | .obj a => T = "list" ∧ (rdL M a).isSome = true
  | _ => False
mutual
def wpE (cs : Pk) (W : WD) (xo : XO) : ME → TD
  | .var i => fun ρ M Q => match ρ[i]? with
    | some (some d) => Q d M
    | _ => False
  | .lit d => fun _ M Q => Q d M
  | .glb _ d => fun _ M Q => Q d M
  | .xis i c => fun ρ M Q => match xo with
    | some (a, x) => ρ[i]? = some (some (.obj a)) ∧ cs.fd x.c = none ∧ Q (.bl (cs.sub x.c c)) M
    | none => False
  | .xisV i => fun ρ M Q => match xo with
    | some (a, x) => ρ[i]? = some (some (.obj a)) ∧ cs.fd x.c = none ∧ Q (.bl true) M
    | none => False
  | .xfld i f => fun ρ M Q => match xo with
    | some (a, x) => ρ[i]? = some (some (.obj a)) ∧ cs.fd x.c = some f ∧ match x.args with
      | [v] => Q v M
      | _ => False
    | none => False
  | .bin o a b => fun ρ M Q => wpE cs W xo a ρ M fun d M1 => wpE cs W xo b ρ M1 fun e M2 => binS o d e M2 Q
  | .neg a => fun ρ M Q => wpE cs W xo a ρ M fun d M1 => match d with
    | .int i => Q (.int (-i)) M1
    | _ => False
  | .cmp o a b => fun ρ M Q => wpE cs W xo a ρ M fun d M1 => wpE cs W xo b ρ M1 fun e M2 => cmpS o d e M2 Q
  | .chn o o' a b c => fun ρ M Q => wpE cs W xo a ρ M fun d M1 => wpE cs W xo b ρ M1 fun e M2 => cmpS o d e M2 fun z M3 => match z with
    | .bl true => wpE cs W xo c ρ M3 fun f M4 => cmpS o' e f M4 Q
    | .bl false => Q (.bl false) M3
    | _ => False
  | .bo k es => wpBo cs W xo k es
  | .not a => fun ρ M Q => wpE cs W xo a ρ M fun d M1 => vTru d M1 fun b M2 => Q (.bl (!b)) M2
  | .ite c a b => fun ρ M Q => wpT cs W xo c ρ M fun k M2 => if k = true then wpE cs W xo a ρ M2 Q else wpE cs W xo b ρ M2 Q
  | .tup es => fun ρ M Q => wpA cs W xo es ρ M fun ds M1 => Q (.tup ds) M1
  | .lst es => fun ρ M Q => wpA cs W xo es ρ M fun ds M1 => ∀ p, M1 p = none → Q (.obj p) (mup M1 p (.lst ds))
  | .idx a i => fun ρ M Q => wpE cs W xo a ρ M fun d M1 => wpE cs W xo i ρ M1 fun e M2 => vGet d e M2 Q
  | .slc a lo hi => fun ρ M Q => wpE cs W xo a ρ M fun d M1 => optI (wpA cs W xo lo) ρ M1 fun l M2 => optI (wpA cs W xo hi) ρ M2 fun u M3 => vSlc d l u M3 Q
  | .fld c i a => fun ρ M Q => wpE cs W xo a ρ M fun d M1 => match d with
    | .obj p => match M1 p with
      | some (.ins c' fs) => c' = c ∧ match fs[i]? with
        | some x => Q x M1
        | none => False
      | _ => False
    | _ => False
  | .call k es => fun ρ M Q => match cs.l[k]? with
    | some c => wpA cs W xo es ρ M fun ds M1 => c.sp ds M1 Q fun x M' => W x ρ M'
    | none => False
  | .meth k o es => fun ρ M Q => match cs.l[k]? with
    | some c => match c.kind with
      | .me cl => wpE cs W xo o ρ M fun d M1 => match d with
        | .obj p => match M1 p with
          | some (.ins c' fs) => c' = cl ∧ wpA cs W xo es ρ M1 fun ds M2 => c.sp (d :: ds) M2 Q fun x M' => W x ρ M'
          | _ => False
        | _ => False
      | _ => False
    | none => False
  | .make k es => fun ρ M Q => match cs.l[k]? with
    | some c => match c.kind with
      | .mk cl => wpA cs W xo es ρ M fun ds M1 => ∀ p, M1 p = none → c.sp (.obj p :: ds) (mup M1 p (.ins cl [])) (fun v M2 => match v with
        | .non => Q (.obj p) M2
        | _ => False) fun x M' => W x ρ M'
      | _ => False
    | none => False
  | .bi f es => fun ρ M Q => wpA cs W xo es ρ M fun ds M1 => biS f ds M1 Q
  | .isi a T => fun ρ M Q => wpE cs W xo a ρ M fun d M1 => vIsi T d M1 Q
  | .bm f o es => fun ρ M Q => wpE cs W xo o ρ M fun d M1 => recv f.ty d M1 ∧ wpA cs W xo es ρ M1 fun ds M2 => bmS f d ds M2 Q
  | .lc elt tg it ifs own => fun ρ M Q => wpI cs W xo it ρ M fun I M1 => lcGo (wpTg tg) (wpIf cs (fun _ _ _ => False) none ifs) (wpE cs (fun _ _ _ => False) none elt) (wipeD ρ (own.map (·.2))) I.ok I.xs [] M1 fun acc M2 => ∀ p, M2 p = none → Q (.obj p) (mup M2 p (.lst acc))
  | .rev a => fun ρ M Q => wpE cs W xo a ρ M fun d M1 => vRev d M1 Q
  | .isit a Ts => fun ρ M Q => wpE cs W xo a ρ M fun d M1 => vIsit Ts d M1 Q
  | .dnew => fun _ M Q => ∀ p, M p = none → Q (.obj p) (mup M p (.dct []))
  | .ddsp k v => fun ρ M Q => ∀ p, M p = none → wpE cs W xo k ρ (mup M p (.dct [])) fun dk M1 => wpE cs W xo v ρ M1 fun dv M2 => M2 p = some (.dct []) ∧ (lkey dk).isSome = true ∧ Q (.obj p) (mup M2 p (.dct [(dk, dv)]))
  | .dget o es => fun ρ M Q => wpE cs W xo o ρ M fun d M1 => isDct M1 d = true ∧ wpA cs W xo es ρ M1 fun ds M2 => vDGet d ds M2 Q
  | .dzip a b => fun ρ M Q => wpE cs W xo a ρ M fun d M1 => wpE cs W xo b ρ M1 fun e M2 => vZip d e M2 Q
  | .lrng es => fun ρ M Q => wpA cs W xo es ρ M fun ds M1 => match ds with
    | [.int j] => 0 ≤ j ∧ j ≤ 16777216 ∧ ∀ q, M1 q = none → Q (.obj q) (mup M1 q (.lst ((List.range j.toNat).map fun k => .int (k : Nat))))
    | _ => False
def wpA (cs : Pk) (W : WD) (xo : XO) : MEs → TDA
  | .nil => fun _ M Q => Q [] M
  | .cons e es => fun ρ M Q => wpE cs W xo e ρ M fun d M1 => wpA cs W xo es ρ M1 fun ds M2 => Q (d :: ds) M2
def wpBo (cs : Pk) (W : WD) (xo : XO) (k : Bool) : MEs → TD
  | .nil => fun _ _ _ => False
  | .cons e es => fun ρ M Q => match es with
    | .nil => wpE cs W xo e ρ M Q
    | .cons _ _ => wpE cs W xo e ρ M fun d M1 => vTru d M1 fun b M2 => if b = k then wpBo cs W xo k es ρ M2 Q else Q d M2
def wpT (cs : Pk) (W : WD) (xo : XO) : MT → TDT
  | .val e => fun ρ M Q => wpE cs W xo e ρ M fun d M1 => vTru d M1 Q
  | .cmp o a b => fun ρ M Q => wpE cs W xo a ρ M fun d M1 => wpE cs W xo b ρ M1 fun e M2 => cmpS o d e M2 fun z M3 => vTru z M3 Q
  | .chn o o' a b c => fun ρ M Q => wpE cs W xo a ρ M fun d M1 => wpE cs W xo b ρ M1 fun e M2 => cmpS o d e M2 fun z M3 => match z with
    | .bl true => wpE cs W xo c ρ M3 fun f M4 => cmpS o' e f M4 fun z M5 => vTru z M5 Q
    | .bl false => vTru (.bl false) M3 Q
    | _ => False
  | .bo k ts => wpTs cs W xo k ts
  | .not t => fun ρ M Q => wpT cs W xo t ρ M fun b M1 => Q (!b) M1
def wpTs (cs : Pk) (W : WD) (xo : XO) (k : Bool) : MTs → TDT
  | .nil => fun _ _ _ => False
  | .cons t ts => fun ρ M Q => match ts with
    | .nil => wpT cs W xo t ρ M Q
    | .cons _ _ => wpT cs W xo t ρ M fun b M1 => if b = k then wpTs cs W xo k ts ρ M1 Q else Q (!k) M1
def wpIf (cs : Pk) (W : WD) (xo : XO) : MTs → TDT
  | .nil => fun _ M Q => Q true M
  | .cons t _ => wpT cs W xo t
def wpI (cs : Pk) (W : WD) (xo : XO) : MI → TDI
  | .of e => fun ρ M R => wpE cs W xo e ρ M fun d M1 => itsOf d M1 R
  | .rng es => fun ρ M R => wpA cs W xo es ρ M fun ds M1 => rngOf ds M1 R
  | .enu e => fun ρ M R => wpE cs W xo e ρ M fun d M1 => enuOf d M1 R
  | .zip a b => fun ρ M R => wpE cs W xo a ρ M fun d M1 => wpE cs W xo b ρ M1 fun e M2 => itsOf d M2 fun I M3 => itsOf e M3 fun J M4 => R ⟨zipL I.xs J.xs, fun M => I.ok M ∧ J.ok M⟩ M4
end

/-! ### statements -/
mutual
inductive MS where
  | set (tg : Tg) (e : ME)
  | par2 (i j : Nat) (a b : ME)
  | par3 (i j k : Nat) (a b c : ME)
  | setI (o i e : ME)
  | setF (c f : Nat) (o e : ME)
  | aug (i : Nat) (op : Operator) (e : ME)
  | augF (c f : Nat) (o : ME) (op : Operator) (e : ME)
  | ex (e : ME)
  | ret (e : ME)
  | retN
  | ifS (c : MT) (a b : MSs)
  | whl (c : MT) (b : MSs)
  | forS (tg : Tg) (it : MI) (b : MSs)
  | brk
  | cnt
  | pas
  | rse (c : Nat) (es : MEs)
  | tryS (b : MSs) (hs : MHs)
inductive MSs where
  | nil
  | cons (s : MS) (r : MSs)
inductive MHs where
  | nil
  | cons (c : Nat) (nm : Option Nat) (b : MSs) (r : MHs)
end
/-- a[i] = v on lists -/
def vSetI : D → D → D → Mem → (Mem → Prop) → Prop := fun o i v M Q => match o, i with
  | .obj a, .int j => match M a with
    | some (.lst xs) => match ixN xs.length j with
      | some k => Q (mup M a (.lst (xs.set k v)))
      | none => False
    | _ => False
  | _, _ => False
def vSetG : D → D → D → Mem → (Mem → Prop) → Prop := fun o i v M Q => if isDct M o = true then vDSet o i v M Q else vSetI o i v M Q
/-- a op= b, by values -/
def augS : Operator → R2D := fun o => match o with
  | .Add => fun d e M Q => match d, e with
    | .int i, .int j => Q (.int (i + j)) M
    | _, _ => False
  | .Sub => fun d e M Q => match d, e with
    | .int i, .int j => Q (.int (i - j)) M
    | _, _ => False
  | _ => fun _ _ _ _ => False
def putFd (fs : List D) (i : Nat) (v : D) : Option (List D) := if i < fs.length then some (fs.set i v) else if i = fs.length then some (fs ++ [v]) else none
mutual
def wpS (cs : Pk) (W : WD) (xo : XO) : MS → TDS
  | .set tg e => fun D ρ M => wpE cs W xo e ρ M fun d M1 => wpTg tg d ρ fun ρ' => D.nx ρ' M1
  | .par2 i j a b => fun D ρ M => wpE cs W xo a ρ M fun d M1 => wpE cs W xo b ρ M1 fun e M2 => D.nx ((ρ.set i (some d)).set j (some e)) M2
  | .par3 i j k a b c => fun D ρ M => wpE cs W xo a ρ M fun d M1 => wpE cs W xo b ρ M1 fun e M2 => wpE cs W xo c ρ M2 fun f M3 => D.nx (((ρ.set i (some d)).set j (some e)).set k (some f)) M3
  | .setI o i e => fun D ρ M => wpE cs W xo e ρ M fun v M1 => wpE cs W xo o ρ M1 fun d M2 => wpE cs W xo i ρ M2 fun j M3 => vSetG d j v M3 fun M4 => D.nx ρ M4
  | .setF c f o e => fun D ρ M => wpE cs W xo e ρ M fun v M1 => wpE cs W xo o ρ M1 fun d M2 => match d with
    | .obj p => match M2 p with
      | some (.ins c' fs) => c' = c ∧ match putFd fs f v with
        | some gs => D.nx ρ (mup M2 p (.ins c gs))
        | none => False
      | _ => False
    | _ => False
  | .aug i op e => fun D ρ M => match ρ[i]? with
    | some (some d) => wpE cs W xo e ρ M fun v M1 => augS op d v M1 fun z M2 => D.nx (ρ.set i (some z)) M2
    | _ => False
  | .augF c f o op e => fun D ρ M => wpE cs W xo o ρ M fun d M1 => match d with
    | .obj p => match M1 p with
      | some (.ins c' fs) => c' = c ∧ match fs[f]? with
        | some x => wpE cs W xo e ρ M1 fun v M2 => augS op x v M2 fun z M3 => match M3 p with
          | some (.ins c2 gs) => c2 = c ∧ f < gs.length ∧ D.nx ρ (mup M3 p (.ins c (gs.set f z)))
          | _ => False
        | none => False
      | _ => False
    | _ => False
  | .ex e => fun D ρ M => wpE cs W xo e ρ M fun _ M1 => D.nx ρ M1
  | .ret e => fun D ρ M => wpE cs W xo e ρ M D.rt
  | .retN => fun D _ M => D.rt .non M
  | .ifS c a b => fun D ρ M => wpT cs W xo c ρ M fun k M1 => if k = true then wpSs cs W xo a D ρ M1 else wpSs cs W xo b D ρ M1
  | .whl c b => fun D ρ M => ∃ I : Nat → En → Mem → Prop, (∃ m, I m ρ M) ∧ ∀ m ρ M, I m ρ M → wpT cs W xo c ρ M fun k M1 =>
    if k = true then wpSs cs W xo b { D with nx := fun ρ' M' => ∃ m' M'', m' < m ∧ Sub M'' M' ∧ I m' ρ' M'', ct := fun ρ' M' => ∃ m' M'', m' < m ∧ Sub M'' M' ∧ I m' ρ' M'', bk := D.nx } ρ M1 else D.nx ρ M1
  | .forS tg it b => fun D ρ M => wpI cs W xo it ρ M fun J M1 => ∃ I : Nat → En → Mem → Prop, I 0 ρ M1 ∧ ∀ i ρ M, I i ρ M → J.ok M ∧ match J.xs[i]? with
    | none => D.nx ρ M
    | some d => wpTg tg d ρ fun ρ' => wpSs cs W xo b { D with nx := fun ρ'' M' => ∃ M'', Sub M'' M' ∧ I (i + 1) ρ'' M'', ct := fun ρ'' M' => ∃ M'', Sub M'' M' ∧ I (i + 1) ρ'' M'', bk := D.nx } ρ' M
  | .brk => fun D ρ M => D.bk ρ M
  | .cnt => fun D ρ M => D.ct ρ M
  | .pas => fun D ρ M => D.nx ρ M
  | .rse c es => fun _ ρ M => wpA cs W xo es ρ M fun ds M1 => W ⟨c, ds⟩ ρ M1
  | .tryS b hs => fun D ρ M => wpSs cs (wpHs cs W hs D) none b D ρ M
def wpSs (cs : Pk) (W : WD) (xo : XO) : MSs → TDS
  | .nil => fun D ρ M => D.nx ρ M
  | .cons s r => fun D ρ M => ∃ Mid : En → Mem → Prop, wpS cs W xo s { D with nx := Mid } ρ M ∧ ∀ ρ' M', Mid ρ' M' → ∃ M'', Sub M'' M' ∧ wpSs cs W xo r D ρ' M''
def wpHs (cs : Pk) (W : WD) : MHs → EndsD → WD
  | .nil => fun _ => W
  | .cons c nm b r => fun D x ρ M => if cs.sub x.c c = true then ∀ a, match nm with
      | none => wpSs cs (fun _ _ _ => False) none b D ρ M
      | some i => wpSs cs (fun _ _ _ => False) (some (a, x)) b { nx := fun ρ' M' => D.nx (ρ'.set i none) M', rt := D.rt, bk := fun ρ' M' => D.bk (ρ'.set i none) M', ct := fun ρ' M' => D.ct (ρ'.set i none) M' } (ρ.set i (some (.obj a))) M
    else wpHs cs W r D x ρ M
end
end DL
set_option Elab.async false
set_option linter.all false
set_option maxRecDepth 100000
/-! DL6: the judgements of the small language's constructs, one lemma each. -/
namespace DL
open PySem PySem.Spec PyProof.Rows L2

/-! ### the tree's forms -/
def plainE : Expr → Bool
  | .BoolOp .. | .BinOp .. | .UnaryOp .. | .IfExp .. | .Dict .. | .ListComp .. | .DictComp .. | .Compare .. | .Call .. | .Constant .. | .Attribute .. | .Subscript .. | .Name .. | .List .. | .Tuple .. | .Lambda .. => true
  | _ => false
theorem star_plain {e : Expr} (h : plainE e = true) (es : List Expr) (env : Env) : starEach (e :: es) env = (false, eval e env) :: starEach es env := by
  cases e <;> first | rfl | cases h
theorem behind_plain {e : Expr} (h : plainE e = true) (op : CmpOp) : behindInMarks op e = false := by
  cases e <;> first | rfl | cases h
theorem folded_plain {e : Expr} (h : plainE e = true) (env : Env) (x : Value) : foldedSetIterable e env x = pure x := by
  cases e <;> first | rfl | cases h
theorem ix_plain {e : Expr} (h : plainE e = true) : PlainIx e := by
  intro o i; cases e <;> first | rfl | cases h
theorem aug_plain {e : Expr} (h : plainE e = true) (ov iv new : Value) : augStore e ov iv new = (do holding [new, ov, iv] (setItem ov iv new); release [new, ov, iv] []; pure .next) := by
  cases e <;> first | rfl | cases h
def plainEs (es : List Expr) : Bool := es.all plainE
theorem any_plain {es : List Expr} (h : plainEs es = true) (pos : Pos) (env : Env) : (backTo pos (starEach es env)).any (·.1) = false := by
  induction es with
  | nil => rfl
  | cons e es ih =>
    unfold plainEs at h
    rw [List.all_cons, Bool.and_eq_true] at h
    rw [star_plain h.1]
    unfold backTo at ih ⊢
    rw [List.map_cons, List.any_cons, ih h.2]; rfl
theorem all_plain {es : List Expr} (h : plainEs es = true) (pos : Pos) (env : Env) : (backTo pos (starEach es env)).all (fun x => !x.1) = true := by
  induction es with
  | nil => rfl
  | cons e es ih =>
    unfold plainEs at h
    rw [List.all_cons, Bool.and_eq_true] at h
    rw [star_plain h.1]
    unfold backTo at ih ⊢
    rw [List.map_cons, List.all_cons, ih h.2]; rfl
/-- a receiver that is no call without arguments -/
def recvE : Expr → Bool
  | .Call _ args _ _ => !args.isEmpty
  | .Starred .. | .Slice .. | .Set .. => false
  | _ => true
theorem base_plain {o : Expr} (h : recvE o = true) (attr : Str) (env : Env) (w : Sem Value) : attributeBase o attr env w = w := by
  cases o <;> first | rfl | skip
  rename_i f args kws pos
  cases args with
  | nil => cases h
  | cons a as => cases f <;> rfl
/-- a test that is a value's truth -/
def truE : Expr → Bool
  | .BinOp .. | .Call .. | .Constant .. | .Attribute .. | .Subscript .. | .Name .. | .List .. | .Tuple .. | .ListComp .. | .Dict .. | .DictComp .. => true
  | _ => false
theorem tru_plain {e : Expr} (h : truE e = true) (env : Env) (whole : Sem Value) : isTrue e env whole = (do let v ← whole; standAt e.pos; holding [v] (truthy v)) := by
  cases e <;> first | rfl | cases h

/-- a class of the program's own -/
structure ClsOk (G : Cfg) (ci : Str × List Str) : Prop where
  nd : ci.2.Nodup
  few : ci.2.length ≤ 900
  cls : ∃ C, G.mg ci.1 = some (.ref C) ∧ Cls G.K C ∧ ∀ f ∈ ci.2, NoAttr G.K C f
/-! ### where the code runs -/
structure CtxK (X : Cx) (G : Cfg) (N : List Str) (sc : Scope) : Prop where
  eK : X.K = G.K
  eM : X.mg = G.mg
  eP : X.prog = G.P
  ew : X.w = G.w
  eN : X.N = N
  nd : N.Nodup
  eS : X.env.scope = sc
  hu : X.A.units + 64 < cLine
  fb : ∀ x ∈ G.fb, G.mg x = none
  nc : ∀ ci, ci ∈ G.ct → ClsOk G ci
  gl : ∀ p ∈ G.gl, ∃ u v, G.mg p.1 = some u ∧ RelV v u ∧ ∀ H, RepD G.K H p.2 v
structure CtxOk (X : Cx) (G : Cfg) (N : List Str) (sc : Scope) : Prop extends CtxK X G N sc where
  calm : X.calm = true

section
variable {X : Cx} {G : Cfg} {N : List Str} {sc : Scope} {B : Bs} {W : WD} {pos : Pos} {a b c : Expr} {ta tb tc : TD}

theorem ld_lit {d : D} {v : V} {e : Expr} (h : PE X e (tC v)) (r : ∀ H, RepD G.K H d v) : PE X e (lift G B fun _ M Q => Q d M) :=
  h.weak fun σ H Q ⟨ρ, M, Q0, st, rs, rm, q, ok⟩ => ok d M H v q (r H) rm Step.rfl'
theorem ld_var {i : Nat} {x : Str} (C : CtxK X G N sc) (hN : N[i]? = some x) (hv : Vis sc x) (hd : (x == ("__debug__" : Str)) = false) (hcd : (x == ("__classdict__" : Str)) = false) :
    PE X (.Name x pos) (lift G B fun ρ M Q => match ρ[i]? with
      | some (some d) => Q d M
      | _ => False) := by
  refine (pe_var (i := i) (by rw [C.eN]; exact hN) (by rw [C.eS]; exact hv) hd hcd).weak fun σ H Q ⟨ρ, M, Q0, st, rs, rm, q, ok⟩ => ?_
  try dsimp only at q
  split at q
  · rename_i d e
    obtain ⟨v, ev, r⟩ := rs.2 i d e
    exact ⟨v, ev, ok d M H v q r rm Step.rfl'⟩
  · exact q.elim
/-- two parts, then r -/
theorem two_ok {r : R2D} {σ : L2.St} {H : Hp} {Q : VK} (h : lift G B (fun ρ M Q => ta ρ M fun d M1 => tb ρ M1 fun e M2 => r d e M2 Q) σ H Q) : tOp (lift2 G r) (lift G B ta) (lift G B tb) σ H Q := by
  obtain ⟨ρ, M, Q0, st, rs, rm, q, ok⟩ := h
  refine ⟨ρ, M, _, st, rs, rm, q, fun d M1 H1 x q1 r1 m1 s1 => ?_⟩
  refine ⟨ρ, M1, _, st.trans s1, rs.keep s1.kp, m1, q1, fun e M2 H2 y q2 r2 m2 s2 => ?_⟩
  exact ⟨d, e, M2, Q0, RepD.keep s2.kp _ _ r1, r2, m2, q2, ok.on (s1.trans s2)⟩
theorem ld_bin {op : Operator} {r : R2D} (ho : OpR X (binaryOp op) (lift2 G r)) (ha : PE X a (lift G B ta)) (hb : PE X b (lift G B tb)) :
    PE X (.BinOp a op b pos) (lift G B fun ρ M Q => ta ρ M fun d M1 => tb ρ M1 fun e M2 => r d e M2 Q) := (pe_op ho ha hb).weak fun _ _ _ h => two_ok h
theorem ld_cmp {op : CmpOp} {r : R2D} (ho : OpR X (compareOp op) (lift2 G r)) (ha : PE X a (lift G B ta)) (hb : PE X b (lift G B tb)) (hp : plainE b = true) :
    PE X (.Compare a [op] [b] pos) (lift G B fun ρ M Q => ta ρ M fun d M1 => tb ρ M1 fun e M2 => r d e M2 Q) := (pe_cmpR ho ha hb (behind_plain hp _)).weak fun _ _ _ h => two_ok h
theorem ld_idx {r : R2D} (ho : IxR X (lift2 G r)) (ha : PE X a (lift G B ta)) (hb : PE X b (lift G B tb)) (hp : plainE b = true) :
    PE X (.Subscript a b pos) (lift G B fun ρ M Q => ta ρ M fun d M1 => tb ρ M1 fun e M2 => r d e M2 Q) := (pe_ix ho ha hb (ix_plain hp)).weak fun _ _ _ h => two_ok h
theorem ld_neg (ha : PE X a (lift G B ta)) : PE X (.UnaryOp .USub a pos) (lift G B fun ρ M Q => ta ρ M fun d M1 => match d with
    | .int i => Q (.int (-i)) M1
    | _ => False) := by
  refine (pe_un un_neg ha).weak fun σ H Q ⟨ρ, M, Q0, st, rs, rm, q, ok⟩ => ?_
  refine ⟨ρ, M, _, st, rs, rm, q, fun d M1 H1 x q1 r1 m1 s1 => ?_⟩
  try dsimp only at q1
  split at q1
  · rename_i i
    rw [RepD.int] at r1; subst r1
    exact ⟨i, rfl, ok _ _ _ _ q1 (RepD.int.mpr rfl) m1 s1⟩
  · exact q1.elim
theorem ld_chn {op op' : CmpOp} {r r' : R2D} (ho : OpR X (compareOp op) (lift2 G r)) (ho' : OpR X (compareOp op') (lift2 G r')) (ha : PE X a (lift G B ta)) (hb : PE X b (lift G B tb)) (hc : PE X c (lift G B tc)) (hp : plainE c = true) :
    PE X (.Compare a [op, op'] [b, c] pos) (lift G B fun ρ M Q => ta ρ M fun d M1 => tb ρ M1 fun e M2 => r d e M2 fun z M3 => match z with
      | .bl true => tc ρ M3 fun f M4 => r' e f M4 Q
      | .bl false => Q (.bl false) M3
      | _ => False) := by
  refine (pe_chain ho ho' ha hb hc (behind_plain hp _)).weak fun σ H Q ⟨ρ, M, Q0, st, rs, rm, q, ok⟩ => ?_
  refine ⟨ρ, M, _, st, rs, rm, q, fun d M1 H1 x q1 r1 m1 s1 => ?_⟩
  refine ⟨ρ, M1, _, st.trans s1, rs.keep s1.kp, m1, q1, fun e M2 H2 y q2 r2 m2 s2 => ?_⟩
  refine ⟨d, e, M2, _, RepD.keep s2.kp _ _ r1, r2, m2, q2, fun z M3 H3 w q3 r3 m3 s3 => ?_⟩
  try dsimp only at q3
  split at q3
  · rw [RepD.bl] at r3; subst r3
    refine ⟨true, rfl, ?_⟩
    refine ⟨ρ, M3, _, st.trans ((s1.trans s2).trans s3), rs.keep ((s1.trans s2).trans s3).kp, m3, q3, fun f M4 H4 u q4 r4 m4 s4 => ?_⟩
    exact ⟨e, f, M4, Q0, RepD.keep (s3.trans s4).kp _ _ r2, r4, m4, q4, ok.on (((s1.trans s2).trans s3).trans s4)⟩
  · rw [RepD.bl] at r3; subst r3
    exact ⟨false, rfl, ok _ _ _ _ q3 (RepD.bl.mpr rfl) m3 ((s1.trans s2).trans s3)⟩
  · exact q3.elim

/-! ### argument lists, displays -/
theorem la_nil : PA X [] (liftA G B 0 fun _ M Q => Q [] M) := pa_nil.weak fun σ H Q ⟨ρ, M, Q0, st, rs, rm, q, ok⟩ => ok [] M H [] rfl q (RepL.nil.mpr rfl) rm Step.rfl'
theorem la_cons {es : List Expr} {n : Nat} {t : TDA} (ha : PE X a (lift G B ta)) (hr : PA X es (liftA G B n t)) (hp : plainE a = true) :
    PA X (a :: es) (liftA G B (n + 1) fun ρ M Q => ta ρ M fun d M1 => t ρ M1 fun ds M2 => Q (d :: ds) M2) := by
  refine (pa_cons ha hr (star_plain hp _ _)).weak fun σ H Q ⟨ρ, M, Q0, st, rs, rm, q, ok⟩ => ?_
  refine ⟨ρ, M, _, st, rs, rm, q, fun d M1 H1 x q1 r1 m1 s1 => ?_⟩
  refine ⟨ρ, M1, _, st.trans s1, rs.keep s1.kp, m1, q1, fun ds M2 H2 vs l q2 r2 m2 s2 => ?_⟩
  exact ok (d :: ds) M2 H2 (x :: vs) (by simp [l]) q2 (RepL.cons.mpr ⟨x, vs, rfl, RepD.keep s2.kp _ _ r1, r2⟩) m2 (s1.trans s2)
theorem ld_tup {es : List Expr} {n k : Nat} {t : TDA} (h : PA X es (liftA G B n t)) (hn : n ≤ big) : PE X (.Tuple es k pos) (lift G B fun ρ M Q => t ρ M fun ds M1 => Q (.tup ds) M1) := by
  refine (pe_tup h).weak fun σ H Q ⟨ρ, M, Q0, st, rs, rm, q, ok⟩ => ?_
  refine ⟨ρ, M, _, st, rs, rm, q, fun ds M1 H1 vs l q1 r1 m1 s1 => ⟨by rw [← r1.length, l, big_eq]; exact hn, fun p hp => ?_⟩⟩
  exact ok _ _ _ _ q1 (new_tup hp r1) (m1.skip hp) (s1.trans (Step.hid hp))
theorem ld_lst {es : List Expr} {n : Nat} {t : TDA} (h : PA X es (liftA G B n t)) (hn : n ≤ big) : PE X (.List es pos) (lift G B fun ρ M Q => t ρ M fun ds M1 => ∀ p, M1 p = none → Q (.obj p) (mup M1 p (.lst ds))) := by
  refine (pe_lst h).weak fun σ H Q ⟨ρ, M, Q0, st, rs, rm, q, ok⟩ => ?_
  refine ⟨ρ, M, _, st, rs, rm, q, fun ds M1 H1 vs l q1 r1 m1 s1 => ⟨by rw [← r1.length, l, big_eq]; exact hn, fun p hp => ?_⟩⟩
  exact ok _ _ _ _ (q1 p (m1.none hp)) (RepD.obj.mpr rfl) (new_lst m1 hp r1) (s1.trans (Step.new' hp))

/-! ### truth, and, or, not, if -/
theorem tru_ok' {H : Hp} {M : Mem} {d : D} {v : V} {Q0 : Bool → Mem → Prop} (C : CtxK X G N sc) (r : RepD G.K H d v) (m : RepM G H M) (h : vTru d M Q0) : ∃ k, TruV X.K v H k ∧ Q0 k M := tru_rep C.eK r m h
theorem ld_and {rest : List Expr} (C : CtxK X G N sc) (ha : PE X a (lift G B ta)) (hb : PE X (.BoolOp .And (b :: rest) pos) (lift G B tb)) :
    PE X (.BoolOp .And (a :: b :: rest) pos) (lift G B fun ρ M Q => ta ρ M fun d M1 => vTru d M1 fun k M2 => if k = true then tb ρ M2 Q else Q d M2) := by
  refine (pe_andT ha hb).weak fun σ H Q ⟨ρ, M, Q0, st, rs, rm, q, ok⟩ => ?_
  refine ⟨ρ, M, _, st, rs, rm, q, fun d M1 H1 x q1 r1 m1 s1 => ?_⟩
  obtain ⟨k, hk, q2⟩ := tru_ok' C r1 m1 q1
  refine ⟨k, hk, ?_⟩
  cases k with
  | true => exact ⟨ρ, M1, Q0, st.trans s1, rs.keep s1.kp, m1, q2, ok.on s1⟩
  | false => exact ok _ _ _ _ q2 r1 m1 s1
theorem ld_or {rest : List Expr} (C : CtxK X G N sc) (ha : PE X a (lift G B ta)) (hb : PE X (.BoolOp .Or (b :: rest) pos) (lift G B tb)) :
    PE X (.BoolOp .Or (a :: b :: rest) pos) (lift G B fun ρ M Q => ta ρ M fun d M1 => vTru d M1 fun k M2 => if k = false then tb ρ M2 Q else Q d M2) := by
  refine (pe_orT ha hb).weak fun σ H Q ⟨ρ, M, Q0, st, rs, rm, q, ok⟩ => ?_
  refine ⟨ρ, M, _, st, rs, rm, q, fun d M1 H1 x q1 r1 m1 s1 => ?_⟩
  obtain ⟨k, hk, q2⟩ := tru_ok' C r1 m1 q1
  refine ⟨k, hk, ?_⟩
  cases k with
  | false => exact ⟨ρ, M1, Q0, st.trans s1, rs.keep s1.kp, m1, q2, ok.on s1⟩
  | true => exact ok _ _ _ _ q2 r1 m1 s1
theorem ld_one {op : BoolOp} (ha : PE X a (lift G B ta)) : PE X (.BoolOp op [a] pos) (lift G B ta) := pe_one ha
theorem ld_not (C : CtxK X G N sc) (ha : PE X a (lift G B ta)) : PE X (.UnaryOp .Not a pos) (lift G B fun ρ M Q => ta ρ M fun d M1 => vTru d M1 fun b M2 => Q (.bl (!b)) M2) := by
  refine (pe_notT ha).weak fun σ H Q ⟨ρ, M, Q0, st, rs, rm, q, ok⟩ => ?_
  refine ⟨ρ, M, _, st, rs, rm, q, fun d M1 H1 x q1 r1 m1 s1 => ?_⟩
  obtain ⟨k, hk, q2⟩ := tru_ok' C r1 m1 q1
  exact ⟨k, hk, ok _ _ _ _ q2 (RepD.bl.mpr rfl) m1 s1⟩
/-- the test of a term -/
def tstD (t : TD) : TDT := fun ρ M Q => t ρ M fun d M1 => vTru d M1 Q
theorem lt_val (C : CtxK X G N sc) (ha : PE X a (lift G B ta)) (he : truE a = true) : PT X a (liftT G B (tstD ta)) := by
  refine (pt_truth ha (fun wh => tru_plain he _ wh)).weak fun σ H Q ⟨ρ, M, Q0, st, rs, rm, q, ok⟩ => ?_
  refine ⟨ρ, M, _, st, rs, rm, q, fun d M1 H1 x q1 r1 m1 s1 => ?_⟩
  obtain ⟨k, hk, q2⟩ := tru_ok' C r1 m1 q1
  exact ⟨k, hk, ok _ _ _ q2 m1 s1⟩
theorem lt_cmp {op : CmpOp} {r : R2D} (hr : ∀ d e M Q, r d e M (fun z M' => vTru z M' Q) → r d e M (fun z M' => ∃ k, z = .bl k ∧ Q k M')) (ho : OpR X (compareOp op) (lift2 G r)) (ha : PE X a (lift G B ta)) (hb : PE X b (lift G B tb)) (hp : plainE b = true) :
    PT X (.Compare a [op] [b] pos) (liftT G B (tstD fun ρ M Q => ta ρ M fun d M1 => tb ρ M1 fun e M2 => r d e M2 Q)) := by
  refine (pt_cmpR ho ha hb (behind_plain hp _)).weak fun σ H Q ⟨ρ, M, Q0, st, rs, rm, q, ok⟩ => ?_
  refine ⟨ρ, M, _, st, rs, rm, q, fun d M1 H1 x q1 r1 m1 s1 => ?_⟩
  refine ⟨ρ, M1, _, st.trans s1, rs.keep s1.kp, m1, q1, fun e M2 H2 y q2 r2 m2 s2 => ?_⟩
  refine ⟨d, e, M2, _, RepD.keep s2.kp _ _ r1, r2, m2, hr _ _ _ _ q2, fun z M3 H3 w q3 r3 m3 s3 => ?_⟩
  obtain ⟨k, rfl, q3⟩ := q3
  rw [RepD.bl] at r3
  exact ⟨k, r3, ok _ _ _ q3 m3 ((s1.trans s2).trans s3)⟩
theorem lt_chn {op op' : CmpOp} {r r' : R2D} (hr' : ∀ d e M Q, r' d e M (fun z M' => vTru z M' Q) → r' d e M (fun z M' => ∃ k, z = .bl k ∧ Q k M')) (ho : OpR X (compareOp op) (lift2 G r)) (ho' : OpR X (compareOp op') (lift2 G r')) (ha : PE X a (lift G B ta)) (hb : PE X b (lift G B tb)) (hc : PE X c (lift G B tc)) (hp : plainE c = true) :
    PT X (.Compare a [op, op'] [b, c] pos) (liftT G B (tstD fun ρ M Q => ta ρ M fun d M1 => tb ρ M1 fun e M2 => r d e M2 fun z M3 => match z with
      | .bl true => tc ρ M3 fun f M4 => r' e f M4 Q
      | .bl false => Q (.bl false) M3
      | _ => False)) := by
  refine (pt_chain ho ho' ha hb hc (behind_plain hp _)).weak fun σ H Q ⟨ρ, M, Q0, st, rs, rm, q, ok⟩ => ?_
  refine ⟨ρ, M, _, st, rs, rm, q, fun d M1 H1 x q1 r1 m1 s1 => ?_⟩
  refine ⟨ρ, M1, _, st.trans s1, rs.keep s1.kp, m1, q1, fun e M2 H2 y q2 r2 m2 s2 => ?_⟩
  refine ⟨d, e, M2, _, RepD.keep s2.kp _ _ r1, r2, m2, q2, fun z M3 H3 w q3 r3 m3 s3 => ?_⟩
  split at q3
  · rw [RepD.bl] at r3; subst r3
    refine ⟨true, rfl, ?_⟩
    refine ⟨ρ, M3, _, st.trans ((s1.trans s2).trans s3), rs.keep ((s1.trans s2).trans s3).kp, m3, q3, fun f M4 H4 u q4 r4 m4 s4 => ?_⟩
    refine ⟨e, f, M4, _, RepD.keep (s3.trans s4).kp _ _ r2, r4, m4, hr' _ _ _ _ q4, fun z M5 H5 w q5 r5 m5 s5 => ?_⟩
    obtain ⟨k, rfl, q5⟩ := q5
    rw [RepD.bl] at r5
    exact ⟨k, r5, ok _ _ _ q5 m5 ((((s1.trans s2).trans s3).trans s4).trans s5)⟩
  · rw [RepD.bl] at r3; subst r3
    exact ⟨false, rfl, false, rfl, ok _ _ _ q3 m3 ((s1.trans s2).trans s3)⟩
  · exact q3.elim
theorem lt_not {t : TDT} (ha : PT X a (liftT G B t)) : PT X (.UnaryOp .Not a pos) (liftT G B fun ρ M Q => t ρ M fun b M1 => Q (!b) M1) := by
  refine (pt_not ha).weak fun σ H Q ⟨ρ, M, Q0, st, rs, rm, q, ok⟩ => ?_
  exact ⟨ρ, M, _, st, rs, rm, q, fun b M1 H1 q1 m1 s1 => ok _ _ _ q1 m1 s1⟩
theorem lw_one {op : BoolOp} {t : TDT} (ha : PT X a (liftT G B t)) : PW X (.BoolOp op [a] pos) (liftT G B t) := by
  cases op with
  | And => exact pw_and1 ha
  | Or => exact pw_or1 ha
theorem lw_and {rest : List Expr} {t u : TDT} (ha : PT X a (liftT G B t)) (hb : PW X (.BoolOp .And (b :: rest) pos) (liftT G B u)) :
    PW X (.BoolOp .And (a :: b :: rest) pos) (liftT G B fun ρ M Q => t ρ M fun k M1 => if k = true then u ρ M1 Q else Q false M1) := by
  refine (pw_and ha hb).weak fun σ H Q ⟨ρ, M, Q0, st, rs, rm, q, ok⟩ => ?_
  refine ⟨ρ, M, _, st, rs, rm, q, fun k M1 H1 q1 m1 s1 => ?_⟩
  cases k with
  | true => exact ⟨ρ, M1, Q0, st.trans s1, rs.keep s1.kp, m1, q1, ok.on s1⟩
  | false => exact ok _ _ _ q1 m1 s1
theorem lw_or {rest : List Expr} {t u : TDT} (ha : PT X a (liftT G B t)) (hb : PW X (.BoolOp .Or (b :: rest) pos) (liftT G B u)) :
    PW X (.BoolOp .Or (a :: b :: rest) pos) (liftT G B fun ρ M Q => t ρ M fun k M1 => if k = false then u ρ M1 Q else Q true M1) := by
  refine (pw_or ha hb).weak fun σ H Q ⟨ρ, M, Q0, st, rs, rm, q, ok⟩ => ?_
  refine ⟨ρ, M, _, st, rs, rm, q, fun k M1 H1 q1 m1 s1 => ?_⟩
  cases k with
  | false => exact ⟨ρ, M1, Q0, st.trans s1, rs.keep s1.kp, m1, q1, ok.on s1⟩
  | true => exact ok _ _ _ q1 m1 s1
theorem ld_ite {t : TDT} (hc : PT X c (liftT G B t)) (ha : PE X a (lift G B ta)) (hb : PE X b (lift G B tb)) :
    PE X (.IfExp c a b pos) (lift G B fun ρ M Q => t ρ M fun k M1 => if k = true then ta ρ M1 Q else tb ρ M1 Q) := by
  refine (pe_ifExp hc ha hb).weak fun σ H Q ⟨ρ, M, Q0, st, rs, rm, q, ok⟩ => ?_
  refine ⟨ρ, M, _, st, rs, rm, q, fun k M1 H1 q1 m1 s1 => ?_⟩
  cases k with
  | true => exact ⟨ρ, M1, Q0, st.trans s1, rs.keep s1.kp, m1, q1, ok.on s1⟩
  | false => exact ⟨ρ, M1, Q0, st.trans s1, rs.keep s1.kp, m1, q1, ok.on s1⟩

/-! ### slices -/
def liftO (G : Cfg) (B : Bs) (t : En → Mem → (Option Int → Mem → Prop) → Prop) : TO := fun σ H Q => ∃ ρ M Q0, Step B.H B.M H M ∧ RepS G.K H ρ σ ∧ RepM G H M ∧ t ρ M Q0 ∧ ∀ o M' H', Q0 o M' → RepM G H' M' → Step H M H' M' → Q o H'
theorem lo_none : PO X none (liftO G B (optI fun _ M Q => Q [] M)) := by
  refine ⟨fun pins s σ H Q I ⟨ρ, M, Q0, st, rs, rm, q, ok⟩ => po_none.run pins s σ H Q I (ok none M H q rm Step.rfl')⟩
theorem lo_some (ha : PE X a (lift G B ta)) : PO X (some a) (liftO G B (optI fun ρ M Q => ta ρ M fun d M1 => Q [d] M1)) := by
  refine ⟨fun pins s σ H Q I ⟨ρ, M, Q0, st, rs, rm, q, ok⟩ => (po_some ha).run pins s σ H Q I ⟨ρ, M, _, st, rs, rm, q, fun d M1 H1 x q1 r1 m1 s1 => ?_⟩⟩
  try dsimp only at q1
  split at q1
  · rename_i h; cases h
  · rename_i i h
    cases h
    rw [RepD.int] at r1
    exact ⟨i, r1, ok _ _ _ q1 m1 s1⟩
  · exact q1.elim
theorem ld_slc {r : RSD} {lo hi : Option Expr} {p2 : Pos} {tl th : En → Mem → (Option Int → Mem → Prop) → Prop} (hr : SlR X (liftSl G r)) (ha : PE X a (lift G B ta)) (hl : PO X lo (liftO G B tl)) (hh : PO X hi (liftO G B th)) :
    PE X (.Subscript a (.Slice lo hi none p2) pos) (lift G B fun ρ M Q => ta ρ M fun d M1 => tl ρ M1 fun l M2 => th ρ M2 fun u M3 => r d l u M3 Q) := by
  refine (pe_slice hr ha hl hh).weak fun σ H Q ⟨ρ, M, Q0, st, rs, rm, q, ok⟩ => ?_
  refine ⟨ρ, M, _, st, rs, rm, q, fun d M1 H1 x q1 r1 m1 s1 => ?_⟩
  refine ⟨ρ, M1, _, st.trans s1, rs.keep s1.kp, m1, q1, fun l M2 H2 q2 m2 s2 => ?_⟩
  refine ⟨ρ, M2, _, (st.trans s1).trans s2, rs.keep (s1.trans s2).kp, m2, q2, fun u M3 H3 q3 m3 s3 => ?_⟩
  exact ⟨d, M3, Q0, RepD.keep (s2.trans s3).kp _ _ r1, m3, q3, ok.on ((s1.trans s2).trans s3)⟩

/-! ### fields -/
theorem rep_fld {H : Hp} {fs : List D} {fv : List (Str × V)} {ns : List Str} {i : Nat} {f : Str} {d : D} (nd : ns.Nodup) (hf : ns[i]? = some f) (hn : fv.map (·.1) = ns.take fs.length) (r : RepL G.K H fs (fv.map (·.2))) (e : fs[i]? = some d) :
    ∃ v, fv.lookup f = some v ∧ RepD G.K H d v := by
  obtain ⟨v, ev, rv⟩ := r.get e
  refine ⟨v, ?_, rv⟩
  have hi : i < fs.length := (List.getElem?_eq_some_iff.mp e).1
  have e1 : (fv.map (·.1))[i]? = some f := by rw [hn, List.getElem?_take_of_lt hi]; exact hf
  rw [List.getElem?_map] at e1 ev
  cases q : fv[i]? with
  | none => rw [q] at e1; cases e1
  | some p =>
    rw [q] at e1 ev
    simp only [Option.map_some, Option.some.injEq] at e1 ev
    obtain ⟨x, y⟩ := p
    simp only at e1 ev
    subst e1 ev
    have nd2 : (fv.map (·.1)).Nodup := by rw [hn]; exact nd.sublist (List.take_sublist _ _)
    clear hn r hf e rv hi
    induction fv generalizing i with
    | nil => simp at q
    | cons z zs ih =>
      obtain ⟨zk, zv⟩ := z
      rw [List.map_cons, List.nodup_cons] at nd2
      cases i with
      | zero => simp at q; obtain ⟨rfl, rfl⟩ := q; simp [List.lookup]
      | succ j =>
        simp only [List.getElem?_cons_succ] at q
        have : x ≠ zk := fun h => nd2.1 (by rw [← h]; exact List.mem_map.mpr ⟨(x, y), List.mem_of_getElem? q, rfl⟩)
        rw [List.lookup_cons]
        have h2 : (x == zk) = false := by simp [this]
        rw [h2]
        exact ih q nd2.2
theorem ld_fld {ci : Str × List Str} {k i : Nat} {f : Str} (C : CtxK X G N sc) (hci : G.ct[k]? = some ci) (hk : ClsOk G ci) (hf : ci.2[i]? = some f) (ha : PE X a (lift G B ta)) (hr : recvE a = true) :
    PE X (.Attribute a f pos) (lift G B fun ρ M Q => ta ρ M fun d M1 => match d with
      | .obj p => match M1 p with
        | some (.ins c' fs) => c' = k ∧ match fs[i]? with
          | some x => Q x M1
          | none => False
        | _ => False
      | _ => False) := by
  refine (pe_fld ha (base_plain hr _ _ _)).weak fun σ H Q ⟨ρ, M, Q0, st, rs, rm, q, ok⟩ => ?_
  refine ⟨ρ, M, _, st, rs, rm, q, fun d M1 H1 x q1 r1 m1 s1 => ?_⟩
  try dsimp only at q1
  split at q1
  · rename_i p
    rw [RepD.obj] at r1; subst r1
    split at q1
    · rename_i c' fs e
      obtain ⟨rfl, q1⟩ := q1
      split at q1
      · rename_i z ez
        obtain ⟨ho, h1, ci', C', dx, fv, h2, h3, rfl, h4, h5⟩ := m1 p _ e
        rw [hci] at h2; cases h2
        obtain ⟨C2, g1, g2, g3⟩ := hk.cls
        rw [h3] at g1; cases g1
        obtain ⟨v, ev, rv⟩ := rep_fld hk.nd hf h4 h5 ez
        exact ⟨p, C', dx, fv, v, rfl, h1, by rw [C.eK]; exact g2, by rw [C.eK]; exact g3 f (List.mem_of_getElem? hf), ev, ok _ _ _ _ q1 rv m1 s1⟩
      · exact q1.elim
    · exact q1.elim
  · exact q1.elim
end
end DL
set_option Elab.async false
set_option linter.all false
set_option maxRecDepth 100000
/-! DL7: calls, walks, comprehensions of the small language. -/
namespace DL
open PySem PySem.Spec PyProof.Rows L2

/-! ### the defs that are called -/
def Cal.Ok (P : Program) (w : World) (G : Cfg) (base : Heap) (c : Cal) : Prop := match c.kind with
  | .fn => ∃ f fd ps, G.mg c.nm = some (.ref f) ∧ PySem.W.keepIn G.K (.ref f) = true ∧ Binds G.K fd ps [] ∧ ps.length = c.ar ∧ FnOk P w G.K G.mg base (CX P w) c.lev f fd ps (liftSp G c.ar c.sp)
  | .me k => ∃ ci C f fd ps, G.ct[k]? = some ci ∧ G.mg ci.1 = some (.ref C) ∧ Cls G.K C ∧ Meth G.K C c.nm f ∧ c.nm ∉ ci.2 ∧ Binds G.K fd ps [] ∧ ps.length = c.ar ∧ FnOk P w G.K G.mg base (CX P w) c.lev f fd ps (liftSp G c.ar c.sp)
  | .mk k => ∃ ci C f fd ps, G.ct[k]? = some ci ∧ ci.1 = c.nm ∧ G.mg ci.1 = some (.ref C) ∧ Mk G.K C f ∧ Binds G.K fd ps [] ∧ ps.length = c.ar ∧ FnOk P w G.K G.mg base (CX P w) c.lev f fd ps (liftSp G c.ar c.sp)
/-- the room that a call needs -/
def Cal.need (c : Cal) : Nat := match c.kind with
  | .mk _ => c.lev + 1
  | _ => c.lev

section
variable {X : Cx} {G : Cfg} {N : List Str} {sc : Scope} {B : Bs} {W : WD} {pos : Pos} {a b c : Expr} {ta tb tc : TD} {x : Str} {p apos : Pos} {es : List Expr} {n : Nat} {t : TDA}
/-- a callee's promise at a call -/
theorem sp_at {c : Cal} {ρ : En} {M : Mem} {Q0 : DK} {ds : List D} {vs : List V} {H1 : Hp} {σ : L2.St} {Q : VK} (st : Step B.H B.M H1 M) (rs : RepS G.K H1 ρ σ) (l : ds.length = c.ar) (r : RepL G.K H1 ds vs) (m : RepM G H1 M)
    (q : c.sp ds M Q0 fun x M' => W x ρ M') (ok : OkK G H1 M Q0 Q) : liftSp G c.ar c.sp vs H1 Q (WE (liftW G B W) σ) :=
  ⟨ds, M, Q0, _, l, r, m, q, ok, fun x M' H' cls dx w rx rm s => ⟨x, ρ, M', st.trans s, rx, rs.keep s.kp, rm, w⟩⟩
theorem run_makeS {C f : Addr} {CX : CXT} {k : Nat} {fd : FuncData} {ps : List Str} {sp : Sp} {E : L2.St → XK} {pins : List (Addr × Obj)} {σ : L2.St} {H : Hp} {s : Shared} {Q : VK} {us : List Value} {vs : List V} (M : Mk X.K C f) (F : FnOk X.prog X.w X.K X.mg X.base CX k f fd ps sp) (hr : Room (k + 1) X.A) (hb : Binds X.K fd ps [])
    (hx : ∀ (H' : Hp) (s s' : Shared) (e : Value), Inv X pins σ H' s → CX X.stack H' s (E σ) e s' → X.xe e s') (I : Inv X pins σ H s) (r : Vals vs us)
    (h : ∀ x dx, H x = none → H dx = none → dx ≠ x → sp (.ref x :: vs) (upd (upd H dx (.own x)) x (.ins C dx [])) (fun v H2 => v = .non ∧ Q (.ref x) H2) (E σ)) :
    wpAny (model X.prog X.w) X.A (call (.ref C) us) (EP X pins σ Q) X.xe s := by
  have hq := h (s.heap.objs.size + 1) s.heap.objs.size (I.hok.fresh (Nat.le_succ _)) (I.hok.fresh (Nat.le_refl _)) (Nat.ne_of_lt (Nat.lt_succ_self _))
  have I2 := Inv.made (C := C) I
  have r2 : Vals (V.ref (s.heap.objs.size + 1) :: vs) (Value.ref (s.heap.objs.size + 1) :: us) := .cons rfl r
  have hl : (Value.ref (s.heap.objs.size + 1) :: us).length = ps.length := by
    have e := r2.length
    rw [F.len _ _ _ _ hq] at e
    exact e.symm
  have hb2 := hb _ (Value.ref (s.heap.objs.size + 1) :: us) I2.kIn (by rw [List.append_nil]; exact hl)
  rw [List.append_nil] at hb2
  refine wpAny_call (make_map (f := f) I.kIn M.makes M.init (beq_iff_eq.mp M.fn) (codeAny_mono (F.run _ X.stack _ _ ⟨Value.ref (s.heap.objs.size + 1) :: us, []⟩ (Value.ref (s.heap.objs.size + 1) :: us) _ _ (E σ) (hr.make C us [])
    (I2.env0.make C us []) hb2 r2 hq) fun r s' hq' => ?_))
  cases r with
  | error e => exact hx _ _ s' e I2 hq'
  | ok fl =>
    cases fl with
    | ret u =>
      obtain ⟨v, H', I3, rv, ev, q3⟩ := I2.after hq'
      subst ev
      exact ⟨rv, ⟨V.ref (s.heap.objs.size + 1), H', I3, rfl, q3⟩⟩
    | next => exact False.elim hq'
    | brk => exact False.elim hq'
    | cont => exact False.elim hq'

theorem ld_call0 {k : Nat} {cl : Cal} (C : CtxK X G N sc) (hk : cl.kind = .fn) (F : cl.Ok X.prog X.w G X.base) (ha : cl.ar = 0) (hr : Room cl.need X.A) (tk : Takes X (liftW G B W)) (hg : Gl X cl.nm) (hdb : (cl.nm == ("__debug__" : Str)) = false) :
    PE X (.Call (.Name cl.nm p) [] [] pos) (lift G B fun ρ M Q => cl.sp [] M Q fun x M' => W x ρ M') := by
  unfold Cal.Ok at F
  unfold Cal.need at hr
  rw [hk] at F hr
  obtain ⟨f, fd, ps, h1, h2, h3, h4, h5⟩ := F
  refine ⟨fun pins s σ H Q I h => ?_⟩
  obtain ⟨ρ, M, Q0, st, rs, rm, q, ok⟩ := h
  refine wpAny_Call_Name_kw (ld_glob I hg (by rw [C.eM]; exact h1) ?_ hdb)
  refine PySem.W.callWith_K0 I.kIn (by rw [C.eK]; exact h2) ?_
  rw [← C.eK, ← C.eM] at h5
  rw [← C.eK] at h3
  exact run_fnS (us := []) h5 hr h3 (passAt tk σ) I .nil (sp_at st rs (by rw [ha]; rfl) (RepL.nil.mpr rfl) rm q ok)
theorem ld_callN {e : Expr} {cl : Cal} (C : CtxK X G N sc) (hk : cl.kind = .fn) (F : cl.Ok X.prog X.w G X.base) (ha : cl.ar = n) (hr : Room cl.need X.A) (tk : Takes X (liftW G B W)) (hg : Gl X cl.nm) (hdb : (cl.nm == ("__debug__" : Str)) = false)
    (hp : plainEs (e :: es) = true) (hA : PA X (e :: es) (liftA G B n t)) : PE X (.Call (.Name cl.nm p) (e :: es) [] pos) (lift G B fun ρ M Q => t ρ M fun ds M1 => cl.sp ds M1 Q fun x M' => W x ρ M') := by
  unfold Cal.Ok at F
  unfold Cal.need at hr
  rw [hk] at F hr
  obtain ⟨f, fd, ps, h1, h2, h3, h4, h5⟩ := F
  unfold plainEs at hp
  rw [List.all_cons, Bool.and_eq_true] at hp
  rw [← C.eK, ← C.eM] at h5
  rw [← C.eK] at h3
  refine (pe_callS (E := WE (liftW G B W)) h5 hr hg (by rw [C.eM]; exact h1) (by rw [C.eK]; exact h2) h3 (fun σ => passAt tk σ) hA hdb (star_plain hp.1 _ _) (any_plain hp.2 _ _)).weak fun σ H Q ⟨ρ, M, Q0, st, rs, rm, q, ok⟩ => ?_
  refine ⟨ρ, M, _, st, rs, rm, q, fun ds M1 H1 vs l q1 r1 m1 s1 => ?_⟩
  have z := sp_at (W := W) (σ := σ) (c := cl) (Q := Q) (st.trans s1) (rs.keep s1.kp) (by rw [l, ha]) r1 m1 q1 (ok.on s1)
  exact z
/-- o.m(..) as the machine does it -/
def plainOf (o : Expr) (env : Env) : Sem Bool := do return (← importBound o env).getD true
theorem mcall_line {o : Expr} {m : Str} {env : Env} {ov : Value} {k : Nat} {args : List (Bool × Sem Value)} {kws : List (Option Str × Sem Value)} (hf : methodCallForm k args kws = true) (hl : (apos.endLine == pos.line) = true) :
    methodCall o m apos pos env ov k args kws = (do
      let (f, first) ← holding [ov] (getMethod ov m (plainOf o env))
      callWith pos f first args kws) := by
  have e1 : calleeOf (methodCallForm k args kws) o env ov m = getMethod ov m (plainOf o env) := by
    rw [hf] <;> rfl
  have e2 : methodCallPos (methodCallForm k args kws) o env apos pos = pure pos := by
    unfold methodCallPos
    exact if_pos (by rw [hl, Bool.or_true])
  unfold methodCall
  rw [e1, e2]
  first
    | rfl
    | simp only [pure_bind]
theorem few_plain (hp : plainEs es = true) (hl : es.length < 29) (env : Env) : methodCallForm (es.length + ([] : List Keyword).length) (backTo pos (starEach es env)) (backToKw pos (keywordEach [] env)) = true := by
  unfold methodCallForm
  rw [all_plain hp]
  show (true && true && decide (es.length + 0 + 0 < 30)) = true
  rw [decide_eq_true (by omega)]; rfl
theorem eval_meth {o : Expr} {m : Str} {env : Env} (hr : recvE o = true) (hp : plainEs es = true) (hn : es.length < 29) (hl : (apos.endLine == pos.line) = true) : eval (.Call (.Attribute o m apos) es [] pos) env = (do
      let ov ← eval o env
      standAt apos.atName
      let (f, first) ← holding [ov] (getMethod ov m (plainOf o env))
      callWith pos f first (backTo pos (starEach es env)) (backToKw pos (keywordEach [] env))) := by
  rw [arm_eval_Call, base_plain hr]
  exact congrArg (fun f => eval o env >>= f) (funext fun ov => congrArg (fun g => standAt apos.atName >>= g) (funext fun _ => mcall_line (few_plain hp hn env) hl))
/-- the receiver is an own instance -/
def onIns (k : Nat) (d : D) (M : Mem) (R : Prop) : Prop := match d with
  | .obj p => match M p with
    | some (.ins c' fs) => c' = k ∧ R
    | _ => False
  | _ => False
theorem look_none {fv : List (Str × V)} {ns : List Str} {m : Str} {k : Nat} (h : fv.map (·.1) = ns.take k) (hm : m ∉ ns) : fv.lookup m = none := by
  have h2 : m ∉ fv.map (·.1) := by rw [h]; exact fun z => hm (List.mem_of_mem_take z)
  clear h
  induction fv with
  | nil => rfl
  | cons z zs ih =>
    obtain ⟨zk, zv⟩ := z
    rw [List.map_cons, List.mem_cons, not_or] at h2
    rw [List.lookup_cons]
    have : (m == zk) = false := by simp [h2.1]
    rw [this]
    exact ih h2.2
theorem ld_methN {o e : Expr} {cl : Cal} {k : Nat} (C : CtxK X G N sc) (hk : cl.kind = .me k) (F : cl.Ok X.prog X.w G X.base) (ha : cl.ar = n + 1) (hr : Room cl.need X.A) (tk : Takes X (liftW G B W))
    (ho : PE X o (lift G B ta)) (hre : recvE o = true) (hp : plainEs (e :: es) = true) (hA : PA X (e :: es) (liftA G B n t)) (hn : (e :: es).length < 29) (hl : (apos.endLine == pos.line) = true) :
    PE X (.Call (.Attribute o cl.nm apos) (e :: es) [] pos) (lift G B fun ρ M Q => ta ρ M fun d M1 => onIns k d M1 (t ρ M1 fun ds M2 => cl.sp (d :: ds) M2 Q fun x M' => W x ρ M')) := by
  unfold Cal.Ok at F
  unfold Cal.need at hr
  rw [hk] at F hr
  obtain ⟨ci, CC, f, fd, ps, g1, g2, g3, g4, g5, h3, h4, h5⟩ := F
  have hp' := hp
  unfold plainEs at hp
  rw [List.all_cons, Bool.and_eq_true] at hp
  rw [← C.eK, ← C.eM] at h5
  rw [← C.eK] at h3 g3 g4
  refine ⟨fun pins s σ H Q I h => ?_⟩
  obtain ⟨ρ, M, Q0, st, rs, rm, q, ok⟩ := h
  refine PySem.W.methodCall_KW (pl := plainOf o X.env) (thn (ho.run pins s σ H (fun v H1 => ∃ d M1, t ρ M1 (fun ds M2 => cl.sp (d :: ds) M2 Q0 fun x M' => W x ρ M') ∧ RepD G.K H1 d v ∧ RepM G H1 M1 ∧ Step H M H1 M1 ∧ ∃ pa fs, d = .obj pa ∧ M1 pa = some (.ins k fs)) I ⟨ρ, M, _, st, rs, rm, q, fun d M1 H1 x q1 r1 m1 s1 => ?_⟩) fun u s1 hu => ?_) (eval_meth hre hp' hn hl)
  · unfold onIns at q1
    split at q1
    · rename_i pa
      split at q1
      · rename_i c' fs e
        obtain ⟨rfl, q1⟩ := q1
        exact ⟨_, M1, q1, r1, m1, s1, pa, fs, rfl, e⟩
      · exact q1.elim
    · exact q1.elim
  · obtain ⟨v, H1, I1, rx, d, M1, q1, r1, m1, s1', pa, fs, rfl, em⟩ := hu
    rw [RepD.obj] at r1; subst r1
    obtain rfl : u = Value.ref pa := rx
    obtain ⟨hob, e1, ci', C', dx, fv, e2, e3, rfl, e4, e5⟩ := m1 pa _ em
    rw [g1] at e2; cases e2
    rw [g2] at e3; cases e3
    refine getmeth_ok I1 e1 g3 g4 (look_none e4 g5) ?_
    refine PySem.W.callWith_K (first := [.ref pa]) (h₀ := X.base) I.ok.mod.kin g4.kp (thn (hA.run pos pins s1 σ H1 (fun vs H2 => liftSp G cl.ar cl.sp (.ref pa :: vs) H2 Q (WE (liftW G B W) σ)) I1 ⟨ρ, M1, _, st.trans s1', rs.keep s1'.kp, m1, q1, fun ds M2 H2 vs l q2 r2 m2 s2 => ?_⟩) fun us s2 ⟨vs, H2, I2, r, q2⟩ => ⟨I2.kIn, ?_⟩) (star_plain hp.1 _ _) (any_plain hp.2 _ _)
    · exact sp_at ((st.trans s1').trans s2) ((rs.keep s1'.kp).keep s2.kp) (by simp [l, ha]) (RepL.cons.mpr ⟨_, _, rfl, RepD.obj.mpr rfl, r2⟩) m2 q2 (ok.on (s1'.trans s2))
    · exact run_fnS (us := .ref pa :: us) (vs := .ref pa :: vs) h5 hr h3 (passAt tk σ) I2 (.cons rfl r) q2
theorem ld_meth0 {o : Expr} {cl : Cal} {k : Nat} (C : CtxK X G N sc) (hk : cl.kind = .me k) (F : cl.Ok X.prog X.w G X.base) (ha : cl.ar = 1) (hr : Room cl.need X.A) (tk : Takes X (liftW G B W))
    (ho : PE X o (lift G B ta)) (hre : recvE o = true) (hl : (apos.endLine == pos.line) = true) :
    PE X (.Call (.Attribute o cl.nm apos) [] [] pos) (lift G B fun ρ M Q => ta ρ M fun d M1 => onIns k d M1 (cl.sp [d] M1 Q fun x M' => W x ρ M')) := by
  unfold Cal.Ok at F
  unfold Cal.need at hr
  rw [hk] at F hr
  obtain ⟨ci, CC, f, fd, ps, g1, g2, g3, g4, g5, h3, h4, h5⟩ := F
  rw [← C.eK, ← C.eM] at h5
  rw [← C.eK] at h3 g3 g4
  refine ⟨fun pins s σ H Q I h => ?_⟩
  obtain ⟨ρ, M, Q0, st, rs, rm, q, ok⟩ := h
  refine PySem.W.methodCall_KW (pl := plainOf o X.env) (thn (ho.run pins s σ H (fun v H1 => ∃ d M1, cl.sp [d] M1 Q0 (fun x M' => W x ρ M') ∧ RepD G.K H1 d v ∧ RepM G H1 M1 ∧ Step H M H1 M1 ∧ ∃ pa fs, d = .obj pa ∧ M1 pa = some (.ins k fs)) I ⟨ρ, M, _, st, rs, rm, q, fun d M1 H1 x q1 r1 m1 s1 => ?_⟩) fun u s1 hu => ?_) (eval_meth hre rfl (by decide) hl)
  · unfold onIns at q1
    split at q1
    · rename_i pa
      split at q1
      · rename_i c' fs e
        obtain ⟨rfl, q1⟩ := q1
        exact ⟨_, M1, q1, r1, m1, s1, pa, fs, rfl, e⟩
      · exact q1.elim
    · exact q1.elim
  · obtain ⟨v, H1, I1, rx, d, M1, q1, r1, m1, s1', pa, fs, rfl, em⟩ := hu
    rw [RepD.obj] at r1; subst r1
    obtain rfl : u = Value.ref pa := rx
    obtain ⟨hob, e1, ci', C', dx, fv, e2, e3, rfl, e4, e5⟩ := m1 pa _ em
    rw [g1] at e2; cases e2
    rw [g2] at e3; cases e3
    refine getmeth_ok I1 e1 g3 g4 (look_none e4 g5) ?_
    refine PySem.W.callWith_K0 (first := [.ref pa]) I1.kIn g4.kp ?_
    have z := sp_at (W := W) (B := B) (σ := σ) (c := cl) (Q := Q) (vs := [.ref pa]) (st.trans s1') (rs.keep s1'.kp) (by simp [ha]) (RepL.one (RepD.obj.mpr rfl)) m1 q1 (ok.on s1')
    exact run_fnS (us := [.ref pa]) (vs := [.ref pa]) h5 hr h3 (passAt tk σ) I1 (.cons rfl .nil) z

/-! ### new instances -/
theorem make_ok {cl : Cal} {k : Nat} {σ : L2.St} {H1 : Hp} {ρ : En} {M1 : Mem} {ds : List D} {vs : List V} {Q0 : DK} {Q : VK} {ci : Str × List Str} {CC : Addr} (g1 : G.ct[k]? = some ci) (g2 : G.mg ci.1 = some (.ref CC)) (ha : cl.ar = ds.length + 1) (st : Step B.H B.M H1 M1) (rs : RepS G.K H1 ρ σ) (m1 : RepM G H1 M1) (r1 : RepL G.K H1 ds vs)
    (q1 : ∀ p, M1 p = none → cl.sp (.obj p :: ds) (mup M1 p (.ins k [])) (fun v M2 => match v with
        | .non => Q0 (.obj p) M2
        | _ => False) fun x M' => W x ρ M') (ok : OkK G H1 M1 Q0 Q) (x dx : Addr) (hx : H1 x = none) (hdx : H1 dx = none) (ne : dx ≠ x) :
    liftSp G cl.ar cl.sp (.ref x :: vs) (upd (upd H1 dx (.own x)) x (.ins CC dx [])) (fun v H2 => v = .non ∧ Q (.ref x) H2) (WE (liftW G B W) σ) := by
  have hx' : (upd H1 dx (.own x)) x = none := by rw [upd_ne (Ne.symm ne)]; exact hx
  have s1 : Step H1 M1 (upd (upd H1 dx (.own x)) x (.ins CC dx [])) (mup M1 x (.ins k [])) := (Step.hid hdx).trans (Step.new' hx')
  have m2 : RepM G (upd (upd H1 dx (.own x)) x (.ins CC dx [])) (mup M1 x (.ins k [])) := (m1.skip hdx).new hx' ⟨ci, CC, dx, [], g1, g2, rfl, rfl, RepL.nil.mpr rfl⟩
  have z := sp_at (W := W) (B := B) (σ := σ) (c := cl) (ρ := ρ) (Q := fun v H2 => v = .non ∧ Q (.ref x) H2) (vs := .ref x :: vs) (st.trans s1) (rs.keep s1.kp) (by simp [ha]) (RepL.cons.mpr ⟨_, _, rfl, RepD.obj.mpr rfl, RepL.keep s1.kp _ _ r1⟩) m2 (q1 x (m1.none hx)) (fun d M' H' v q r m s => by
    cases d with
    | non => rw [RepD.non] at r; exact ⟨r, ok _ _ _ _ q (RepD.obj.mpr rfl) m (s1.trans s)⟩
    | _ => exact q.elim)
  exact z
theorem ld_makeN {e : Expr} {cl : Cal} {k : Nat} (C : CtxK X G N sc) (hk : cl.kind = .mk k) (F : cl.Ok X.prog X.w G X.base) (ha : cl.ar = n + 1) (hr : Room cl.need X.A) (tk : Takes X (liftW G B W)) (hg : Gl X cl.nm) (hdb : (cl.nm == ("__debug__" : Str)) = false)
    (hp : plainEs (e :: es) = true) (hA : PA X (e :: es) (liftA G B n t)) :
    PE X (.Call (.Name cl.nm p) (e :: es) [] pos) (lift G B fun ρ M Q => t ρ M fun ds M1 => ∀ p, M1 p = none → cl.sp (.obj p :: ds) (mup M1 p (.ins k [])) (fun v M2 => match v with
        | .non => Q (.obj p) M2
        | _ => False) fun x M' => W x ρ M') := by
  unfold Cal.Ok at F
  unfold Cal.need at hr
  rw [hk] at F hr
  obtain ⟨ci, CC, f, fd, ps, g1, g0, g2, g3, h3, h4, h5⟩ := F
  unfold plainEs at hp
  rw [List.all_cons, Bool.and_eq_true] at hp
  rw [← C.eK, ← C.eM] at h5
  rw [← C.eK] at h3 g3
  refine ⟨fun pins s σ H Q I h => ?_⟩
  obtain ⟨ρ, M, Q0, st, rs, rm, q, ok⟩ := h
  refine wpAny_Call_Name_kw (ld_glob I hg (by rw [C.eM, ← g0]; exact g2) ?_ hdb)
  refine PySem.W.callWith_K (h₀ := X.base) I.ok.mod.kin g3.kp (thn (hA.run pos pins s σ H (fun vs H1 => ∀ x dx, H1 x = none → H1 dx = none → dx ≠ x → liftSp G cl.ar cl.sp (.ref x :: vs) (upd (upd H1 dx (.own x)) x (.ins CC dx [])) (fun v H2 => v = .non ∧ Q (.ref x) H2) (WE (liftW G B W) σ)) I ⟨ρ, M, _, st, rs, rm, q, fun ds M1 H1 vs l q1 r1 m1 s1 => ?_⟩) fun us s1 ⟨vs, H1, I1, r, q⟩ => ⟨I1.kIn, ?_⟩) (star_plain hp.1 _ _) (any_plain hp.2 _ _)
  · exact make_ok g1 g2 (by rw [ha, l]) (st.trans s1) (rs.keep s1.kp) m1 r1 q1 (ok.on s1)
  · exact run_makeS g3 h5 hr h3 (fun H' s s' e I c => passAt tk σ pins H' s e s' I c) I1 r q
theorem ld_make0 {cl : Cal} {k : Nat} (C : CtxK X G N sc) (hk : cl.kind = .mk k) (F : cl.Ok X.prog X.w G X.base) (ha : cl.ar = 1) (hr : Room cl.need X.A) (tk : Takes X (liftW G B W)) (hg : Gl X cl.nm) (hdb : (cl.nm == ("__debug__" : Str)) = false) :
    PE X (.Call (.Name cl.nm p) [] [] pos) (lift G B fun ρ M Q => ∀ p, M p = none → cl.sp [.obj p] (mup M p (.ins k [])) (fun v M2 => match v with
        | .non => Q (.obj p) M2
        | _ => False) fun x M' => W x ρ M') := by
  unfold Cal.Ok at F
  unfold Cal.need at hr
  rw [hk] at F hr
  obtain ⟨ci, CC, f, fd, ps, g1, g0, g2, g3, h3, h4, h5⟩ := F
  rw [← C.eK, ← C.eM] at h5
  rw [← C.eK] at h3 g3
  refine ⟨fun pins s σ H Q I h => ?_⟩
  obtain ⟨ρ, M, Q0, st, rs, rm, q, ok⟩ := h
  refine wpAny_Call_Name_kw (ld_glob I hg (by rw [C.eM, ← g0]; exact g2) ?_ hdb)
  exact PySem.W.callWith_K0 I.kIn g3.kp (run_makeS (us := []) (vs := []) g3 h5 hr h3 (fun H' s s' e I c => passAt tk σ pins H' s e s' I c) I .nil (make_ok (ds := []) g1 g2 ha st rs rm (RepL.nil.mpr rfl) q ok))

/-! ### built-in functions, methods, isinstance -/
def BI.cool : BI → Bool | .min | .max | .sum | .any | .all => false | _ => true
theorem bi_ok (C : CtxK X G N sc) (f : BI) (hc : f.cool = true ∨ X.calm = true) : CallR X f.val (liftC G (biS f)) := by
  cases f with
  | len => exact cd_len C.eK
  | int => exact cd_int
  | str => exact cd_str
  | abs => exact cd_abs
  | min => exact cd_min C.eK (hc.resolve_left (by decide)) C.hu
  | max => exact cd_max C.eK (hc.resolve_left (by decide))
  | sum => exact cd_sum C.eK (hc.resolve_left (by decide))
  | any => exact cd_any C.eK (hc.resolve_left (by decide))
  | all => exact cd_all C.eK (hc.resolve_left (by decide))
  | sorted => exact cd_sorted C.eK
  | list => exact cd_list C.eK
  | tuple => exact cd_tuple C.eK
  | ord => exact cd_ord
theorem ld_bi {e : Expr} (C : CtxK X G N sc) (f : BI) (hco : f.cool = true ∨ X.calm = true) (hg : Gl X f.name) (hf : f.name ∈ G.fb) (hp : plainEs (e :: es) = true) (hA : PA X (e :: es) (liftA G B n t)) :
    PE X (.Call (.Name f.name p) (e :: es) [] pos) (lift G B fun ρ M Q => t ρ M fun ds M1 => biS f ds M1 Q) := by
  unfold plainEs at hp
  rw [List.all_cons, Bool.and_eq_true] at hp
  have hm : X.mg f.name = none := by rw [C.eM]; exact C.fb _ hf
  have go : ∀ (r : List V → Hp → VK → Prop), (∀ σ H Q, lift G B (fun ρ M Q => t ρ M fun ds M1 => biS f ds M1 Q) σ H Q → tCB (liftC G (biS f)) (liftA G B n t) σ H Q) := fun _ σ H Q ⟨ρ, M, Q0, st, rs, rm, q, ok⟩ =>
    ⟨ρ, M, _, st, rs, rm, q, fun ds M1 H1 vs l q1 r1 m1 s1 => ⟨ds, M1, Q0, r1, m1, q1, ok.on s1⟩⟩
  have hc := bi_ok C f hco
  have hb := f.boot
  cases hv : f.val with
  | builtin id =>
    rw [hv] at hc hb
    exact (pe_callB hc hg hm hb hA f.nn f.nd (star_plain hp.1 _ _) (any_plain hp.2 _ _)).weak (go (fun _ _ _ => True))
  | type T =>
    rw [hv] at hc hb
    exact (pe_callTy hc hg hm hb hA f.nn f.nd (star_plain hp.1 _ _) (any_plain hp.2 _ _)).weak (go (fun _ _ _ => True))
  | _ => cases f <;> cases hv
/-- the classes of isinstance -/
def isT (T : String) : Bool := T == "int" || T == "bool" || T == "str" || T == "tuple" || T == "list" || T == "dict"
theorem isT_boot {T : String} (h : isT T = true) : bootBuiltins (PySem.Str.ofString T) = some (.type T) ∧ (PySem.Str.ofString T) ≠ "__name__" ∧ ((PySem.Str.ofString T) == ("__debug__" : Str)) = false := by
  unfold isT at h
  simp only [Bool.or_eq_true, beq_iff_eq] at h
  rcases h with ((((rfl | rfl) | rfl) | rfl) | rfl) | rfl <;> exact ⟨by decide +kernel, by decide +kernel, by decide +kernel⟩
theorem ld_isi {T : String} {p2 : Pos} (C : CtxK X G N sc) (hg : Gl X "isinstance") (hf : ("isinstance" : Str) ∈ G.fb) (hT : isT T = true) (hgT : Gl X (PySem.Str.ofString T)) (hfT : (PySem.Str.ofString T) ∈ G.fb) (ha : PE X a (lift G B ta)) (hp : plainE a = true) :
    PE X (.Call (.Name "isinstance" p) [a, .Name (PySem.Str.ofString T) p2] [] pos) (lift G B fun ρ M Q => ta ρ M fun d M1 => match tyD M1 d with
      | some U => match kitB U T with
        | some r => Q (.bl r) M1
        | none => False
      | none => False) := by
  obtain ⟨b1, b2, b3⟩ := isT_boot hT
  have e2 : PE X (.Name (PySem.Str.ofString T) p2) (tC (.ty T)) := pe_bltn hgT (by rw [C.eM]; exact C.fb _ hfT) b1 rfl b2 b3
  refine (pe_callB call_isiY hg (by rw [C.eM]; exact C.fb _ hf) (by decide +kernel) (pa_cons ha (pa_cons e2 pa_nil (by rfl)) (star_plain hp _ _)) (by decide +kernel) (by decide +kernel) (star_plain hp _ _) (by rfl)).weak fun σ H Q ⟨ρ, M, Q0, st, rs, rm, q, ok⟩ => ?_
  refine ⟨ρ, M, _, st, rs, rm, q, fun d M1 H1 x q1 r1 m1 s1 => ?_⟩
  try dsimp only at q1
  split at q1
  · rename_i U eU
    split at q1
    · rename_i r er
      exact ⟨x, .ty T, .type U, .type T, r, rfl, .ty T, tyD_ok C.eK r1 m1 eU, kit_ty er, ok _ _ _ _ q1 (RepD.bl.mpr rfl) m1 s1⟩
    · exact q1.elim
  · exact q1.elim
/-- a method of a built-in type -/
structure BmOk (X : Cx) (G : Cfg) (f : BM) (id : String) : Prop where
  pa : PlainAttrs f.ty
  slot : Slot f.ty f.name id
  ty : typeOf (.builtin id) = pure (.type "method_descriptor")
  ok : MtR X id (liftM G (bmS f))
theorem bm_ok (C : CtxK X G N sc) (f : BM) : ∃ id, BmOk X G f id := by
  cases f with
  | append => exact ⟨_, PySem.F.plainAttrs_list, PySem.F.slot_list_append, PySem.F.type_list_append, md_append⟩
  | extend => exact ⟨_, PySem.F.plainAttrs_list, PySem.F.slot_list_extend, PySem.F.type_list_extend, md_extend⟩
  | pop => exact ⟨_, PySem.F.plainAttrs_list, PySem.F.slot_list_pop, PySem.F.type_list_pop, md_pop⟩
  | popAt => exact ⟨_, PySem.F.plainAttrs_list, PySem.F.slot_list_pop, PySem.F.type_list_pop, md_popAt⟩
  | insert => exact ⟨_, PySem.F.plainAttrs_list, PySem.F.slot_list_insert, PySem.F.type_list_insert, md_insert⟩
  | index => exact ⟨_, PySem.F.plainAttrs_list, PySem.F.slot_list_index, PySem.F.type_list_index, md_index C.eK⟩
  | join => exact ⟨_, PySem.F.plainAttrs_str, PySem.F.slot_str_join, PySem.F.type_str_join, md_join C.eK⟩
  | icount => exact ⟨_, PySem.F.plainAttrs_list, PySem.F.slot_list_count, PySem.F.type_list_count, md_icount C.eK⟩
theorem recv_ok {H : Hp} {M : Mem} {d : D} {v : V} {T : String} (C : CtxK X G N sc) (r : RepD G.K H d v) (m : RepM G H M) (h : recv T d M) : tyV X.K T v H := by
  unfold recv at h
  split at h
  · rw [RepD.str] at r; subst r; exact h
  · rename_i a
    rw [RepD.obj] at r; subst r
    obtain ⟨rfl, h⟩ := h
    cases e : rdL M a with
    | none => rw [e] at h; cases h
    | some xs =>
      obtain ⟨vs, hp, _⟩ := rdL_ok m e
      exact .inl ⟨rfl, vs, by rw [C.eK]; exact hp⟩
  · exact h.elim
theorem ld_bm0 {o : Expr} (C : CtxK X G N sc) (f : BM) (ho : PE X o (lift G B ta)) (hr : recvE o = true) (hl : (apos.endLine == pos.line) = true) :
    PE X (.Call (.Attribute o f.name apos) [] [] pos) (lift G B fun ρ M Q => ta ρ M fun d M1 => recv f.ty d M1 ∧ bmS f d [] M1 Q) := by
  obtain ⟨id, F⟩ := bm_ok C f
  refine (pe_bm0 F.pa F.slot F.ty F.ok ho (base_plain hr _ _ _) hl).weak fun σ H Q ⟨ρ, M, Q0, st, rs, rm, q, ok⟩ => ?_
  refine ⟨ρ, M, _, st, rs, rm, q, fun d M1 H1 x q1 r1 m1 s1 => ⟨recv_ok C r1 m1 q1.1, d, [], M1, Q0, r1, RepL.nil.mpr rfl, m1, q1.2, ok.on s1⟩⟩
theorem ld_bmN {o e : Expr} (C : CtxK X G N sc) (f : BM) (ho : PE X o (lift G B ta)) (hr : recvE o = true) (hp : plainEs (e :: es) = true) (hA : PA X (e :: es) (liftA G B n t)) (hn : (e :: es).length < 29) (hl : (apos.endLine == pos.line) = true) :
    PE X (.Call (.Attribute o f.name apos) (e :: es) [] pos) (lift G B fun ρ M Q => ta ρ M fun d M1 => recv f.ty d M1 ∧ t ρ M1 fun ds M2 => bmS f d ds M2 Q) := by
  obtain ⟨id, F⟩ := bm_ok C f
  have hp' := hp
  unfold plainEs at hp
  rw [List.all_cons, Bool.and_eq_true] at hp
  refine (pe_bm F.pa F.slot F.ty F.ok ho hA (base_plain hr _ _ _) ?_ hl (star_plain hp.1 _ _) (any_plain hp.2 _ _)).weak fun σ H Q ⟨ρ, M, Q0, st, rs, rm, q, ok⟩ => ?_
  · rw [all_plain hp']
    show (true && true && decide ((e :: es).length + 0 + 0 < 30)) = true
    rw [decide_eq_true (by omega)]; rfl
  · refine ⟨ρ, M, _, st, rs, rm, q, fun d M1 H1 x q1 r1 m1 s1 => ⟨recv_ok C r1 m1 q1.1, ρ, M1, _, st.trans s1, rs.keep s1.kp, m1, q1.2, fun ds M2 H2 vs l q2 r2 m2 s2 => ?_⟩⟩
    exact ⟨d, ds, M2, Q0, RepD.keep s2.kp _ _ r1, r2, m2, q2, ok.on (s1.trans s2)⟩
end
end DL
set_option Elab.async false
set_option linter.all false
set_option maxRecDepth 100000
/-! DL8: walks, targets, comprehensions. -/
namespace DL
open PySem PySem.Spec PyProof.Rows L2

/-- the layer's iterator yields just these items, from a heap on -/
structure ItD (G : Cfg) (H0 : Hp) (J : It) (I : Its) : Prop where
  go : ∀ i H M, Keep H0 H → i < I.xs.length → RepM G H M → I.ok M → J.go i H
  yld : ∀ i H x H' M, Keep H0 H → i < I.xs.length → RepM G H M → I.ok M → J.yld i H x H' → ∃ d, I.xs[i]? = some d ∧ RepD G.K H' d x ∧ RepM G H' M ∧ Step H M H' M
  stop : ∀ H M, Keep H0 H → RepM G H M → I.ok M → J.stop I.xs.length H
def liftI (G : Cfg) (B : Bs) (t : TDI) : TI := fun σ H R => ∃ ρ M R0, Step B.H B.M H M ∧ RepS G.K H ρ σ ∧ RepM G H M ∧ t ρ M R0 ∧ ∀ I M' H' J, R0 I M' → RepM G H' M' → Step H M H' M' → ItD G H' J I → R J H'

section
variable {X : Cx} {G : Cfg} {N : List Str} {sc : Scope} {B : Bs} {W : WD} {pos : Pos} {a b c tg : Expr} {ta tb tc : TD} {x : Str} {p apos : Pos} {es : List Expr} {n : Nat} {t : TDA}

theorem it_list (C : CtxK X G N sc) {l : Addr} {xs : List D} {H0 : Hp} : ItD G H0 (Itl X.K l) ⟨xs, fun M => rdL M l = some xs⟩ where
  go := fun i H M _ hi m ok => by
    obtain ⟨vs, hp, rp⟩ := rdL_ok m ok
    have hi' : i < vs.length := by rw [← rp.length]; exact hi
    exact ⟨vs, vs[i], by rw [C.eK]; exact hp, List.getElem?_eq_getElem hi'⟩
  yld := fun i H x H' M _ hi m ok y => by
    obtain ⟨rfl, y⟩ := y
    obtain ⟨vs, hp, rp⟩ := rdL_ok m ok
    obtain ⟨d, ed, rd⟩ := rp.getV (y vs (by rw [C.eK]; exact hp))
    exact ⟨d, ed, rd, m, Step.rfl'⟩
  stop := fun H M _ m ok => by
    obtain ⟨vs, hp, rp⟩ := rdL_ok m ok
    exact ⟨vs, by rw [C.eK]; exact hp, Nat.le_of_eq rp.length.symm⟩
theorem it_tup (C : CtxK X G N sc) {l : Addr} {xs : List D} {vs : List V} {H0 : Hp} (hp : SqT G.K H0 l vs) (rp : RepL G.K H0 xs vs) : ItD G H0 (Itt X.K l) ⟨xs, fun _ => True⟩ where
  go := fun i H M k hi m ok => by
    have hi' : i < vs.length := by rw [← rp.length]; exact hi
    exact ⟨vs, vs[i], by rw [C.eK]; exact sqT_keep k hp, List.getElem?_eq_getElem hi'⟩
  yld := fun i H x H' M k hi m ok y => by
    obtain ⟨rfl, y⟩ := y
    obtain ⟨d, ed, rd⟩ := rp.getV (y vs (by rw [C.eK]; exact sqT_keep k hp))
    exact ⟨d, ed, RepD.keep k _ _ rd, m, Step.rfl'⟩
  stop := fun H M k m ok => ⟨vs, by rw [C.eK]; exact sqT_keep k hp, Nat.le_of_eq rp.length.symm⟩
theorem it_str {l : List Nat} {H0 : Hp} : ItD G H0 (L2.Its (S l)) ⟨l.map fun c => .str [c], fun _ => True⟩ where
  go := fun i H M k hi m ok => by
    show i < (S l).cps.size
    simpa [S] using hi
  yld := fun i H x H' M k hi m ok y => by
    obtain ⟨rfl, c, ec, rfl⟩ := y
    refine ⟨.str [c], ?_, RepD.str.mpr rfl, m, Step.rfl'⟩
    have : l[i]? = some c := by simpa [S] using ec
    simp [this]
  stop := fun H M k m ok => by
    show (S l).cps.size ≤ _
    simp [S]
theorem it_rng {lo : Int} {k : Nat} {H0 : Hp} {xs : List D} (hx : xs = (List.range k).map fun j => .int (lo + (j : Nat))) : ItD G H0 (Itr lo k) ⟨xs, fun _ => True⟩ where
  go := fun i H M _ hi m ok => by
    subst hx
    show i < k
    simpa using hi
  yld := fun i H x H' M _ hi m ok y => by
    subst hx
    obtain ⟨rfl, rfl⟩ := y
    have hi' : i < k := by simpa using hi
    exact ⟨.int (lo + (i : Nat)), by simp [hi'], RepD.int.mpr rfl, m, Step.rfl'⟩
  stop := fun H M _ m ok => by
    subst hx
    show k ≤ _
    simp

/-- walking a value: list, tuple, text -/
theorem li_of (C : CtxK X G N sc) (ha : PE X a (lift G B ta)) : PI X tg a (liftI G B fun ρ M R => ta ρ M fun d M1 => itsOf d M1 R) := by
  refine ⟨fun pins s σ H R I h => ?_⟩
  obtain ⟨ρ, M, R0, st, rs, rm, q, ok⟩ := h
  refine thn (ha.run pins s σ H (fun v H1 => ∃ d M1, itsOf d M1 R0 ∧ RepD G.K H1 d v ∧ RepM G H1 M1 ∧ Step H M H1 M1) I ⟨ρ, M, _, st, rs, rm, q, fun d M1 H1 x q1 r1 m1 s1 => ⟨d, M1, q1, r1, m1, s1⟩⟩) fun v s1 ⟨x, H1, I1, rx, d, M1, q1, r1, m1, s1'⟩ => ?_
  unfold itsOf at q1
  split at q1
  · rename_i xs
    obtain ⟨l, vs, rfl, hp, rp⟩ := RepD.tup.mp r1
    cases rx
    obtain ⟨its, rv, pp, hz⟩ := I1.tuple (by rw [C.eK]; exact hp)
    refine wpAny_pyIter_tuple (show s1.heap.IsTuple l its.toArray from pp) ?_
    refine ⟨s1.heap.objs.size, [s1.heap.objs.size], _, _, H1, rfl, I1.kept (t' := s1.toks) fun b o e => Heap.get?_push_of_some _ e, turn_tuple l _, ⟨_, Heap.get?_push_size _ rfl, rfl, rfl⟩, fun b hb => ?_, ok _ _ _ _ q1 m1 s1' (it_tup C hp rp)⟩
    have e : b = s1.heap.objs.size := by simpa using hb
    subst e
    exact I1.fpOk (Nat.le_refl _) (I1.hok.fresh (Nat.le_refl _))
  · rename_i l
    rw [RepD.str] at r1; subst r1
    have qq := ok _ _ _ _ q1 m1 s1' (it_str (G := G) (l := l) (H0 := H1))
    obtain ⟨t, rfl⟩ := rx
    cases ha : (S l).cps.all (· < 128)
    · exact wpAny_pyIter_wide ha (pi_one (tk := s1.toks) I1 _ (turn_str _ (S l) t "str_iterator" (.inr rfl)) ⟨_, Heap.get?_push_size _ rfl, rfl, rfl⟩ qq)
    · exact wpAny_pyIter_ascii ha (pi_one (tk := s1.toks) I1 _ (turn_str _ (S l) t "str_ascii_iterator" (.inl rfl)) ⟨_, Heap.get?_push_size _ rfl, rfl, rfl⟩ qq)
  · rename_i l
    rw [RepD.obj] at r1; subst r1
    split at q1
    · rename_i xs e
      cases rx
      obtain ⟨vs, hp, rp⟩ := rdL_ok m1 e
      obtain ⟨its, rv, pp, hz⟩ := I1.list (by rw [C.eK]; exact hp)
      refine wpAny_pyIter_list pp.isList ?_
      refine ⟨s1.heap.objs.size, [s1.heap.objs.size], _, _, H1, rfl, I1.kept (t' := s1.toks) fun b o e => Heap.get?_push_of_some _ e, turn_list l _, ⟨_, Heap.get?_push_size _ rfl, rfl, rfl⟩, fun b hb => ?_, ok _ _ _ _ q1 m1 s1' (it_list C)⟩
      have e : b = s1.heap.objs.size := by simpa using hb
      subst e
      exact I1.fpOk (Nat.le_refl _) (I1.hok.fresh (Nat.le_refl _))
    · exact q1.elim
  · exact q1.elim

theorem li_rng1 (C : CtxK X G N sc) (hg : Gl X "range") (hf : ("range" : Str) ∈ G.fb) (hA : PA X [a] (liftA G B 1 t)) (hp : plainE a = true) :
    PI X tg (.Call (.Name "range" p) [a] [] pos) (liftI G B fun ρ M R => t ρ M fun ds M1 => rngOf ds M1 R) := by
  have z : PI X tg (.Call (.Name "range" p) [a] [] pos) (iRng1 (liftA G B 1 t)) := pi_range1 hg (by rw [C.eM]; exact C.fb _ hf) hA (star_plain hp [] X.env)
  refine ⟨fun pins s σ H R I h => z.run pins s σ H R I ?_⟩
  obtain ⟨ρ, M, R0, st, rs, rm, q, ok⟩ := h
  refine ⟨ρ, M, _, st, rs, rm, q, fun ds M1 H1 vs l q1 r1 m1 s1 => ?_⟩
  unfold rngOf at q1
  split at q1
  · rename_i j
    obtain ⟨v, rfl, r2⟩ := rep1 r1
    rw [RepD.int] at r2; subst r2
    exact ⟨j, rfl, q1.1, q1.2.1, ok _ _ _ _ q1.2.2 m1 s1 (it_rng (by simp))⟩
  · simp at l
  · exact q1.elim
theorem li_rng2 (C : CtxK X G N sc) (hg : Gl X "range") (hf : ("range" : Str) ∈ G.fb) (hA : PA X [a, b] (liftA G B 2 t)) (hp : plainE a = true) (hp2 : plainE b = true) :
    PI X tg (.Call (.Name "range" p) [a, b] [] pos) (liftI G B fun ρ M R => t ρ M fun ds M1 => rngOf ds M1 R) := by
  have z : PI X tg (.Call (.Name "range" p) [a, b] [] pos) (iRng2 (liftA G B 2 t)) := pi_range2 hg (by rw [C.eM]; exact C.fb _ hf) hA (by rw [star_plain hp, star_plain hp2] <;> rfl) (star_plain hp2 [] X.env)
  refine ⟨fun pins s σ H R I h => z.run pins s σ H R I ?_⟩
  obtain ⟨ρ, M, R0, st, rs, rm, q, ok⟩ := h
  refine ⟨ρ, M, _, st, rs, rm, q, fun ds M1 H1 vs l q1 r1 m1 s1 => ?_⟩
  unfold rngOf at q1
  split at q1
  · simp at l
  · rename_i i j
    obtain ⟨v, u, rfl, r2, r3⟩ := rep2 r1
    rw [RepD.int] at r2 r3; subst r2 r3
    exact ⟨i, j, rfl, q1.1, ok _ _ _ _ q1.2 m1 s1 (it_rng rfl)⟩
  · exact q1.elim

/-! ### targets -/
/-- outside the slots nothing is changed -/
def Off (sl : List Nat) (σ σ' : L2.St) : Prop := σ'.length = σ.length ∧ ∀ j, j ∉ sl → σ'[j]? = σ[j]?
theorem Off.trans {s1 s2 : List Nat} {σ σ1 σ2 : L2.St} (a : Off s1 σ σ1) (b : Off s2 σ1 σ2) : Off (s1 ++ s2) σ σ2 :=
  ⟨b.1.trans a.1, fun j h => by
    rw [List.mem_append, not_or] at h
    exact (b.2 j h.2).trans (a.2 j h.1)⟩
def liftG (G : Cfg) (sl : List Nat) (t : D → En → (En → Prop) → Prop) : TG := fun v σ H Q => ∃ d ρ k, RepD G.K H d v ∧ RepS G.K H ρ σ ∧ t d ρ k ∧ ∀ ρ' σ', k ρ' → RepS G.K H ρ' σ' → Off sl σ σ' → Q σ' H
def liftGs (G : Cfg) (sl : List Nat) (t : List D → En → (En → Prop) → Prop) : TGs := fun vs σ H Q => ∃ ds ρ k, RepL G.K H ds vs ∧ RepS G.K H ρ σ ∧ t ds ρ k ∧ ∀ ρ' σ', k ρ' → RepS G.K H ρ' σ' → Off sl σ σ' → Q σ' H
theorem lg_name {i : Nat} (C : CtxK X G N sc) (hN : N[i]? = some x) (hl : L2.Loc sc x) (hfn : X.fn x = true ∨ sc.names.lookup x = some .local) : PG X (.Name x pos) (liftG G [i] (wpTg (.name i))) := by
  have z := pg_name (X := X) (pos := pos) (i := i) (x := x) (by rw [C.eN]; exact C.nd) (by rw [C.eN]; exact hN) (by rw [C.eS]; exact hl) (by rw [C.eS]; exact hfn)
  refine ⟨fun pins s σ H v u Q I r h => z.run pins s σ H v u Q I r ?_⟩
  obtain ⟨d, ρ, k, rd, rs, q, ok⟩ := h
  refine ok _ _ q (rs.set i rd) ⟨List.length_set .., fun j hj => ?_⟩
  rw [List.getElem?_set_ne]
  simpa [eq_comm] using hj
/-- targets that are names and tuples of such -/
def plainT : Expr → Bool | .Name .. => true | .Tuple .. => true | _ => false
theorem asg_plain {e : Expr} (h : plainT e = true) (es : List Expr) (env : Env) : assignEach (e :: es) env = (false, assign e env) :: assignEach es env := by
  cases e <;> first | rfl | cases h
theorem asg_len {es : List Expr} (h : es.all plainT = true) (env : Env) : (assignEach es env).length = es.length ∧ (assignEach es env).findIdx? (·.1) = none := by
  induction es with
  | nil => exact ⟨rfl, rfl⟩
  | cons e es ih =>
    rw [List.all_cons, Bool.and_eq_true] at h
    rw [asg_plain h.1]
    obtain ⟨h1, h2⟩ := ih h.2
    refine ⟨by rw [List.length_cons, List.length_cons, h1], ?_⟩
    rw [List.findIdx?_cons, h2]; rfl
theorem lgs_nil : PGs X [] (liftGs G [] (wpTgs .nil)) := by
  refine ⟨fun pins s σ H vs us Q I r h => pgs_nil.run pins s σ H vs us Q I r ?_⟩
  obtain ⟨ds, ρ, k, rd, rs, q, ok⟩ := h
  unfold wpTgs at q
  split at q
  · rw [RepL.nil] at rd
    exact ⟨rd, ok _ _ q rs ⟨rfl, fun _ _ => rfl⟩⟩
  · exact q.elim
theorem lgs_cons {g : Tg} {gs : Tgs} {e : Expr} {s1 s2 : List Nat} (h1 : PG X e (liftG G s1 (wpTg g))) (h2 : PGs X es (liftGs G s2 (wpTgs gs))) (hp : plainT e = true) : PGs X (e :: es) (liftGs G (s1 ++ s2) (wpTgs (.cons g gs))) := by
  have z := pgs_cons h1 h2 (by rw [asg_plain hp]; rfl)
  refine ⟨fun pins s σ H vs us Q I r h => z.run pins s σ H vs us Q I r ?_⟩
  obtain ⟨ds, ρ, k, rd, rs, q, ok⟩ := h
  unfold wpTgs at q
  split at q
  · rename_i d ds'
    obtain ⟨v, ws, rfl, r1, r2⟩ := RepL.cons.mp rd
    refine ⟨v, ws, rfl, d, ρ, _, r1, rs, q, fun ρ1 σ1 q1 rs1 o1 => ?_⟩
    exact ⟨ds', ρ1, k, r2, rs1, q1, fun ρ2 σ2 q2 rs2 o2 => ok _ _ q2 rs2 (o1.trans o2)⟩
  · exact q.elim
theorem lg_tup {gs : Tgs} {k : Nat} {sl : List Nat} (C : CtxOk X G N sc) (h : PGs X es (liftGs G sl (wpTgs gs))) (hp : es.all plainT = true) (hn : ∀ ds ρ k, wpTgs gs ds ρ k → ds.length = es.length) : PG X (.Tuple es k pos) (liftG G sl (wpTg (.tup gs))) := by
  obtain ⟨a1, a2⟩ := asg_len hp X.env
  have z := pg_tup (X := X) (pos := pos) (k := k) (n := es.length) C.calm h a1 a2
  refine ⟨fun pins s σ H v u Q I r h => z.run pins s σ H v u Q I r ?_⟩
  obtain ⟨d, ρ, kk, rd, rs, q, ok⟩ := h
  unfold wpTg at q
  split at q
  · rename_i ds
    obtain ⟨pa, vs, rfl, hp, rp⟩ := RepD.tup.mp rd
    exact ⟨pa, vs, rfl, by rw [C.eK]; exact hp, by rw [← rp.length]; exact hn _ _ _ q, ds, ρ, kk, rp, rs, q, ok⟩
  · exact q.elim

/-! ### list comprehensions -/
theorem wipe_get : ∀ (vs : List Nat) (σ : L2.St) (j : Nat), (wipe σ vs)[j]? = if j ∈ vs ∧ j < σ.length then some none else σ[j]?
  | [], σ, j => by simp [wipe]
  | v :: vs, σ, j => by
    unfold wipe
    by_cases e : v = j
    · subst e
      by_cases h : v < σ.length
      · rw [List.getElem?_set_self (by rw [wipe_length]; exact h)]; simp [h]
      · rw [List.getElem?_eq_none (by rw [List.length_set, wipe_length]; omega), if_neg (by omega), List.getElem?_eq_none (by omega)]
    · rw [List.getElem?_set_ne e, wipe_get vs σ j]
      have : (j ∈ v :: vs) ↔ j ∈ vs := by simp [Ne.symm e]
      simp only [this]
theorem wipe_off {sl vs : List Nat} {σ σ' : L2.St} (h : Off sl (wipe σ vs) σ') (hs : ∀ i ∈ sl, i ∈ vs) : wipe σ' vs = wipe σ vs := by
  apply List.ext_getElem?
  intro j
  rw [wipe_get, wipe_get]
  have hl : σ'.length = σ.length := by rw [h.1, wipe_length]
  rw [hl]
  by_cases c : j ∈ vs ∧ j < σ.length
  · rw [if_pos c, if_pos c]
  · rw [if_neg c, if_neg c]
    by_cases hj : j ∈ vs
    · have : ¬ j < σ.length := fun z => c ⟨hj, z⟩
      rw [List.getElem?_eq_none (by omega), List.getElem?_eq_none (by omega)]
    · have := h.2 j fun z => hj (hs j z)
      rw [this, wipe_get, if_neg c]
theorem wipe_rep {K : PySem.W.Frag} {H : Hp} {ρ : En} {σ : L2.St} (h : RepS K H ρ σ) : ∀ vs : List Nat, RepS K H (wipeD ρ vs) (wipe σ vs)
  | [] => h
  | v :: vs => by unfold wipeD wipe; exact (wipe_rep h vs).unset v
theorem Step.over {H H' : Hp} {M M' : Mem} {p : Addr} {o : HO} (s : Step H M H' M') (h : H p = none) : Step H M (upd H' p o) M' :=
  ⟨⟨fun b xs e => by rw [upd_ne (ne_of_none e h)]; exact s.kp.tup b xs e, fun b ob u e => by rw [upd_ne (ne_of_none e h)]; exact s.kp.frz b ob u e⟩, fun a e => upd_grow a (s.grow a e), s.new, fun a u e m => by rw [upd_ne (ne_of_none e h)]; exact s.frame a u e m⟩
theorem RepM.over {H : Hp} {M : Mem} {p : Addr} {vs ws : List V} (h : RepM G H M) (e : H p = some (.lst vs)) (m : M p = Option.none) : RepM G (upd H p (.lst ws)) M := fun a o q => by
  obtain ⟨ho, h1, h2⟩ := h a o q
  have : a ≠ p := fun z => by subst z; rw [m] at q; cases q
  exact ⟨ho, by rw [upd_ne this]; exact h1, h2.keep (Keep.mut e trivial)⟩
theorem RepM.told {H : Hp} {M : Mem} {p : Addr} {vs : List V} {ds : List D} (h : RepM G H M) (e : H p = some (.lst vs)) (r : RepL G.K H ds vs) : RepM G H (mup M p (.lst ds)) := fun a o q => by
  by_cases z : a = p
  · subst z; rw [mup_same] at q; cases q; exact ⟨_, e, vs, rfl, r⟩
  · rw [mup_ne z] at q; exact h a o q
theorem Step.told {H H' : Hp} {M M' : Mem} {p : Addr} {o : MO} (s : Step H M H' M') (h : H p = none) : Step H M H' (mup M' p o) :=
  ⟨s.kp, s.grow, fun a e m => by
    have : a ≠ p := fun z => by subst z; exact e h
    rw [mup_ne this]; exact s.new a e m, s.frame⟩
theorem lc_w {own : List (Str × Nat)} {ti : TDI} {g : Tg} {tt : TDT} {te : TD} {sl : List Nat} (hsl : ∀ i ∈ sl, i ∈ own.map (·.2)) {σ : L2.St} {H : Hp} {Q : VK} (h : lift G B (fun ρ M Q => ti ρ M fun I M1 => lcGo (wpTg g) tt te (wipeD ρ (own.map (·.2))) I.ok I.xs [] M1 fun acc M2 => ∀ p, M2 p = none → Q (.obj p) (mup M2 p (.lst acc))) σ H Q) :
    tLc (liftI G B ti) (liftG G sl (wpTg g)) (liftT G B tt) (lift G B te) (own.map (·.2)) σ H Q := by
  obtain ⟨ρ, M, Q0, st, rs, rm, q, okQ⟩ := h
  refine ⟨ρ, M, _, st, rs, rm, q, fun I M1 H1 J q1 m1 s1 hJ => ?_⟩
  intro Dd hD
  refine ⟨fun i m H2 => m = I.xs.length - i ∧ i ≤ I.xs.length ∧ ∃ M2 acc vs, RepM G H2 M2 ∧ H2 Dd = some (.lst vs) ∧ RepL G.K H2 acc vs ∧ Step H1 M1 H2 M2 ∧ M2 Dd = none ∧
    lcGo (wpTg g) tt te (wipeD ρ (own.map (·.2))) I.ok (I.xs.drop i) acc M2 (fun acc M2 => ∀ p, M2 p = none → Q0 (.obj p) (mup M2 p (.lst acc))),
    ⟨_, rfl, Nat.zero_le _, M1, [], [], m1.skip hD, upd_same, RepL.nil.mpr rfl, Step.hid hD, m1.none hD, by rw [List.drop_zero]; exact q1⟩, ?_⟩
  rintro i m H2 ⟨rfl, hi, M2, acc, vs, m2, hD2, rv, s2, mD, gg⟩
  by_cases hlt : i < I.xs.length
  · rw [List.drop_eq_getElem_cons hlt] at gg
    unfold lcGo at gg
    obtain ⟨okM, gg⟩ := gg
    refine .inr ⟨hJ.go i H2 M2 s2.kp hlt m2 okM, _, fun H' h => ⟨_, by omega, rfl, hlt, h⟩, fun x H' y => ?_⟩
    obtain ⟨d, ed, rd, m', s'⟩ := hJ.yld i H2 x H' M2 s2.kp hlt m2 okM y
    rw [List.getElem?_eq_getElem hlt] at ed
    cases ed
    have st2 := ((st.trans s1).trans s2).trans s'
    refine ⟨_, wipeD ρ (own.map (·.2)), _, rd, (wipe_rep rs _).keep ((s1.trans s2).trans s').kp, gg, fun ρ' σ' q2 rs2 off => ⟨wipe_off off hsl, ?_⟩⟩
    refine ⟨ρ', M2, _, st2, rs2, m', q2, fun b M3 H3 q3 m3 s3 => ?_⟩
    have hD3 : H3 Dd = some (.lst vs) := s3.frame _ _ (s'.frame _ _ hD2 mD) mD
    have mD3 : M3 Dd = none := s3.new _ (some_ne (s'.frame _ _ hD2 mD)) mD
    cases b with
    | true =>
      show lift G B te σ' H3 _
      refine ⟨ρ', M3, _, st2.trans s3, rs2.keep s3.kp, m3, q3, fun v M4 H4 y q4 r4 m4 s4 => ?_⟩
      obtain ⟨hb, g'⟩ := q4
      have hD4 : H4 Dd = some (.lst vs) := s4.frame _ _ hD3 mD3
      have mD4 : M4 Dd = none := s4.new _ (some_ne hD3) mD3
      have kk : Keep H2 H4 := (s'.trans (s3.trans s4)).kp
      have ku : Keep H4 (upd H4 Dd (.lst (vs ++ [y]))) := Keep.mut hD4 trivial
      refine ⟨vs, hD4, by rw [← rv.length, big_eq]; exact hb, M4, acc ++ [v], vs ++ [y], m4.over hD4 mD4, upd_same, RepL.keep ku _ _ ((RepL.keep kk _ _ rv).app (RepL.one r4)), (s2.trans (s'.trans (s3.trans s4))).over hD, mD4, g'⟩
    | false =>
      exact ⟨M3, acc, vs, m3, hD3, RepL.keep (s'.trans s3).kp _ _ rv, s2.trans (s'.trans s3), mD3, q3⟩
  · have e : i = I.xs.length := by omega
    subst e
    rw [List.drop_length] at gg
    unfold lcGo at gg
    exact .inl ⟨hJ.stop H2 M2 s2.kp m2 gg.1, okQ _ _ _ _ (gg.2 Dd mD) (RepD.obj.mpr rfl) (m2.told hD2 rv) (s1.trans (s2.told hD))⟩
theorem ld_lc {elt iter : Expr} {ifs : List Expr} {scope : Scope} {own : List (Str × Nat)} {ti : TDI} {g : Tg} {tt : TDT} {te : TD} {sl : List Nat} (C : CtxOk X G N sc) (hi : PI X tg iter (liftI G B ti)) (ok : BlkOk N sc scope own) (hsl : ∀ i ∈ sl, i ∈ own.map (·.2))
    (hg : ∀ (s : Shared) (H : Hp) (cc : Addr) (cl : List (Str × Addr)) (fp : List Addr), PG (X.blk s H scope (compEnvC scope cl cc X.env) fp) tg (liftG G sl (wpTg g)))
    (ht : ∀ (s : Shared) (H : Hp) (cc : Addr) (cl : List (Str × Addr)) (fp : List Addr), PTs (X.blk s H scope (compEnvC scope cl cc X.env) fp) ifs (liftT G B tt))
    (he : ∀ (s : Shared) (H : Hp) (cc : Addr) (cl : List (Str × Addr)) (fp : List Addr), PE (X.blk s H scope (compEnvC scope cl cc X.env) fp) elt (lift G B te)) (hp : plainE iter = true) :
    PE X (.ListComp elt [⟨tg, iter, ifs, 0⟩] scope pos) (lift G B fun ρ M Q => ti ρ M fun I M1 => lcGo (wpTg g) tt te (wipeD ρ (own.map (·.2))) I.ok I.xs [] M1 fun acc M2 => ∀ p, M2 p = none → Q (.obj p) (mup M2 p (.lst acc))) := by
  have z := pe_lc (X := X) (pos := pos) (own := own) (ifs := ifs) C.calm (by rw [C.eN]; exact C.nd) hi (by rw [C.eN, C.eS]; exact ok) hg ht he (folded_plain hp _)
  exact z.weak fun σ H Q h => lc_w hsl h
/-- name = [..] on one line, the name a plain local -/
theorem ls_setLc {i : Nat} {y : Str} {py spos : Pos} {elt iter : Expr} {ifs : List Expr} {scope : Scope} {own : List (Str × Nat)} {ti : TDI} {g : Tg} {tt : TDT} {te : TD} {sl : List Nat} (C : CtxOk X G N sc) (hy : N[i]? = some y) (hyl : sc.names.lookup y = some .local)
    (hsw : swapsWith (.ListComp elt [⟨tg, iter, ifs, 0⟩] scope pos) (some (.Name y py)) spos.line X.env = pure true) (hi : PI X tg iter (liftI G B ti)) (ok : BlkOk N sc scope own) (hsl : ∀ i ∈ sl, i ∈ own.map (·.2))
    (hg : ∀ (s : Shared) (H : Hp) (cc : Addr) (cl : List (Str × Addr)) (fp : List Addr), PG (X.blk s H scope (compEnvC scope cl cc X.env) fp) tg (liftG G sl (wpTg g)))
    (ht : ∀ (s : Shared) (H : Hp) (cc : Addr) (cl : List (Str × Addr)) (fp : List Addr), PTs (X.blk s H scope (compEnvC scope cl cc X.env) fp) ifs (liftT G B tt))
    (he : ∀ (s : Shared) (H : Hp) (cc : Addr) (cl : List (Str × Addr)) (fp : List Addr), PE (X.blk s H scope (compEnvC scope cl cc X.env) fp) elt (lift G B te)) (hp : plainE iter = true) :
    PS X (.Assign [.Name y py] (.ListComp elt [⟨tg, iter, ifs, 0⟩] scope pos) spos) (liftS G B fun D ρ M => (fun Q => ti ρ M fun I M1 => lcGo (wpTg g) tt te (wipeD ρ (own.map (·.2))) I.ok I.xs [] M1 fun acc M2 => ∀ p, M2 p = none → Q (.obj p) (mup M2 p (.lst acc))) fun d M1 => D.nx (ρ.set i (some d)) M1) := by
  have z := ps_setLc (X := X) (pos := pos) (spos := spos) (py := py) (own := own) (ifs := ifs) C.calm (by rw [C.eN]; exact C.nd) (by rw [C.eN]; exact hy) (by rw [C.eS]; exact hyl) hsw hi (by rw [C.eN, C.eS]; exact ok) hg ht he (folded_plain hp _)
  refine z.weak fun D σ H ⟨ρ, M, D0, st, rs, rm, q, okD⟩ => ?_
  exact lc_w hsl ⟨ρ, M, _, st, rs, rm, q, fun d M1 H1 v q1 r1 m1 s1 => okD.nx _ M1 _ H1 q1 ((rs.keep s1.kp).set i r1) m1 s1⟩
end
end DL
set_option Elab.async false
set_option linter.all false
set_option maxRecDepth 100000
set_option maxHeartbeats 1000000
/-! DLX: more constructs: dicts, reversed slices, isinstance of several classes, enumerate. -/
namespace DL
open PySem PySem.Spec PyProof.Rows L2

section
variable {X : Cx} {G : Cfg} {N : List Str} {sc : Scope} {B : Bs} {pos p2 p3 : Pos} {a b c tg e : Expr} {ta tb tc : TD} {x : Str} {p apos : Pos} {es : List Expr} {n : Nat} {t : TDA}

theorem ix_get (C : CtxK X G N sc) : IxR X (lift2 G vGet) := by
  intro value slice pins s σ H x y v u Q I rx ry h hs
  obtain ⟨d, e, M, Q0, rd, re, rm, hr, ok⟩ := h
  unfold vGet at hr
  split at hr
  · exact ix_dct C.eK C.eP C.ew C.hu value slice pins s σ H x y v u Q I rx ry ⟨d, e, M, Q0, rd, re, rm, hr, ok⟩ hs
  · exact id_idx C.eK value slice pins s σ H x y v u Q I rx ry ⟨d, e, M, Q0, rd, re, rm, hr, ok⟩ hs
theorem od_inGG (C : CtxK X G N sc) (neg : Bool) : OpR X (compareOp (if neg then .NotIn else .In)) (lift2 G (vInG neg)) := by
  intro pins s σ H x y v u Q I rx ry h
  obtain ⟨d, e, M, Q0, rd, re, rm, hr, ok⟩ := h
  unfold vInG at hr
  split at hr
  · exact od_din neg C.eK C.eP C.ew C.hu pins s σ H x y v u Q I rx ry ⟨d, e, M, Q0, rd, re, rm, hr, ok⟩
  · cases neg with
    | false => exact od_in C.eK pins s σ H x y v u Q I rx ry ⟨d, e, M, Q0, rd, re, rm, hr, ok⟩
    | true => exact od_notin C.eK pins s σ H x y v u Q I rx ry ⟨d, e, M, Q0, rd, re, rm, hr, ok⟩
/-- o[i] = v -/
def liftSet (G : Cfg) (r : D → D → D → Mem → (Mem → Prop) → Prop) : TSet := fun o i v H Q => ∃ d j w M Q0, RepD G.K H d o ∧ RepD G.K H j i ∧ RepD G.K H w v ∧ RepM G H M ∧ r d j w M Q0 ∧ ∀ M' H', Q0 M' → RepM G H' M' → Step H M H' M' → Q H'
theorem set_get (C : CtxK X G N sc) : PSet X (liftSet G vSetG) := by
  intro pins s σ H o i v ov iv u Q I ro ri rv h
  obtain ⟨d, j, w, M, Q0, rd, rj, rw', m, q, ok⟩ := h
  unfold vSetG at q
  split at q
  · unfold vDSet at q
    split at q
    · rename_i ad hdct
      rw [RepD.obj] at rd; subst rd
      obtain rfl : ov = Value.ref ad := ro
      split at q
      · rename_i kvs em
        obtain ⟨q1, q2, q3⟩ := q
        obtain ⟨o0, h0, _⟩ := dct_of m em
        refine dct_set C.eK C.eP C.ew (by have := C.hu; omega) I m em q1 q2 rj ri rw' rv fun o' s' I' rep => ?_
        have sp : Step H M (upd H ad (objO ad o')) (mup M ad (.dct (dput kvs j w))) := Step.put h0 trivial em
        exact ⟨_, I', ok _ _ q3 (m.put h0 trivial ⟨o', rfl, rep⟩) sp⟩
      · exact q.elim
    · exact q.elim
  · unfold vSetI at q
    split at q
    · rename_i ad jj hdct
      split at q
      · rename_i xs em
        split at q
        · rename_i k ek
          rw [RepD.obj] at rd
          rw [RepD.int] at rj
          obtain ⟨ho, h1, vs, rfl, rv'⟩ := m ad _ em
          have sp : Step H M (upd H ad (.lst (vs.set k v))) (mup M ad (.lst (xs.set k w))) := Step.put h1 trivial em
          exact set_list pins s σ H o i v ov iv u Q I ro ri rv ⟨ad, vs, jj, k, rd, rj, h1, by rw [← rv'.length]; exact ek, ok _ _ q (m.put h1 trivial ⟨_, rfl, rv'.set k rw'⟩) sp⟩
        · exact q.elim
      · exact q.elim
    · exact q.elim
/-- {} -/
theorem ld_dnew : PE X (.Dict [] [] pos) (lift G B fun _ M Q => ∀ p, M p = none → Q (.obj p) (mup M p (.dct []))) := by
  refine ⟨fun pins s σ H Q I ⟨ρ, M, Q0, st, rs, rm, q, ok⟩ => ?_⟩
  obtain ⟨o, ho, rep⟩ := dct_new (G := G) (P := X.prog) (w := X.w) (H := upd H s.heap.objs.size (objO s.heap.objs.size { cls := .type "dict", data := .dict #[] })) (h := s.heap) I.big
  have hn := I.hok.fresh (Nat.le_refl s.heap.objs.size)
  have I' := I.laid (a := s.heap.objs.size) (o := objO s.heap.objs.size o) (h' := s.heap.push { cls := .type "dict", data := .dict #[] }) (t' := s.toks) (fun _ _ q => Heap.get?_push_of_some _ q) (Nat.le_refl _) (objO_ok ho)
  obtain ⟨_, _, rep'⟩ := dct_new (G := G) (P := X.prog) (w := X.w) (H := H) (h := s.heap) I.big
  obtain ⟨o2, ho2, rep2⟩ := dct_new (G := G) (P := X.prog) (w := X.w) (H := H) (h := s.heap) I.big
  rw [ho] at ho2; cases ho2
  exact wpAny_Dict_empty ⟨.ref s.heap.objs.size, _, I', rfl, ok _ _ _ _ (q _ (rm.none hn)) (RepD.obj.mpr rfl) (rm.new hn ⟨o, rfl, rep2⟩) (Step.new' hn)⟩
/-- {k: v} -/
theorem ld_ddsp {kx vx : Expr} (C : CtxK X G N sc) (hk : PE X kx (lift G B ta)) (hv : PE X vx (lift G B tb)) :
    PE X (.Dict [some kx] [vx] pos) (lift G B fun ρ M Q => ∀ p, M p = none → ta ρ (mup M p (.dct [])) fun dk M1 => tb ρ M1 fun dv M2 => M2 p = some (.dct []) ∧ (lkey dk).isSome = true ∧ Q (.obj p) (mup M2 p (.dct [(dk, dv)]))) := by
  refine ⟨fun pins s σ H Q I ⟨ρ, M, Q0, st, rs, rm, q, ok⟩ => ?_⟩
  have hn := I.hok.fresh (Nat.le_refl s.heap.objs.size)
  obtain ⟨o, ho, rep⟩ := dct_new (G := G) (P := X.prog) (w := X.w) (H := H) (h := s.heap) I.big
  have I1 := I.laid (a := s.heap.objs.size) (o := objO s.heap.objs.size o) (h' := s.heap.push { cls := .type "dict", data := .dict #[] }) (t' := s.toks) (fun _ _ q => Heap.get?_push_of_some _ q) (Nat.le_refl _) (objO_ok ho)
  have s1 : Step H M (upd H s.heap.objs.size (objO s.heap.objs.size o)) (mup M s.heap.objs.size (.dct [])) := Step.new' hn
  have m1 : RepM G (upd H s.heap.objs.size (objO s.heap.objs.size o)) (mup M s.heap.objs.size (.dct [])) := rm.new hn ⟨o, rfl, rep⟩
  have PP := pps_cons (pos := pos) hk hv pps_nil
  refine wpAny_Dict_walk (knd := leafKind X.prog X.w) rfl rfl (by simp) (by simp) (thn (PP.run pins _ σ _ (fun ps H2 => ∃ dk dv M2, ps.length = 1 ∧ (∃ vk vv, ps = [(vk, vv)] ∧ RepD G.K H2 dk vk ∧ RepD G.K H2 dv vv) ∧ RepM G H2 M2 ∧ Step H M H2 M2 ∧ M2 s.heap.objs.size = some (.dct []) ∧ (lkey dk).isSome = true ∧ Q0 (.obj s.heap.objs.size) (mup M2 s.heap.objs.size (.dct [(dk, dv)]))) I1 ?_) fun ws s2 hw => ?_)
  · refine ⟨ρ, _, _, st.trans s1, rs.keep s1.kp, m1, q _ (rm.none hn), fun dk M1 H1 vk q1 r1 m2 s2 => ?_⟩
    refine ⟨ρ, M1, _, (st.trans s1).trans s2, rs.keep (s1.trans s2).kp, m2, q1, fun dv M2 H2 vv q2 r2 m3 s3 => ?_⟩
    exact ⟨dk, dv, M2, rfl, ⟨vk, vv, rfl, RepD.keep s3.kp _ _ r1, r2⟩, m3, (s1.trans s2).trans s3, q2.1, q2.2.1, q2.2.2⟩
  · obtain ⟨ps, H2, I2, rel, dk, dv, M2, _, ⟨vk, vv, rfl, r1, r2⟩, m2, s2', em, hl, q2⟩ := hw
    cases rel with
    | @cons pr wv _ _ r rr =>
      cases rr
      obtain ⟨kq, hkq⟩ := Option.isSome_iff_exists.mp hl
      obtain ⟨o2, h2, rep2⟩ := dct_of m2 em
      have hd2 := dct_leaf (X := X) C.eP C.ew I2 h2 rep2 rfl
      obtain ⟨lk, dd, pr0⟩ := hd2
      cases pr0
      obtain ⟨wk, wv⟩ := wv
      refine ⟨[(kq, wv)], ⟨lkey_is r1 r.1 hkq, rfl, True.intro⟩, dd, fun h' dd' hs => ?_⟩
      obtain ⟨o', ho', rep'⟩ := (dct_put (G := G) (H := H2) (h' := h') (a := s.heap.objs.size) (kvs := [(dk, dv)]) C.eP C.ew (by rw [sizeLine_eq]; show 1 ≤ 16777216; decide) rep2.sm).1 _ dd' (.cons ⟨hkq, vv, r2, r.2⟩ .nil)
      have I3 : Inv X pins σ (upd H2 s.heap.objs.size (objO s.heap.objs.size o')) { s2 with heap := h', toks := s2.toks + 1 } := I2.write (x := s.heap.objs.size) (e := s.heap.objs.size) (by rw [h2]; exact True.intro) (.inl rfl) (fun b q hb z => (hs.2 b hb).trans z) ⟨_, ho'⟩ (objO_ok ho')
      have sp : Step H2 M2 (upd H2 s.heap.objs.size (objO s.heap.objs.size o')) (mup M2 s.heap.objs.size (.dct [(dk, dv)])) := Step.put h2 trivial em
      exact ⟨.ref s.heap.objs.size, _, I3, rfl, ok _ _ _ _ q2 (RepD.obj.mpr rfl) (m2.put h2 trivial ⟨o', rfl, rep'⟩) (s2'.trans sp)⟩
/-- d.get(..) -/
theorem ld_dget {o : Expr} (C : CtxK X G N sc) (ho : PE X o (lift G B ta)) (hr : recvE o = true) (hp : plainEs (e :: es) = true) (hA : PA X (e :: es) (liftA G B n t)) (hn : (e :: es).length < 29) (hl : (apos.endLine == pos.line) = true) :
    PE X (.Call (.Attribute o "get" apos) (e :: es) [] pos) (lift G B fun ρ M Q => ta ρ M fun d M1 => isDct M1 d = true ∧ t ρ M1 fun ds M2 => vDGet d ds M2 Q) := by
  have hp' := hp
  unfold plainEs at hp
  rw [List.all_cons, Bool.and_eq_true] at hp
  refine ⟨fun pins s σ H Q I ⟨ρ, M, Q0, st, rs, rm, q, ok⟩ => ?_⟩
  have hfew : ((backTo pos (starEach (e :: es) X.env)).all (fun x => !x.1) && (backToKw pos (keywordEach [] X.env)).all (fun x => x.1.isSome)
      && decide ((e :: es).length + ([] : List Keyword).length + (if ([] : List Keyword).isEmpty then 0 else 1) < 30)) = true := by
    rw [all_plain hp']
    show (true && true && decide ((e :: es).length + 0 + 0 < 30)) = true
    rw [decide_eq_true (by omega)]; rfl
  refine wpAny_Call_method_late (base_plain hr _ _ _) hfew hl rfl (thn (ho.run pins s σ H (fun v H1 => ∃ d M1, (isDct M1 d = true ∧ t ρ M1 fun ds M2 => vDGet d ds M2 Q0) ∧ RepD G.K H1 d v ∧ RepM G H1 M1 ∧ Step H M H1 M1) I ⟨ρ, M, _, st, rs, rm, q, fun d M1 H1 x q1 r1 m1 s1 => ⟨d, M1, q1, r1, m1, s1⟩⟩) fun v s1 hv => ?_)
  obtain ⟨x, H1, I1, rx, d, M1, ⟨q1, q2⟩, r1, m1, s1'⟩ := hv
  unfold isDct at q1
  split at q1
  · rename_i ad
    rw [RepD.obj] at r1; subst r1
    obtain rfl : v = Value.ref ad := rx
    split at q1
    · rename_i kvs em
      obtain ⟨o', h', rep⟩ := dct_of m1 em
      refine ⟨"dict", "dict.get", PySem.F.plainAttrs_dict, PySem.F.slot_dict_get, PySem.F.type_dict_get, dct_type I1 h' rep, fun b q => ?_, ?_⟩
      · cases q
        exact ⟨o', objO_at I1 h', rep.ex.2.1⟩
      · have hA' := hA.run pos pins s1 σ H1 (fun vs H2 => liftM G vDGet (.ref ad) vs H2 Q) I1 ⟨ρ, M1, _, st.trans s1', rs.keep s1'.kp, m1, q2, fun ds M2 H2 vs l q3 r3 m3 s3 => ⟨.obj ad, ds, M2, Q0, RepD.obj.mpr rfl, r3, m3, q3, ok.on (s1'.trans s3)⟩⟩
        rw [star_plain hp.1] at hA' ⊢
        refine Calls.callWith_builtin (by show (false || (backTo pos (starEach es X.env)).any (·.1)) = false; rw [any_plain hp.2] <;> rfl) (Calls.evalArgs_plain ?_)
        exact thn hA' fun us s2 ⟨vs, H2, I2, r2, q3⟩ => md_dget C.eK C.eP C.ew C.hu pins s2 σ H2 (.ref ad) vs _ us Q I2 rfl r2 q3
    · cases q1
  · cases q1
/-- dict(zip(a, b)) of two lists -/
theorem merge_rep {H : Hp} : ∀ {ps : List (D × D)} {lk : List (Leaf × Value)} {acc : List (D × D)} {la : List (Leaf × Value)}, Paired (LeafRel G H) ps lk → Paired (LeafRel G H) acc la → Paired (LeafRel G H) (ps.foldl (fun acc p => dput acc p.1 p.2) acc) (merged la lk)
  | _, _, _, _, .nil, r => r
  | p :: ps, q :: lk, acc, la, .cons r rs, r0 => by
    show Paired _ (ps.foldl _ (dput acc p.1 p.2)) (merged (stored la q.1 q.2) lk)
    exact merge_rep rs (leaf_put r.1 r.2 r0)
theorem zip_leaf {H : Hp} : ∀ {xs ys : List D} {vs ws : List V} {us uw : List Value}, RepL G.K H xs vs → RepL G.K H ys ws → Vals vs us → Vals ws uw → (xs.all fun x => (lkey x).isSome) = true → ∃ lk, Paired (LeafRel G H) (xs.zip ys) lk ∧ lk.length = min us.length uw.length ∧ ∀ (i : Nat) k v, us[i]? = some k → uw[i]? = some v → ∃ q, lk[i]? = some (q, v) ∧ ∀ (P : Program) (w : World), (leafKind P w).is q k = true
  | [], ys, vs, ws, us, uw, r, r', rv, rw', h => by
    rw [RepL.nil] at r; subst r
    cases rv
    exact ⟨[], .nil, by simp, fun i k v h => by simp at h⟩
  | x :: xs, [], vs, ws, us, uw, r, r', rv, rw', h => by
    rw [RepL.nil] at r'; subst r'
    cases rw'
    exact ⟨[], .nil, by simp, fun i k v h h' => by simp at h'⟩
  | x :: xs, y :: ys, vs, ws, us, uw, r, r', rv, rw', h => by
    obtain ⟨v, vs', rfl, r1, r2⟩ := RepL.cons.mp r
    obtain ⟨w, ws', rfl, r3, r4⟩ := RepL.cons.mp r'
    rw [List.all_cons, Bool.and_eq_true] at h
    obtain ⟨q, hq⟩ := Option.isSome_iff_exists.mp h.1
    cases rv with
    | @cons _ u _ us' g1 g2 =>
      cases rw' with
      | @cons _ u2 _ uw' g3 g4 =>
        obtain ⟨lk, p1, p2, p3⟩ := zip_leaf r2 r4 g2 g4 h.2
        refine ⟨(q, u2) :: lk, .cons ⟨hq, w, r3, g3⟩ p1, by simp [p2, Nat.succ_min_succ], fun i k v h1 h2 => ?_⟩
        cases i with
        | zero =>
          simp at h1 h2; subst h1 h2
          exact ⟨q, rfl, fun P w => lkey_is r1 g1 hq⟩
        | succ i => simpa using p3 i k v (by simpa using h1) (by simpa using h2)
theorem zipD_len : ∀ (ps acc : List (D × D)), (ps.foldl (fun acc p => dput acc p.1 p.2) acc).length ≤ acc.length + ps.length
  | [], acc => by simp
  | p :: ps, acc => by
    have h1 := zipD_len ps (dput acc p.1 p.2)
    have h2 := dput_len acc p.1 p.2
    simp only [List.foldl_cons, List.length_cons]
    omega
theorem ld_dzip {pz pd : Pos} (C : CtxOk X G N sc) (hg : Gl X "dict") (hf : ("dict" : Str) ∈ G.fb) (hg2 : Gl X "zip") (hf2 : ("zip" : Str) ∈ G.fb) (ha : PE X a (lift G B ta)) (hb : PE X b (lift G B tb)) (pa : plainE a = true) (pb : plainE b = true) :
    PE X (.Call (.Name "dict" p) [.Call (.Name "zip" p2) [a, b] [] pz] [] pd) (lift G B fun ρ M Q => ta ρ M fun d M1 => tb ρ M1 fun f M2 => vZip d f M2 Q) := by
  refine ⟨fun pins s σ H Q I ⟨ρ, M, Q0, st, rs, rm, q, ok⟩ => ?_⟩
  have A := la_cons (n := 1) ha (la_cons (n := 0) hb la_nil pb) pa
  have s1 : starEach [a, b] X.env = (false, eval a X.env) :: starEach [b] X.env := star_plain pa _ _
  have s2 : (backTo pz (starEach [b] X.env)).any (·.1) = false := by rw [star_plain pb]; rfl
  refine wpAny_Call_Name_kw (ld_blt I hg (by rw [C.eM]; exact C.fb _ hf) PyProof.Rows.boot_dict ?_ (by decide) (by decide))
  refine PyProof.Rows.callWith_type1 (Calls.spliced_cons ?_) rfl rfl
  refine Call_ (ld_blt I hg2 (by rw [C.eM]; exact C.fb _ hf2) PyProof.Rows.boot_zip (PyProof.Rows.callWith_type1 (thn (A.run pz pins s σ H (fun vs H1 => ∃ d f M2, vs.length = 2 ∧ vZip d f M2 Q0 ∧ RepL G.K H1 [d, f] vs ∧ RepM G H1 M2 ∧ Step H M H1 M2) I ⟨ρ, M, fun ds M' => ∃ d f, ds = [d, f] ∧ vZip d f M' Q0, st, rs, rm, ?_, fun ds M1 H1 vs l q1 r1 m1 s1 => ?_⟩) fun us s1 hus => ?_) s1 s2))
  · have : (fun d M1 => tb ρ M1 fun f M2 => vZip d f M2 Q0) = (fun d M1 => tb ρ M1 fun f M2 => ∃ d' f', [d, f] = [d', f'] ∧ vZip d' f' M2 Q0) := by
      funext d M1
      congr 1
      funext f M2
      exact propext ⟨fun h => ⟨d, f, rfl, h⟩, fun ⟨d', f', e, h⟩ => by cases e; exact h⟩
    show ta ρ M (fun d M1 => tb ρ M1 fun f M2 => ∃ d' f', [d, f] = [d', f'] ∧ vZip d' f' M2 Q0)
    rw [← this]; exact q
  · obtain ⟨d, f, rfl, q1⟩ := q1
    exact ⟨d, f, M1, by rw [← r1.length, l], q1, r1, m1, s1⟩
  · obtain ⟨vs, H1, I1, rv, d, f, M2, _, q2, r2, m2, s2'⟩ := hus
    obtain ⟨v, w, rfl, rd, rf⟩ := rep2 r2
    unfold vZip at q2
    split at q2
    · rename_i ax bx
      rw [RepD.obj] at rd rf; subst rd rf
      split at q2
      · rename_i xs ys em em2
        obtain ⟨ho1, h1, vx, rfl, rx⟩ := m2 ax _ em
        obtain ⟨ho2, h2, vy, rfl, ry⟩ := m2 bx _ em2
        cases rv with
        | cons g1 gg =>
          cases gg with
          | cons g2 gg =>
            cases gg
            cases g1
            cases g2
            obtain ⟨its, rvx, p1, hz1⟩ := I1.list (show SqL X.K H1 ax vx from .inl (.inl h1))
            obtain ⟨its2, rvy, p2, hz2⟩ := I1.list (show SqL X.K H1 bx vy from .inl (.inl h2))
            have la : ax < s1.heap.objs.size := p1.lt
            have lb : bx < s1.heap.objs.size := p2.lt
            refine call_zip_2 p1.isList p2.isList fun h' hz hTI hTO i1 i2 hsz hk => ?_
            have I2 : Inv X pins σ H1 { s1 with heap := h' } := I1.kept (t' := s1.toks) hk
            have D := PySem.W.ktu_apart s1.heap.objs.size ax bx la lb
            refine Calls.spliced_nil ?_
            have hle : ∀ b ∈ [s1.heap.objs.size + 4, s1.heap.objs.size + 3, s1.heap.objs.size, s1.heap.objs.size + 1], FpOk X pins H1 b := fun b hb => by
              have : s1.heap.objs.size ≤ b := by
                simp at hb
                rcases hb with rfl | rfl | rfl | rfl <;> omega
              exact I1.fpOk this (I1.hok.fresh this)
            obtain ⟨lk, z1, z2, z3⟩ := zip_leaf rx ry rvx rvy q2.1
            refine call_dict_pairs (knd := leafKind X.prog X.w) (kvs := lk) (PairArg.zip (prog := X.prog) (w := X.w) _ _ _ _ _ ax bx D its.toArray its2.toArray) (I.ok.hd C.calm) ⟨hz, hTI, ⟨_, _, hTO⟩, i1, i2, p1.isList.at (fun o q => hk _ o q), p2.isList.at (fun o q => hk _ o q)⟩ ⟨by simpa using z2, fun i key v hr => ?_⟩ (by have e9 := rvx.length; simp only [List.size_toArray]; omega) fun h'' tk dd' hk' => ?_
            · obtain ⟨q', e1, e2⟩ := z3 i key v (by simpa using hr.1) (by simpa using hr.2)
              exact ⟨q', e1, e2 _ _⟩
            · have hbig : (zipD xs ys).length ≤ sizeLine := by
                have e1 := zipD_len (xs.zip ys) []
                have e2 : xs.length = its.length := by rw [rx.length]; exact rvx.length
                have e9 := rvx.length
                unfold zipD
                rw [List.length_nil, List.length_zip] at e1
                omega
              obtain ⟨o', ho', rep'⟩ := (dct_put (G := G) (H := H1) (h' := h'') (a := h'.objs.size) (kvs := zipD xs ys) C.eP C.ew hbig (beq_eq_false_iff_ne.mpr (Ne.symm (Nat.ne_of_lt (by have := I2.big; exact this))))).1 _ dd' (merge_rep z1 .nil)
              have hn : H1 h'.objs.size = none := I2.hok.fresh (Nat.le_refl _)
              have I3 : Inv X pins σ (upd H1 h'.objs.size (objO h'.objs.size o')) { s1 with heap := h'', toks := tk } := I2.turnedNew (ch := [s1.heap.objs.size + 4, s1.heap.objs.size + 3, s1.heap.objs.size, s1.heap.objs.size + 1]) (fun b ob hb q => hk' b ob hb q) hle (Nat.le_refl _) (objO_ok ho')
              exact ⟨.ref h'.objs.size, _, I3, rfl, ok _ _ _ _ (q2.2 _ (m2.none hn)) (RepD.obj.mpr rfl) (m2.new hn ⟨o', rfl, rep'⟩) (s2'.trans (Step.new' hn))⟩
      · exact q2.elim
    · exact q2.elim
/-- list(range(n)) -/
theorem ld_lrng {pz pd : Pos} {t : TDA} (C : CtxOk X G N sc) (hg : Gl X "list") (hf : ("list" : Str) ∈ G.fb) (hg2 : Gl X "range") (hf2 : ("range" : Str) ∈ G.fb) (hA : PA X [a] (liftA G B 1 t)) (pa : plainE a = true) :
    PE X (.Call (.Name "list" p) [.Call (.Name "range" p2) [a] [] pz] [] pd) (lift G B fun ρ M Q => t ρ M fun ds M1 => match ds with
      | [.int j] => 0 ≤ j ∧ j ≤ 16777216 ∧ ∀ q, M1 q = none → Q (.obj q) (mup M1 q (.lst ((List.range j.toNat).map fun k => .int (k : Nat))))
      | _ => False) := by
  refine ⟨fun pins s σ H Q I ⟨ρ, M, Q0, st, rs, rm, q, ok⟩ => ?_⟩
  have s1 : starEach [a] X.env = (false, eval a X.env) :: starEach [] X.env := star_plain pa _ _
  have s2 : (backTo pz (starEach [] X.env)).any (·.1) = false := rfl
  refine wpAny_Call_Name_kw (ld_blt I hg (by rw [C.eM]; exact C.fb _ hf) (show bootBuiltins ("list" : Str) = some (.type "list") from BI.boot .list) ?_ (by decide) (by decide))
  refine PyProof.Rows.callWith_type1 (Calls.spliced_cons ?_) rfl rfl
  refine Call_ (ld_blt I hg2 (by rw [C.eM]; exact C.fb _ hf2) boot_range (PyProof.Rows.callWith_type1 (thn (hA.run pz pins s σ H (fun vs H1 => ∃ j M1, vs = [V.int j] ∧ (0 ≤ j ∧ j ≤ 16777216 ∧ ∀ q, M1 q = none → Q0 (.obj q) (mup M1 q (.lst ((List.range j.toNat).map fun k => .int (k : Nat))))) ∧ RepM G H1 M1 ∧ Step H M H1 M1) I ⟨ρ, M, _, st, rs, rm, q, fun ds M1 H1 vs l q1 r1 m1 s1 => ?_⟩) fun us s1 hus => ?_) s1 s2))
  · split at q1
    · rename_i j
      obtain ⟨v, rfl, r2⟩ := rep1 r1
      rw [RepD.int] at r2; subst r2
      exact ⟨j, M1, rfl, q1, m1, s1⟩
    · exact q1.elim
  · obtain ⟨vs, H1, I1, rv, j, M1, rfl, ⟨j0, j1, q1⟩, m1, s1'⟩ := hus
    cases rv with
    | cons r rr =>
      cases rr
      obtain ⟨tk, rfl⟩ := r
      refine call_range_1 (Calls.spliced_nil ?_)
      have hsm : Builtin.Range.small 0 j 1 = true := small_one (by omega) (by omega) (by omega) (by omega)
      have hsz : Builtin.Range.rangeSize 0 j 1 = (j.toNat : Int) := by rw [rangeSize_one]; split <;> omega
      obtain ⟨s2, hs2⟩ : ∃ s2 : Shared, s2 = { s1 with heap := s1.heap.push { cls := .type "range", data := .fields #[.int 0 s1.toks, .int j tk, .int 1 (s1.toks + 1)] }, toks := s1.toks + 1 + 1 } := ⟨_, rfl⟩
      have I2 : Inv X pins σ H1 s2 := by rw [hs2]; exact I1.kept fun b o e => Heap.get?_push_of_some _ e
      have hR : IsRange s2.heap s1.heap.objs.size 0 j 1 s1.toks tk (s1.toks + 1) := by rw [hs2]; exact IsRange.new ..
      rw [← hs2]
      refine call_list_range (I2.ok.hd C.calm) hR hsm hsz (by omega) fun h' tk' acc c' hk e hi => ?_
      have hn : H1 s2.heap.objs.size = none := I2.hok.fresh (Nat.le_refl _)
      have hlen : ((List.range j.toNat).map fun k : Nat => V.int (k : Nat)).length ≤ sizeLine := by rw [List.length_map, List.length_range, sizeLine_eq]; omega
      refine ⟨.ref s2.heap.objs.size, upd H1 s2.heap.objs.size (.lst ((List.range j.toNat).map fun k : Nat => V.int (k : Nat))), I2.laid hk (Nat.le_refl _) ⟨hlen, acc.toList, c', ?_, by rw [Array.toArray_toList]; exact e⟩, rfl, ok _ _ _ _ (q1 _ (m1.none hn)) (RepD.obj.mpr rfl) (m1.new hn ⟨_, rfl, ?_⟩) (s1'.trans (Step.new' hn))⟩
      · refine vals_of_idx _ _ (by rw [List.length_map, List.length_range, Array.length_toList]; exact hi.1) fun i u hu => ?_
        obtain ⟨t', ht⟩ := hi.2 i u (by rw [← Array.getElem?_toList]; exact hu)
        have hil : i < j.toNat := by
          have := (List.getElem?_eq_some_iff.mp hu).1
          rw [Array.length_toList, hi.1] at this
          exact this
        refine ⟨.int (i : Nat), by rw [List.getElem?_map, List.getElem?_range hil]; rfl, t', ?_⟩
        rw [ht]; congr 1; omega
      · have : ((List.range j.toNat).map fun k : Nat => D.int (k : Nat)) = ((List.range j.toNat).map fun k : Nat => (k : Int)).map D.int := by rw [List.map_map]; rfl
        rw [this]
        refine RepL.ints.mpr ?_
        rw [List.map_map]; rfl
end
end DL
set_option Elab.async false
set_option linter.all false
set_option maxRecDepth 100000
set_option maxHeartbeats 1000000
/-! DLY: reversed slices, isinstance of several classes, enumerate. -/
namespace DL
open PySem PySem.Spec PyProof.Rows L2
section
variable {X : Cx} {G : Cfg} {N : List Str} {sc : Scope} {B : Bs} {pos p2 p3 p4 : Pos} {a b c tg e : Expr} {ta tb tc : TD} {x : Str} {p apos : Pos} {es : List Expr} {n : Nat} {t : TDA}

/-! ### a[::-1] -/
theorem str_rev (l : List Nat) (t t1 : Tok) : sliceMade (S l) t none none (some (-1, t1)) = .str (S l.reverse) := by
  unfold sliceMade
  rw [if_neg (by simp)]
  congr 1
  have e : slicePicked (S l) none none (some (-1, t1)) = (List.range l.length).reverse := by
    show Builtin.Str.strSliceIndices none none (-1) (S l).length = _
    rw [S_len]
    unfold Builtin.Str.strSliceIndices
    show sliceRange ((l.length : Int) - 1) (-1) (-1) = _
    rw [PySem.W.krv_sliceRange, PySem.W.krv_range]
  rw [e, List.filterMap_reverse]
  have := PySem.W.krv_all (S l).cps
  unfold S at this ⊢
  simp only [List.size_toArray] at this
  rw [this]
theorem ld_rev {k : Nat} (C : CtxK X G N sc) (ha : PE X a (lift G B ta)) :
    PE X (.Subscript a (.Slice none none (some (.UnaryOp .USub (.Constant (.int 1) k p3) p4)) p2) pos) (lift G B fun ρ M Q => ta ρ M fun d M1 => vRev d M1 Q) := by
  refine ⟨fun pins s σ H Q I ⟨ρ, M, Q0, st, rs, rm, q, ok⟩ => ?_⟩
  refine Subscript_ (thn (ha.run pins s σ H (fun v H1 => ∃ d M1, vRev d M1 Q0 ∧ RepD G.K H1 d v ∧ RepM G H1 M1 ∧ Step H M H1 M1) I ⟨ρ, M, _, st, rs, rm, q, fun d M1 H1 x q1 r1 m1 s1 => ⟨d, M1, q1, r1, m1, s1⟩⟩) fun v s1 ⟨x, H1, I1, rx, d, M1, q1, r1, m1, s1'⟩ => ?_)
  have hst : PO X (some (.UnaryOp .USub (.Constant (.int 1) k p3) p4)) (tPart (tUn (rU fun i => .int (-i)) (tC (.int 1)))) := po_some (pe_un un_neg pe_int)
  refine wpAny_Slice (thn (po_none.run pins s1 σ H1 (fun o H2 => o = none ∧ H2 = H1) I1 ⟨rfl, rfl⟩) fun vl s2 ⟨l, H2, I2, pl, el, e2⟩ => ?_)
  subst el e2
  refine thn (po_none.run pins s2 σ H2 (fun o H3 => o = none ∧ H3 = H2) I2 ⟨rfl, rfl⟩) fun vu s3 ⟨u, H3, I3, pu, eu, e3⟩ => ?_
  subst eu e3
  refine thn (hst.run pins s3 σ H3 (fun o H4 => o = some (-1) ∧ H4 = H3) I3 ⟨1, rfl, -1, rfl, rfl, rfl⟩) fun vs s4 ⟨o, H4, I4, ps, eo, e4⟩ => ?_
  subst eo e4
  have I5 : Inv X pins σ H4 { s4 with heap := s4.heap.push { cls := .type "slice", data := .fields #[vl, vu, vs] } } := I4.kept (t' := s4.toks) fun b ob q => Heap.get?_push_of_some _ q
  unfold vRev at q1
  split at q1
  · rename_i l
    rw [RepD.str] at r1; subst r1
    obtain ⟨t, rfl⟩ := rx
    show wpAny (model X.prog X.w) X.A (subscriptTail a (.Slice none none (some (.UnaryOp .USub (.Constant (.int 1) k p3) p4)) p2) (.str (S l) t) (.ref s4.heap.objs.size)) (EP X pins σ Q) X.xe { s4 with heap := s4.heap.push { cls := .type "slice", data := .fields #[vl, vu, vs] } }
    refine tail_any (T := "str") (ops := [.str (S l) t, .ref s4.heap.objs.size]) rfl (PySem.F.slot_str_getitem.lookup) ?_ (by with_unfolding_all rfl)
    cases pl
    cases pu
    cases ps with
    | int _ t1 =>
      refine wpAny_getItem_str_slice (l := none) (u := none) (st := some (-1, t1)) ⟨_, Heap.get?_push_size _ rfl, rfl, rfl⟩ rfl ?_
      rw [str_rev]
      exact ⟨by rw [S_len, List.length_reverse, sizeLine_eq]; have := q1.1; omega, .str (S l.reverse), H4, I5.tok _, ⟨_, rfl⟩, ok _ _ _ _ q1.2 (RepD.str.mpr rfl) m1 s1'⟩
  · rename_i ad
    rw [RepD.obj] at r1; subst r1
    cases rx
    split at q1
    · rename_i xs e0
      obtain ⟨ws, hx, rw'⟩ := rdL_ok m1 e0
      obtain ⟨its, r, ht, hz⟩ := I5.list (by rw [C.eK]; exact hx)
      have hlen := r.length
      have hn := I5.hok.fresh (a := (s4.heap.push { cls := .type "slice", data := .fields #[vl, vu, vs] }).objs.size) (Nat.le_refl _)
      show wpAny (model X.prog X.w) X.A (subscriptTail a (.Slice none none (some (.UnaryOp .USub (.Constant (.int 1) k p3) p4)) p2) (.ref ad) (.ref s4.heap.objs.size)) (EP X pins σ Q) X.xe { s4 with heap := s4.heap.push { cls := .type "slice", data := .fields #[vl, vu, vs] } }
      refine tail_any (ops := [.ref ad, .ref s4.heap.objs.size]) ht.isList.typeIs (PySem.slot_list_getitem.lookup) ?_ (by with_unfolding_all rfl)
      refine wpAny_getItem_list_slice ht.isList (Heap.IsSliceOf.new _ vl vu vs) pl pu ps (by decide) ?_ (by rw [List.size_toArray]; omega)
      rw [PySem.W.krv_pick]
      refine ⟨.ref _, _, I5.laid (t' := s4.toks) (o := .lst ws.reverse) (fun b ob q => Heap.get?_push_of_some _ q) (Nat.le_refl _) ?_, rfl, ok _ _ _ _ (q1 _ (m1.none hn)) (RepD.obj.mpr rfl) (new_lst m1 hn (rw'.rev)) (s1'.trans (Step.new' hn))⟩
      exact ⟨by rw [List.length_reverse]; exact hz, _, 0, r.reverse, Heap.get?_push_size _ rfl⟩
    · exact q1.elim
  · exact q1.elim

/-! ### isinstance(x, (T, ..)) -/
theorem kitsB_ok {K : PySem.W.Frag} {U : String} : ∀ {Ts : List String} {r : Bool}, kitsB U Ts = some r → PySem.W.kitAny K (.type U) (Ts.map .type) = some r
  | [], r, h => h
  | T :: Ts, r, h => by
    unfold kitsB at h
    cases e : kitB U T with
    | none => rw [e] at h; cases h
    | some b =>
      rw [e] at h
      refine kitAny_cons (kit_ty e) (fun hb => ?_) (fun hb => ?_)
      · subst hb; exact kitsB_ok h
      · subst hb; exact (Option.some.inj h).symm
theorem clsV_all : ∀ (Ts : List String), Paired ClsV (Ts.map V.ty) (Ts.map Value.type)
  | [] => .nil
  | T :: Ts => .cons (.ty T) (clsV_all Ts)
theorem ld_isit {T1 T2 : String} {kt : Nat} {q1 q2 q3 : Pos} (C : CtxK X G N sc) (hg : Gl X "isinstance") (hf : ("isinstance" : Str) ∈ G.fb) (hT1 : isT T1 = true) (hT2 : isT T2 = true) (hg1 : Gl X (PySem.Str.ofString T1)) (hf1 : (PySem.Str.ofString T1) ∈ G.fb) (hg2 : Gl X (PySem.Str.ofString T2)) (hf2 : (PySem.Str.ofString T2) ∈ G.fb) (ha : PE X a (lift G B ta)) (hp : plainE a = true) :
    PE X (.Call (.Name "isinstance" p) [a, .Tuple [.Name (PySem.Str.ofString T1) q1, .Name (PySem.Str.ofString T2) q2] kt q3] [] pos) (lift G B fun ρ M Q => ta ρ M fun d M1 => match tyD M1 d with
      | some U => match kitsB U [T1, T2] with
        | some r => Q (.bl r) M1
        | none => False
      | none => False) := by
  obtain ⟨b1, b2, b3⟩ := isT_boot hT1
  obtain ⟨c1, c2, c3⟩ := isT_boot hT2
  have e1 : PE X (.Name (PySem.Str.ofString T1) q1) (tC (.ty T1)) := pe_bltn hg1 (by rw [C.eM]; exact C.fb _ hf1) b1 rfl b2 b3
  have e2 : PE X (.Name (PySem.Str.ofString T2) q2) (tC (.ty T2)) := pe_bltn hg2 (by rw [C.eM]; exact C.fb _ hf2) c1 rfl c2 c3
  have et : PE X (.Tuple [.Name (PySem.Str.ofString T1) q1, .Name (PySem.Str.ofString T2) q2] kt q3) _ := pe_tup (pa_cons e1 (pa_cons e2 pa_nil (by rfl)) (by rfl))
  refine (pe_callB call_isiYT hg (by rw [C.eM]; exact C.fb _ hf) (by decide +kernel) (pa_cons ha (pa_cons et pa_nil (by rfl)) (star_plain hp _ _)) (by decide +kernel) (by decide +kernel) (star_plain hp _ _) (by rfl)).weak fun σ H Q ⟨ρ, M, Q0, st, rs, rm, q, ok⟩ => ?_
  refine ⟨ρ, M, _, st, rs, rm, q, fun d M1 H1 x q1 r1 m1 s1 => ?_⟩
  (try dsimp only at q1)
  split at q1
  · rename_i U eU
    split at q1
    · rename_i r er
      refine ⟨by show 2 ≤ sizeLine; rw [sizeLine_eq]; decide, fun tp htp => ?_⟩
      have s2 : Step H1 M1 (upd H1 tp (.tup [.ty T1, .ty T2])) M1 := Step.hid htp
      refine ⟨x, tp, [.ty T1, .ty T2], .type U, [.type T1, .type T2], r, rfl, upd_same, clsV_all [T1, T2], tyD_ok C.eK (RepD.keep s2.kp _ _ r1) (m1.skip htp) eU, kitsB_ok er, ok _ _ _ _ q1 (RepD.bl.mpr rfl) (m1.skip htp) (s1.trans s2)⟩
    · exact q1.elim
  · exact q1.elim
end
end DL
set_option Elab.async false
set_option linter.all false
set_option maxRecDepth 100000
set_option maxHeartbeats 1000000
/-! DLZ: enumerate over lists, tuples, texts. -/
namespace PySem
open Sem (wp)
set_option maxHeartbeats 1000000 in
theorem dl_meets_enum1 {v : Value} {o : Obj} {H : Heap → Prop} (B : Begins v o H) :
    Meets (Builtin.«enumerate.__new__» ⟨[.type "enumerate", v], []⟩) (fun _ R s => H s.heap ∧
      R (.ok (.ret (.ref (s.heap.push o).objs.size))) { s with heap := (s.heap.push o).push { cls := .type "enumerate", data := .fields #[.none, .bool false, .ref s.heap.objs.size, rawInt 0, .none, .none] } }) :=
  .of_wp fun prog w A R s h => by
    obtain ⟨hp, g, d, tk, os⟩ := s; obtain ⟨h1, h⟩ := h
    have hsub := sub_enumerate
    have q1 : ∀ {A' : Around} {E : Value → Shared → Prop} {Q : Value → Shared → Prop}, Q (.ref hp.objs.size) ⟨hp.push o, g, d, tk, os⟩ → wpAny (model prog w) A' (pyIter v) Q E ⟨hp, g, d, tk, os⟩ :=
      fun q => B.iter prog w _ _ ⟨hp, g, d, tk, os⟩ _ h1 q
    wp_walk using q1
    refine wpAny_stack_any fun st => wpAny_pure ?_
    split
    · rename_i c _ _ _ _ _
      cases (c == Value.type "enumerate")
      · wp_walk using q1
        exact ⟨_, rfl, h⟩
      · wp_walk using q1
        exact ⟨_, rfl, h⟩
    · wp_walk using q1
      exact ⟨_, rfl, h⟩
theorem dl_enum_begins {prog : Program} {w : World} {A : Around} {E : Value → Shared → Prop} {s : Shared} {v : Value} {o : Obj} {H : Heap → Prop} {Q : Value → Shared → Prop} (B : Begins v o H) (h1 : H s.heap)
    (h : ∀ h', IsEnum h' (s.heap.objs.size + 1) s.heap.objs.size 0 .none → h'.get? s.heap.objs.size = some o → h'.objs.size = s.heap.objs.size + 2 →
      (∀ b o, s.heap.get? b = some o → h'.get? b = some o) → Q (.ref (s.heap.objs.size + 1)) { s with heap := h' }) :
    wpAny (model prog w) A (call (.type "enumerate") [v]) Q E s := by
  refine callType_new F.called_enumerate (by decide) (F.typeCall_enumerate_1 _) (F.newCall_enumerate_1 _) (fun obj => F.args_object_init_2 obj _) F.entry_enumerate_new
    (dl_meets_enum1 B) ⟨h1, ?_⟩
  have hz : (s.heap.push o).objs.size = s.heap.objs.size + 1 := Heap.size_push ..
  show _ ∧ _
  rw [hz]
  have he : IsEnum ((s.heap.push o).push { cls := .type "enumerate", data := .fields #[.none, .bool false, .ref s.heap.objs.size, rawInt 0, .none, .none] }) (s.heap.objs.size + 1) s.heap.objs.size 0 .none := by
    have := Heap.get?_push_size (s.heap.push o) (o := { cls := .type "enumerate", data := .fields #[.none, .bool false, .ref s.heap.objs.size, rawInt 0, .none, .none] }) rfl
    rw [hz] at this; exact this
  refine ⟨⟨_, he, rfl⟩, h _ he (Heap.get?_push_of_some _ (Heap.get?_push_size _ B.free)) (by rw [Heap.size_push, hz]) fun b o x => Heap.get?_push_of_some _ (Heap.get?_push_of_some _ x)⟩
end PySem
namespace DL
open PySem PySem.Spec PyProof.Rows L2

/-! ### a tuple -/
def IteT (K : PySem.W.Frag) (a : Addr) : It :=
  ⟨fun i H => ∃ (xs : List V) (x : V), SqT K H a xs ∧ xs[i]? = some x, fun i H v H' => ∃ T x, v = .ref T ∧ H T = none ∧ H' = upd H T (.tup [.int (i : Nat), x]) ∧ ∀ xs, SqT K H a xs → xs[i]? = some x, fun i H => ∃ xs : List V, SqT K H a xs ∧ i = xs.length⟩
theorem turn_enumT {P : Program} {w : World} {K : PySem.W.Frag} {elts : List Expr} {kk : Nat} {tpos : Pos} (a e it : Addr) :
    Turn P w K (.Tuple elts kk tpos) (IteT K a) [e, it] e (fun i h => (∃ old, IsEnum h e it ((i : Nat) : Int) old) ∧ h.IsTupleIter it a i ∧ e ≠ it) where
  mem := by simp
  obj := fun i h st b hb => by
    obtain ⟨⟨old, he⟩, ⟨o, ho, hc, hd⟩, _⟩ := st
    have e' : b = e ∨ b = it := by simpa using hb
    rcases e' with z | z
    · rw [z]; exact ⟨_, he, fun v q => nomatch q⟩
    · rw [z]; exact ⟨o, ho, fun v q => by rw [hd] at q; cases q⟩
  keep := fun i h h' st k => let ⟨⟨old, he⟩, hi, hne⟩ := st; ⟨⟨old, k e (by simp) _ he⟩, hi.at fun o q => k it (by simp) o q, hne⟩
  item := by
    intro X hP hw hK hc i pins s σ H E I hf st hg
    subst hP hw hK
    obtain ⟨⟨old, he⟩, hit, hne⟩ := st
    obtain ⟨xs, x, hq, hx⟩ := hg
    obtain ⟨its, rv, p, hz⟩ := I.tuple hq
    obtain ⟨u, hu, ru⟩ := rv.get hx
    have hel : e < s.heap.objs.size := Heap.lt_size he
    have hil : it < s.heap.objs.size := by obtain ⟨_, q, _⟩ := hit; exact Heap.lt_size q
    have ne1 : a ≠ it := fun z => by
      obtain ⟨o1, h1, h2, _⟩ := p
      obtain ⟨o2, h3, h4, _⟩ := hit
      rw [z, h3] at h1; cases h1
      rw [h4] at h2; exact absurd (Value.type.inj h2) (by decide)
    have ne2 : a ≠ e := fun z => by
      obtain ⟨o1, h1, h2, _⟩ := p
      rw [z, he] at h1; cases h1
      exact absurd (Value.type.inj h2) (by decide)
    have D := Draws.tuple (prog := X.prog) (w := X.w) (A := X.A.in1) (I.ok.hd hc) it a ne1 its.toArray
    have hlt : i < its.toArray.size := by
      have h1 := (List.getElem?_eq_some_iff.mp hx).1
      have h2 := rv.length
      simp; omega
    refine wpAny_pyNext_enum_itemD D he ⟨hit, p⟩ hlt hne (by simp [hne, Ne.symm ne2]) fun y h' tk hy ho hst' hT hsz hk => ?_
    have eyu : y = u := by
      have h1 : its[i]? = some y := by simpa using hy
      rw [hu] at h1; exact (Option.some.inj h1).symm
    subst eyu
    refine ⟨_, rfl, wpAny_letOwnedTupleGo_enum (s := { s with heap := h', toks := tk + 1 }) ho fun h'' he' sb => ?_⟩
    have hT2 : h''.get? s.heap.objs.size = some { cls := .type "tuple", data := .seq #[.int i tk, y] } := (sb.2 _ (Nat.ne_of_gt hel)).trans hT
    have new : ObjOk X.prog X.w (upd H s.heap.objs.size (.tup [.int (i : Nat), x])) h'' s.heap.objs.size (.tup [.int (i : Nat), x]) :=
      ⟨by show 2 ≤ sizeLine; decide, [.int i tk, y], .cons ⟨_, rfl⟩ (.cons ru .nil), ⟨_, hT2, rfl, _, rfl⟩⟩
    have I1 : Inv X pins σ (upd H s.heap.objs.size (.tup [.int (i : Nat), x])) { s with heap := h'', toks := tk + 1 } :=
      I.turnedNew (ch := [e, it]) (fun b ob hb q => (sb.2 b (fun z => hb (by simp [z]))).trans (hk b ob (fun z => hb (by simp [z])) (fun z => hb (by simp [z])) q)) hf (Nat.le_refl _) new
    refine ⟨.ref s.heap.objs.size, _, I1, rfl, ⟨_, x, rfl, I.hok.fresh (Nat.le_refl _), rfl, fun ys hy => by rw [I.tuple_inj hy hq]; exact hx⟩, ⟨⟨y, ?_⟩, hst'.1.at fun o q => (sb.2 it (Ne.symm hne)).trans q, hne⟩, fun b hb => ?_⟩
    · have e1 : ((i + 1 : Nat) : Int) = (i : Int) + 1 := by omega
      rw [e1]; exact he'
    · have hb' : b < s.heap.objs.size := by
        have e' : b = e ∨ b = it := by simpa using hb
        rcases e' with z | z
        · rw [z]; exact hel
        · rw [z]; exact hil
      rw [upd_ne (Nat.ne_of_lt hb')]
      exact (hf b hb).1
  done := by
    intro X hP hw hK hc i pins s σ H E I hf st hg
    subst hP hw hK
    obtain ⟨⟨old, he⟩, hit, hne⟩ := st
    obtain ⟨xs, hq, hx⟩ := hg
    obtain ⟨its, rv, p, hz⟩ := I.tuple hq
    obtain ⟨f0, f1, f2, f3, f4, f5⟩ := hf it (by simp)
    have ne1 : a ≠ it := fun z => by
      obtain ⟨o1, h1, h2, _⟩ := p
      obtain ⟨o2, h3, h4, _⟩ := hit
      rw [z, h3] at h1; cases h1
      rw [h4] at h2; exact absurd (Value.type.inj h2) (by decide)
    have D := Draws.tuple (prog := X.prog) (w := X.w) (A := X.A.in1) (I.ok.hd hc) it a ne1 its.toArray
    have hn : i = its.toArray.size := by rw [hx, rv.length]; simp
    subst hn
    exact wpAny_pyNext_enum_endD D he ⟨hit, p⟩ fun h' eb => ⟨rfl, I.turned (t' := s.toks) (fun b o hb q => eb b o hb q) f0 f1 f3 f4 f5⟩
  self := fun A i s Q E st h => let ⟨⟨_, he⟩, _⟩ := st; wpAny_pyIter_enum he h

section
variable {X : Cx} {G : Cfg} {N : List Str} {sc : Scope} {B : Bs} {pos p2 p3 p4 tpos : Pos} {a b c tg e : Expr} {ta tb tc : TD} {x : Str} {p apos : Pos} {es elts : List Expr} {n kk : Nat} {t : TDA}
theorem enu_get : ∀ (xs : List D) (k i : Nat), (enuL k xs)[i]? = (xs[i]?).map fun x => .tup [.int ((k + i : Nat) : Int), x]
  | [], k, i => by simp [enuL]
  | x :: xs, k, 0 => by simp [enuL]
  | x :: xs, k, i + 1 => by
    have := enu_get xs (k + 1) i
    simp only [enuL, List.getElem?_cons_succ, this]
    congr 1
    funext y
    have : k + 1 + i = k + (i + 1) := by omega
    rw [this]
theorem enu_len : ∀ (xs : List D) (k : Nat), (enuL k xs).length = xs.length
  | [], k => rfl
  | x :: xs, k => by simp [enuL, enu_len xs (k + 1)]
theorem it_enuT (C : CtxK X G N sc) {l : Addr} {xs : List D} {vs : List V} {H0 : Hp} (hp : SqT G.K H0 l vs) (rp : RepL G.K H0 xs vs) : ItD G H0 (IteT X.K l) ⟨enuL 0 xs, fun _ => True⟩ where
  go := fun i H M k hi m ok => by
    have hi' : i < vs.length := by rw [← rp.length]; rw [show (Its.mk (enuL 0 xs) fun _ => True).xs = enuL 0 xs from rfl, enu_len] at hi; exact hi
    exact ⟨vs, vs[i], by rw [C.eK]; exact sqT_keep k hp, List.getElem?_eq_getElem hi'⟩
  yld := fun i H y H' M k hi m ok z => by
    obtain ⟨T, x, rfl, hT, rfl, hx⟩ := z
    obtain ⟨d, ed, rd⟩ := rp.getV (hx vs (by rw [C.eK]; exact sqT_keep k hp))
    have rd' := RepD.keep (k.trans (Keep.new (o := .tup [.int (i : Nat), x]) hT)) _ _ rd
    refine ⟨.tup [.int i, d], by show (enuL 0 xs)[i]? = _; rw [enu_get, ed]; simp, RepD.tup.mpr ⟨T, [.int i, x], rfl, .inl (.inl upd_same), RepL.cons.mpr ⟨_, _, rfl, RepD.int.mpr rfl, RepL.one rd'⟩⟩, m.skip hT, Step.hid hT⟩
  stop := fun H M k m ok => ⟨vs, by rw [C.eK]; exact sqT_keep k hp, by show (enuL 0 xs).length = _; rw [enu_len]; exact rp.length⟩
theorem it_enuL (C : CtxK X G N sc) {l : Addr} {xs : List D} {H0 : Hp} : ItD G H0 (Ite X.K l) ⟨enuL 0 xs, fun M => rdL M l = some xs⟩ where
  go := fun i H M _ hi m ok => by
    obtain ⟨vs, hp, rp⟩ := rdL_ok m ok
    have hi' : i < vs.length := by rw [← rp.length]; rw [show (Its.mk (enuL 0 xs) fun M => rdL M l = some xs).xs = enuL 0 xs from rfl, enu_len] at hi; exact hi
    exact ⟨vs, vs[i], by rw [C.eK]; exact hp, List.getElem?_eq_getElem hi'⟩
  yld := fun i H y H' M k hi m ok z => by
    obtain ⟨T, x, rfl, hT, rfl, hx⟩ := z
    obtain ⟨vs, hp, rp⟩ := rdL_ok m ok
    obtain ⟨d, ed, rd⟩ := rp.getV (hx vs (by rw [C.eK]; exact hp))
    have rd' := RepD.keep (Keep.new (o := .tup [.int (i : Nat), x]) hT) _ _ rd
    refine ⟨.tup [.int i, d], by show (enuL 0 xs)[i]? = _; rw [enu_get, ed]; simp, RepD.tup.mpr ⟨T, [.int i, x], rfl, .inl (.inl upd_same), RepL.cons.mpr ⟨_, _, rfl, RepD.int.mpr rfl, RepL.one rd'⟩⟩, m.skip hT, Step.hid hT⟩
  stop := fun H M k m ok => by
    obtain ⟨vs, hp, rp⟩ := rdL_ok m ok
    exact ⟨vs, by rw [C.eK]; exact hp, by show vs.length ≤ (enuL 0 xs).length; rw [enu_len, rp.length]; exact Nat.le_refl _⟩
theorem li_enu (C : CtxK X G N sc) (hg : Gl X "enumerate") (hf : ("enumerate" : Str) ∈ G.fb) (ha : PE X a (lift G B ta)) (hp : plainE a = true) :
    PI X (.Tuple elts kk tpos) (.Call (.Name "enumerate" p) [a] [] pos) (liftI G B fun ρ M R => ta ρ M fun d M1 => enuOf d M1 R) := by
  refine ⟨fun pins s σ H R I h => ?_⟩
  obtain ⟨ρ, M, R0, st, rs, rm, q, ok⟩ := h
  have A := la_cons (n := 0) ha la_nil hp
  refine Call_ (ld_blt I hg (by rw [C.eM]; exact C.fb _ hf) boot_enumerate (PyProof.Rows.callWith_type1 (thn (A.run pos pins s σ H (fun vs H1 => ∃ d M1, enuOf d M1 R0 ∧ RepL G.K H1 [d] vs ∧ RepM G H1 M1 ∧ Step H M H1 M1) I ⟨ρ, M, fun ds M' => ∃ d, ds = [d] ∧ enuOf d M' R0, st, rs, rm, ?_, fun ds M1 H1 vs l q1 r1 m1 s1 => ?_⟩) fun us s1 hus => ?_) (star_plain hp _ _) rfl))
  · have : (fun d M1 => enuOf d M1 R0) = (fun d M1 => ∃ d', [d] = [d'] ∧ enuOf d' M1 R0) := by
      funext d M1
      exact propext ⟨fun h => ⟨d, rfl, h⟩, fun ⟨d', e, h⟩ => by cases e; exact h⟩
    show ta ρ M (fun d M1 => ∃ d', [d] = [d'] ∧ enuOf d' M1 R0)
    rw [← this]; exact q
  · obtain ⟨d, rfl, q1⟩ := q1
    exact ⟨d, M1, q1, r1, m1, s1⟩
  · obtain ⟨vs, H1, I1, rv, d, M1, q1, r1, m1, s1'⟩ := hus
    obtain ⟨v, rfl, rd⟩ := rep1 r1
    cases rv with
    | cons r rr =>
      cases rr
      unfold enuOf at q1
      split at q1
      · rename_i xs
        obtain ⟨l, ws, rfl, hq, rp⟩ := RepD.tup.mp rd
        cases r
        obtain ⟨its, rvv, p', hz⟩ := I1.tuple (by rw [C.eK]; exact hq)
        refine dl_enum_begins (begins_tuple l its.toArray) (show s1.heap.IsTuple l its.toArray from p') fun h' he hit hsz hk => wpAny_pyIter_enum he ?_
        have I2 : Inv X pins σ H1 { s1 with heap := h' } := I1.kept (t' := s1.toks) hk
        refine ⟨s1.heap.objs.size + 1, [s1.heap.objs.size + 1, s1.heap.objs.size], _, _, H1, rfl, I2, turn_enumT l (s1.heap.objs.size + 1) s1.heap.objs.size, ⟨⟨.none, he⟩, ⟨_, hit, rfl, rfl⟩, Nat.succ_ne_self _⟩, fun b hb => ?_, ok _ _ _ _ q1 m1 s1' (it_enuT C hq rp)⟩
        have e' : b = s1.heap.objs.size + 1 ∨ b = s1.heap.objs.size := by simpa using hb
        have hle : s1.heap.objs.size ≤ b := by
          rcases e' with z | z
          · rw [z]; exact Nat.le_add_right _ _
          · rw [z]; exact Nat.le_refl _
        exact I1.fpOk hle (I1.hok.fresh hle)
      · rename_i l
        rw [RepD.obj] at rd; subst rd
        split at q1
        · rename_i xs e0
          cases r
          obtain ⟨ws, hq, rp⟩ := rdL_ok m1 e0
          obtain ⟨its, rvv, p', hz⟩ := I1.list (by rw [C.eK]; exact hq)
          refine call_enumerate_list p'.isList fun h' he hit hsz hk => wpAny_pyIter_enum he ?_
          have I2 : Inv X pins σ H1 { s1 with heap := h' } := I1.kept (t' := s1.toks) hk
          refine ⟨s1.heap.objs.size + 1, [s1.heap.objs.size + 1, s1.heap.objs.size], _, _, H1, rfl, I2, turn_enum l (s1.heap.objs.size + 1) s1.heap.objs.size, ⟨⟨.none, he⟩, hit, Nat.succ_ne_self _⟩, fun b hb => ?_, ok _ _ _ _ q1 m1 s1' (it_enuL C)⟩
          have e' : b = s1.heap.objs.size + 1 ∨ b = s1.heap.objs.size := by simpa using hb
          have hle : s1.heap.objs.size ≤ b := by
            rcases e' with z | z
            · rw [z]; exact Nat.le_add_right _ _
            · rw [z]; exact Nat.le_refl _
          exact I1.fpOk hle (I1.hok.fresh hle)
        · exact q1.elim
      · exact q1.elim
end
end DL
set_option Elab.async false
set_option linter.all false
set_option maxRecDepth 100000
/-! DL9: statements. -/
namespace DL
open PySem PySem.Spec PyProof.Rows L2

section
variable {X : Cx} {G : Cfg} {N : List Str} {sc : Scope} {B : Bs} {W : WD} {pos p2 : Pos} {a b c tg e : Expr} {ta tb tc : TD} {x : Str} {p apos : Pos} {es : List Expr} {n : Nat} {t : TDA} {u v : TDS} {st : Stmt} {rest : List Stmt}

theorem lss_nil : PSs X [] (liftS G B fun D ρ M => D.nx ρ M) := pss_nil.weak fun D σ H ⟨ρ, M, D0, st, rs, rm, q, ok⟩ => ok.nx ρ M σ H q rs rm Step.rfl'
theorem lss_cons (h1 : PS X st (liftS G B u)) (h2 : PSs X rest (liftS G B v)) : PSs X (st :: rest) (liftS G B fun D ρ M => ∃ Mid : En → Mem → Prop, u { D with nx := Mid } ρ M ∧ ∀ ρ' M', Mid ρ' M' → ∃ M'', Sub M'' M' ∧ v D ρ' M'') := by
  refine (pss_cons h1 h2).weak fun D σ H ⟨ρ, M, D0, st, rs, rm, ⟨Mid, q, k⟩, ok⟩ => ?_
  refine ⟨ρ, M, _, st, rs, rm, q, ⟨fun ρ1 M1 σ1 H1 q1 rs1 m1 s1 => ?_, ok.rt, ok.bk, ok.ct⟩⟩
  obtain ⟨M2, sb, q2⟩ := k ρ1 M1 q1
  exact ⟨ρ1, M2, D0, (st.trans s1).sub sb, rs1, m1.sub sb, q2, ok.on (s1.sub sb)⟩
theorem ls_pas : PS X (.Pass pos) (liftS G B fun D ρ M => D.nx ρ M) := ps_pass.weak fun D σ H ⟨ρ, M, D0, st, rs, rm, q, ok⟩ => ok.nx ρ M σ H q rs rm Step.rfl'
theorem ls_brk : PS X (.Break pos) (liftS G B fun D ρ M => D.bk ρ M) := ps_break.weak fun D σ H ⟨ρ, M, D0, st, rs, rm, q, ok⟩ => ok.bk ρ M σ H q rs rm Step.rfl'
theorem ls_cnt : PS X (.Continue pos) (liftS G B fun D ρ M => D.ct ρ M) := ps_continue.weak fun D σ H ⟨ρ, M, D0, st, rs, rm, q, ok⟩ => ok.ct ρ M σ H q rs rm Step.rfl'
theorem ls_ret (ha : PE X a (lift G B ta)) : PS X (.Return (some a) pos) (liftS G B fun D ρ M => ta ρ M D.rt) := (ps_ret ha).weak fun D σ H ⟨ρ, M, D0, st, rs, rm, q, ok⟩ => ⟨ρ, M, _, st, rs, rm, q, ok.rt⟩
theorem ls_retN : PS X (.Return none pos) (liftS G B fun D _ M => D.rt .non M) := ps_retN.weak fun D σ H ⟨ρ, M, D0, st, rs, rm, q, ok⟩ => ok.rt _ M H _ q (RepD.non.mpr rfl) rm Step.rfl'
theorem ls_ex (ha : PE X a (lift G B ta)) (hs : swapsWith a none pos.line X.env = pure false) : PS X (.Expr a pos) (liftS G B fun D ρ M => ta ρ M fun _ M1 => D.nx ρ M1) :=
  (ps_expr ha hs).weak fun D σ H ⟨ρ, M, D0, st, rs, rm, q, ok⟩ => ⟨ρ, M, _, st, rs, rm, q, fun d M1 H1 x q1 r1 m1 s1 => ok.nx ρ M1 σ H1 q1 (rs.keep s1.kp) m1 s1⟩
theorem ls_if {p q : List Stmt} {tt : TDT} (hc : PT X c (liftT G B tt)) (ha : PSs X p (liftS G B u)) (hb : PSs X q (liftS G B v)) : PS X (.If c p q pos) (liftS G B fun D ρ M => tt ρ M fun k M1 => if k = true then u D ρ M1 else v D ρ M1) := by
  refine (ps_if hc ha hb).weak fun D σ H ⟨ρ, M, D0, st, rs, rm, q, ok⟩ => ?_
  refine ⟨ρ, M, _, st, rs, rm, q, fun k M1 H1 q1 m1 s1 => ?_⟩
  cases k with
  | true => exact ⟨ρ, M1, D0, st.trans s1, rs.keep s1.kp, m1, q1, ok.on s1⟩
  | false => exact ⟨ρ, M1, D0, st.trans s1, rs.keep s1.kp, m1, q1, ok.on s1⟩
theorem ls_whl {body : List Stmt} {tt : TDT} (hp : PassesOwn (model X.prog X.w) X.A X.env X.xe) (hc : PT X c (liftT G B tt)) (hb : PSs X body (liftS G B u)) : PS X (.While c body [] pos) (liftS G B fun D ρ M => ∃ I : Nat → En → Mem → Prop, (∃ m, I m ρ M) ∧ ∀ m ρ M, I m ρ M → tt ρ M fun k M1 =>
    if k = true then u { D with nx := fun ρ' M' => ∃ m' M'', m' < m ∧ Sub M'' M' ∧ I m' ρ' M'', ct := fun ρ' M' => ∃ m' M'', m' < m ∧ Sub M'' M' ∧ I m' ρ' M'', bk := D.nx } ρ M1 else D.nx ρ M1) := by
  refine (ps_while hp hc hb).weak fun D σ H ⟨ρ, M, D0, st, rs, rm, ⟨I, ⟨m0, i0⟩, tn⟩, ok⟩ => ?_
  refine ⟨fun m σ' H' => ∃ ρ' M', Step H M H' M' ∧ RepS G.K H' ρ' σ' ∧ RepM G H' M' ∧ I m ρ' M', ⟨m0, ρ, M, Step.rfl', rs, rm, i0⟩, ?_⟩
  rintro m σ1 H1 ⟨ρ1, M1, s1, rs1, m1, i1⟩
  refine ⟨ρ1, M1, _, st.trans s1, rs1, m1, tn m ρ1 M1 i1, fun k M2 H2 q2 m2 s2 => ?_⟩
  cases k with
  | true =>
    rw [if_pos rfl] at q2 ⊢
    have go : ∀ {ρ' : En} {M' : Mem} {σ' : L2.St} {H' : Hp}, (∃ m' M'', m' < m ∧ Sub M'' M' ∧ I m' ρ' M'') → RepS G.K H' ρ' σ' → RepM G H' M' → Step H2 M2 H' M' → ∃ m', m' < m ∧ ∃ ρ' M', Step H M H' M' ∧ RepS G.K H' ρ' σ' ∧ RepM G H' M' ∧ I m' ρ' M' := fun {ρ' M' σ' H'} ⟨m', M'', lt, sb, i'⟩ rs' rm' s' =>
      ⟨m', lt, ρ', M'', ((s1.trans s2).trans s').sub sb, rs', rm'.sub sb, i'⟩
    refine ⟨fun σ' H' => ∃ m', m' < m ∧ ∃ ρ' M', Step H M H' M' ∧ RepS G.K H' ρ' σ' ∧ RepM G H' M' ∧ I m' ρ' M', fun σ' H' z => z, ?_⟩
    refine ⟨ρ1, M2, _, (st.trans s1).trans s2, rs1.keep s2.kp, m2, q2, ⟨fun ρ' M' σ' H' q' rs' rm' s' => go q' rs' rm' s', (ok.on (s1.trans s2)).rt, (ok.on (s1.trans s2)).nx, fun ρ' M' σ' H' q' rs' rm' s' => go q' rs' rm' s'⟩⟩
  | false =>
    exact ok.nx ρ1 M2 σ1 H2 q2 (rs1.keep s2.kp) m2 (s1.trans s2)
theorem ls_for {iter : Expr} {body : List Stmt} {ti : TDI} {g : Tg} {sl : List Nat} (C : CtxOk X G N sc) (hp : PassesOwn (model X.prog X.w) X.A X.env X.xe) (hi : PI X tg iter (liftI G B ti)) (hg : PG X tg (liftG G sl (wpTg g))) (hb : PSs X body (liftS G B u)) (hpl : plainE iter = true) :
    PS X (.For tg iter body [] pos) (liftS G B fun D ρ M => ti ρ M fun J M1 => ∃ I : Nat → En → Mem → Prop, I 0 ρ M1 ∧ ∀ i ρ M, I i ρ M → J.ok M ∧ match J.xs[i]? with
    | none => D.nx ρ M
    | some d => wpTg g d ρ fun ρ' => u { D with nx := fun ρ'' M' => ∃ M'', Sub M'' M' ∧ I (i + 1) ρ'' M'', ct := fun ρ'' M' => ∃ M'', Sub M'' M' ∧ I (i + 1) ρ'' M'', bk := D.nx } ρ' M) := by
  refine (ps_for hp C.calm hi hg hb (folded_plain hpl _)).weak fun D σ H ⟨ρ, M, D0, st, rs, rm, q, ok⟩ => ?_
  refine ⟨ρ, M, _, st, rs, rm, q, fun J M1 H1 J' q1 m1 s1 hJ => ?_⟩
  obtain ⟨I, i0, tn⟩ := q1
  refine ⟨fun i m σ' H' => m = J.xs.length - i ∧ i ≤ J.xs.length ∧ ∃ ρ' M', Step H1 M1 H' M' ∧ RepS G.K H' ρ' σ' ∧ RepM G H' M' ∧ I i ρ' M', ⟨_, rfl, Nat.zero_le _, ρ, M1, Step.rfl', rs.keep s1.kp, m1, i0⟩, ?_⟩
  rintro i m σ2 H2 ⟨rfl, hi, ρ2, M2, s2, rs2, m2, i2⟩
  obtain ⟨jo, h2⟩ := tn i ρ2 M2 i2
  by_cases hlt : i < J.xs.length
  · rw [List.getElem?_eq_getElem hlt] at h2
    dsimp only at h2
    refine .inr ⟨hJ.go i H2 M2 s2.kp hlt m2 jo, fun σ' H' => ∃ ρ' M', Step H1 M1 H' M' ∧ RepS G.K H' ρ' σ' ∧ RepM G H' M' ∧ I (i + 1) ρ' M', fun σ' H' z => ⟨_, by omega, rfl, hlt, z⟩, fun y H' yl => ?_⟩
    obtain ⟨d, ed, rd, m', s'⟩ := hJ.yld i H2 y H' M2 s2.kp hlt m2 jo yl
    rw [List.getElem?_eq_getElem hlt] at ed
    cases ed
    refine ⟨_, ρ2, _, rd, rs2.keep s'.kp, h2, fun ρ3 σ3 q3 rs3 off => ?_⟩
    have go : ∀ {ρ' : En} {M' : Mem} {σ' : L2.St} {H4 : Hp}, (∃ M'', Sub M'' M' ∧ I (i + 1) ρ' M'') → RepS G.K H4 ρ' σ' → RepM G H4 M' → Step H' M2 H4 M' → ∃ ρ' M', Step H1 M1 H4 M' ∧ RepS G.K H4 ρ' σ' ∧ RepM G H4 M' ∧ I (i + 1) ρ' M' := fun {ρ' M' σ' H4} ⟨M'', sb, i'⟩ rs' rm' s4 =>
      ⟨ρ', M'', ((s2.trans s').trans s4).sub sb, rs', rm'.sub sb, i'⟩
    have okk := ok.on ((s1.trans s2).trans s')
    exact ⟨ρ3, M2, _, ((st.trans s1).trans s2).trans s', rs3, m', q3, ⟨fun ρ' M' σ' H' q' rs' rm' s' => go q' rs' rm' s', okk.rt, okk.nx, fun ρ' M' σ' H' q' rs' rm' s' => go q' rs' rm' s'⟩⟩
  · have e : i = J.xs.length := by omega
    subst e
    rw [List.getElem?_eq_none (Nat.le_refl _)] at h2
    exact .inl ⟨hJ.stop H2 M2 s2.kp m2 jo, ok.nx ρ2 M2 σ2 H2 h2 rs2 m2 (s1.trans s2)⟩

/-! ### stores -/
theorem ls_asg {g : Tg} {sl : List Nat} (he : PE X e (lift G B ta)) (hg : PG X tg (liftG G sl (wpTg g))) (hs : swapsWithSole [tg] e pos.line X.env = pure false) (hw : swappedStores [tg] e X.env = pure none) (hp : plainT tg = true) :
    PS X (.Assign [tg] e pos) (liftS G B fun D ρ M => ta ρ M fun d M1 => wpTg g d ρ fun ρ' => D.nx ρ' M1) := by
  refine (ps_asg he hg hs hw (by rw [asg_plain hp]; rfl)).weak fun D σ H ⟨ρ, M, D0, st, rs, rm, q, ok⟩ => ?_
  refine ⟨ρ, M, _, st, rs, rm, q, fun d M1 H1 y q1 r1 m1 s1 => ?_⟩
  exact ⟨d, ρ, _, r1, rs.keep s1.kp, q1, fun ρ' σ' q2 rs2 off => ok.nx ρ' M1 σ' H1 q2 rs2 m1 s1⟩
theorem ls_par2 {i j : Nat} {y : Str} {px py pt pp : Pos} {kt k2 : Nat} (C : CtxOk X G N sc) (hi : N[i]? = some x) (hj : N[j]? = some y) (hij : i ≠ j) (hx : sc.names.lookup x = some .local) (hy : sc.names.lookup y = some .local)
    (ha : PE X a (lift G B ta)) (hb : PE X b (lift G B tb)) (pa : plainE a = true) (pb : plainE b = true)
    (hw : swappedStores [.Tuple [.Name x px, .Name y py] kt pt] (.Tuple [a, b] k2 pp) X.env = pure (some [x, y])) :
    PS X (.Assign [.Tuple [.Name x px, .Name y py] kt pt] (.Tuple [a, b] k2 pp) pos) (liftS G B fun D ρ M => ta ρ M fun d M1 => tb ρ M1 fun f M2 => D.nx ((ρ.set i (some d)).set j (some f)) M2) := by
  have A := la_cons (n := 1) ha (la_cons (n := 0) hb la_nil pb) pa
  refine (ps_par (i := i) (j := j) C.calm (by rw [C.eN]; exact C.nd) (by rw [C.eN]; exact hi) (by rw [C.eN]; exact hj) hij (by rw [C.eS]; exact hx) (by rw [C.eS]; exact hy) A hw rfl).weak fun D σ H ⟨ρ, M, D0, st, rs, rm, q, ok⟩ => ?_
  refine ⟨ρ, M, fun ds M' => ∃ d f, ds = [d, f] ∧ D0.nx ((ρ.set i (some d)).set j (some f)) M', st, rs, rm, ?_, fun ds M1 H1 vs l q1 r1 m1 s1 => ?_⟩
  · exact (show ta ρ M _ from by
      have : (fun d M1 => tb ρ M1 fun f M2 => D0.nx ((ρ.set i (some d)).set j (some f)) M2) = (fun d M1 => tb ρ M1 fun f M2 => ∃ d' f', [d, f] = [d', f'] ∧ D0.nx ((ρ.set i (some d')).set j (some f')) M2) := by
        funext d M1
        congr 1
        funext f M2
        exact propext ⟨fun h => ⟨d, f, rfl, h⟩, fun ⟨d', f', e, h⟩ => by cases e; exact h⟩
      rw [← this]; exact q)
  · obtain ⟨d, f, rfl, q1⟩ := q1
    obtain ⟨v, w, rfl, r2, r3⟩ := rep2 r1
    exact ⟨v, w, rfl, ok.nx _ M1 _ H1 q1 (((rs.keep s1.kp).set i r2).set j r3) m1 s1⟩
theorem ls_par3 {i j l : Nat} {y z : Str} {px py pz pt pp : Pos} {kt k2 : Nat} (C : CtxOk X G N sc) (hi : N[i]? = some x) (hj : N[j]? = some y) (hl : N[l]? = some z) (hij : i ≠ j) (hil : i ≠ l) (hjl : j ≠ l) (hx : sc.names.lookup x = some .local) (hy : sc.names.lookup y = some .local) (hz : sc.names.lookup z = some .local)
    (ha : PE X a (lift G B ta)) (hb : PE X b (lift G B tb)) (hc : PE X c (lift G B tc)) (pa : plainE a = true) (pb : plainE b = true) (pc : plainE c = true)
    (hw : swappedStores [.Tuple [.Name x px, .Name y py, .Name z pz] kt pt] (.Tuple [a, b, c] k2 pp) X.env = pure (some [x, y, z])) :
    PS X (.Assign [.Tuple [.Name x px, .Name y py, .Name z pz] kt pt] (.Tuple [a, b, c] k2 pp) pos) (liftS G B fun D ρ M => ta ρ M fun d M1 => tb ρ M1 fun f M2 => tc ρ M2 fun g M3 => D.nx (((ρ.set i (some d)).set j (some f)).set l (some g)) M3) := by
  have A := la_cons (n := 2) ha (la_cons (n := 1) hb (la_cons (n := 0) hc la_nil pc) pb) pa
  refine (ps_par3 (i := i) (j := j) (l := l) C.calm (by rw [C.eN]; exact C.nd) (by rw [C.eN]; exact hi) (by rw [C.eN]; exact hj) (by rw [C.eN]; exact hl) hij hil hjl (by rw [C.eS]; exact hx) (by rw [C.eS]; exact hy) (by rw [C.eS]; exact hz) A hw rfl).weak fun D σ H ⟨ρ, M, D0, st, rs, rm, q, ok⟩ => ?_
  refine ⟨ρ, M, fun ds M' => ∃ d f g, ds = [d, f, g] ∧ D0.nx (((ρ.set i (some d)).set j (some f)).set l (some g)) M', st, rs, rm, ?_, fun ds M1 H1 vs l q1 r1 m1 s1 => ?_⟩
  · exact (show ta ρ M _ from by
      have : (fun d M1 => tb ρ M1 fun f M2 => tc ρ M2 fun g M3 => D0.nx (((ρ.set i (some d)).set j (some f)).set l (some g)) M3) = (fun d M1 => tb ρ M1 fun f M2 => tc ρ M2 fun g M3 => ∃ d' f' g', [d, f, g] = [d', f', g'] ∧ D0.nx (((ρ.set i (some d')).set j (some f')).set l (some g')) M3) := by
        funext d M1
        congr 1
        funext f M2
        congr 1
        funext g M3
        exact propext ⟨fun h => ⟨d, f, g, rfl, h⟩, fun ⟨d', f', g', e, h⟩ => by cases e; exact h⟩
      rw [← this]; exact q)
  · obtain ⟨d, f, g, rfl, q1⟩ := q1
    obtain ⟨v, w1, rfl, r2, r3⟩ := RepL.cons.mp r1
    obtain ⟨w, w2, rfl, r4⟩ := rep2 r3
    exact ⟨v, w, w2, rfl, ok.nx _ M1 _ H1 q1 ((((rs.keep s1.kp).set i r2).set j r4.1).set _ r4.2) m1 s1⟩
theorem ls_setI {o ix : Expr} {to ti : TD} (C : CtxK X G N sc) (he : PE X e (lift G B ta)) (ho : PE X o (lift G B to)) (hi : PE X ix (lift G B ti)) (pi : plainE ix = true) :
    PS X (.Assign [.Subscript o ix p2] e pos) (liftS G B fun D ρ M => ta ρ M fun v M1 => to ρ M1 fun d M2 => ti ρ M2 fun j M3 => vSetG d j v M3 fun M4 => D.nx ρ M4) := by
  have hg : PG X (.Subscript o ix p2) (gSub (lift G B to) (lift G B ti) (liftSet G vSetG)) := pg_sub ho hi (set_get C) (by intro v; cases ix <;> first | rfl | cases pi)
  refine (ps_asg he hg (by cases e <;> rfl) (by rfl)).weak fun D σ H ⟨ρ, M, D0, st, rs, rm, q, ok⟩ => ?_
  refine ⟨ρ, M, _, st, rs, rm, q, fun v M1 H1 y q1 r1 m1 s1 => ?_⟩
  refine ⟨ρ, M1, _, st.trans s1, rs.keep s1.kp, m1, q1, fun d M2 H2 z q2 r2 m2 s2 => ?_⟩
  refine ⟨ρ, M2, _, (st.trans s1).trans s2, rs.keep (s1.trans s2).kp, m2, q2, fun j M3 H3 w q3 r3 m3 s3 => ?_⟩
  exact ⟨d, j, v, M3, _, RepD.keep s3.kp _ _ r2, r3, RepD.keep (s2.trans s3).kp _ _ r1, m3, q3, fun M4 H4 q4 m4 s4 => ok.nx ρ M4 σ H4 q4 (rs.keep (((s1.trans s2).trans s3).trans s4).kp) m4 (((s1.trans s2).trans s3).trans s4)⟩

theorem putF_set {nm : Str} {v : V} : ∀ {fv : List (Str × V)} {ns : List Str} {k f : Nat}, fv.map (·.1) = ns.take k → ns.Nodup → ns[f]? = some nm → f < fv.length → (putF nm v fv).map (·.1) = fv.map (·.1) ∧ (putF nm v fv).map (·.2) = (fv.map (·.2)).set f v
  | [], _, _, _, _, _, _, h => by simp at h
  | (g, y) :: r, [], k, f, h, _, hf, _ => by simp at hf
  | (g, y) :: r, n0 :: ns, 0, f, h, _, _, _ => by simp at h
  | (g, y) :: r, n0 :: ns, k + 1, 0, h, nd, hf, _ => by
    simp at h hf
    unfold putF
    rw [h.1, hf, if_pos rfl]
    simp
  | (g, y) :: r, n0 :: ns, k + 1, f + 1, h, nd, hf, hl => by
    simp at h hf hl
    rw [List.nodup_cons] at nd
    have ne : g ≠ nm := fun z => nd.1 (by rw [← h.1, z]; exact List.mem_of_getElem? hf)
    obtain ⟨i1, i2⟩ := putF_set (v := v) h.2 nd.2 hf hl
    unfold putF
    rw [if_neg ne]
    simp [i1, i2]
theorem putF_app {nm : Str} {v : V} : ∀ {fv : List (Str × V)}, nm ∉ fv.map (·.1) → putF nm v fv = fv ++ [(nm, v)]
  | [], _ => rfl
  | (g, y) :: r, h => by
    simp at h
    unfold putF
    rw [if_neg (Ne.symm h.1), putF_app (by simpa using h.2)]
    rfl
theorem put_rep {H : Hp} {ns : List Str} {nm : Str} {fs gs : List D} {fv : List (Str × V)} {d : D} {v : V} {f : Nat} (nd : ns.Nodup) (hf : ns[f]? = some nm) (h : fv.map (·.1) = ns.take fs.length) (r : RepL G.K H fs (fv.map (·.2))) (rd : RepD G.K H d v) (e : putFd fs f d = some gs) :
    (putF nm v fv).map (·.1) = ns.take gs.length ∧ RepL G.K H gs ((putF nm v fv).map (·.2)) := by
  have hl : fs.length = fv.length := by rw [r.length, List.length_map]
  unfold putFd at e
  split at e
  · rename_i lt
    cases e
    obtain ⟨i1, i2⟩ := putF_set (v := v) h nd hf (by omega)
    rw [i1, i2, List.length_set]
    exact ⟨h, r.set f rd⟩
  · split at e
    · rename_i eq
      cases e
      have nin : nm ∉ fv.map (·.1) := by
        rw [h]
        intro z
        obtain ⟨q, hq, eq2⟩ := List.getElem_of_mem z
        rw [List.length_take] at hq
        have e1 : ns[q]? = some nm := by
          rw [← eq2, List.getElem?_eq_getElem (by omega), List.getElem_take]
        have hq2 : q < ns.length := by omega
        have hf2 : f < ns.length := (List.getElem?_eq_some_iff.mp hf).1
        have := (List.getElem?_inj hq2 nd).mp (e1.trans hf.symm)
        omega
      rw [putF_app nin, List.map_append, List.map_append, List.length_append]
      refine ⟨?_, r.app (RepL.one rd)⟩
      subst eq
      have hf2 : fs.length < ns.length := (List.getElem?_eq_some_iff.mp hf).1
      rw [List.length_singleton, List.take_succ, hf, h]
      simp
    · cases e
theorem ls_setF {o : Expr} {nm : Str} {to : TD} {ci : Str × List Str} {k f : Nat} (C : CtxK X G N sc) (hci : G.ct[k]? = some ci) (hf : ci.2[f]? = some nm) (he : PE X e (lift G B ta)) (ho : PE X o (lift G B to)) :
    PS X (.Assign [.Attribute o nm p2] e pos) (liftS G B fun D ρ M => ta ρ M fun v M1 => to ρ M1 fun d M2 => match d with
    | .obj p => match M2 p with
      | some (.ins c' fs) => c' = k ∧ match putFd fs f v with
        | some gs => D.nx ρ (mup M2 p (.ins k gs))
        | none => False
      | _ => False
    | _ => False) := by
  have hk := C.nc ci (List.mem_of_getElem? hci)
  refine (ps_fld ho he (by cases e <;> rfl)).weak fun D σ H ⟨ρ, M, D0, st, rs, rm, q, ok⟩ => ?_
  refine ⟨ρ, M, _, st, rs, rm, q, fun v M1 H1 y q1 r1 m1 s1 => ?_⟩
  refine ⟨ρ, M1, _, st.trans s1, rs.keep s1.kp, m1, q1, fun d M2 H2 z q2 r2 m2 s2 => ?_⟩
  (try dsimp only at q2)
  split at q2
  · rename_i ad
    rw [RepD.obj] at r2; subst r2
    split at q2
    · rename_i c' fs em
      obtain ⟨rfl, q2⟩ := q2
      split at q2
      · rename_i gs eg
        obtain ⟨hb, h1, ci', C', dx, fv, h2, h3, rfl, h4, h5⟩ := m2 ad _ em
        rw [hci] at h2; cases h2
        obtain ⟨C2, g1, g2, g3⟩ := hk.cls
        rw [h3] at g1; cases g1
        have hl : fs.length = fv.length := by rw [h5.length, List.length_map]
        have hfl : fv.length ≤ ci.2.length := by
          have := congrArg List.length h4
          rw [List.length_map, List.length_take] at this; omega
        have sp : Step H2 M2 (upd H2 ad (.ins C' dx (putF nm y fv))) (mup M2 ad (.ins c' gs)) := Step.put h1 trivial em
        obtain ⟨p1, p3⟩ := put_rep hk.nd hf h4 h5 (RepD.keep s2.kp _ _ r1) eg
        refine ⟨ad, C', dx, fv, rfl, h1, by rw [C.eK]; exact g2, by rw [C.eK]; exact g3 nm (List.mem_of_getElem? hf), by have := hk.few; omega, ?_⟩
        exact ok.nx ρ _ σ _ q2 (rs.keep ((s1.trans s2).trans sp).kp) (m2.put h1 trivial ⟨ci, C', dx, _, hci, h3, rfl, p1, p3⟩) ((s1.trans s2).trans sp)
      · exact q2.elim
    · exact q2.elim
  · exact q2.elim
end
end DL
set_option Elab.async false
set_option linter.all false
set_option maxRecDepth 100000
set_option maxHeartbeats 1000000
/-! DL10: augmented stores, raise, try. -/
namespace DL
open PySem PySem.Spec PyProof.Rows L2

section
variable {X : Cx} {G : Cfg} {N : List Str} {sc : Scope} {B : Bs} {W : WD} {pos p2 : Pos} {a b c tg e : Expr} {ta tb tc : TD} {x : Str} {p apos : Pos} {es : List Expr} {n : Nat} {t : TDA} {u v : TDS} {st : Stmt} {rest : List Stmt}

theorem pip_ok (op : Operator) : PIp X op (lift2 G (augS op)) := by
  intro pins s σ H x y v u Q I r1 r2 h
  obtain ⟨d, e, M, Q0, rd, re, rm, q, ok⟩ := h
  cases op
  case Add =>
    dsimp only [augS] at q
    split at q
    · rename_i i j
      rw [RepD.int] at rd re; subst rd re
      obtain ⟨t, rfl⟩ := r1
      obtain ⟨t', rfl⟩ := r2
      exact PyProof.Rows.iadd_int ⟨.int _, H, I.tok _, ⟨_, rfl⟩, ok _ _ _ _ q (RepD.int.mpr rfl) rm Step.rfl'⟩
    · exact q.elim
  case Sub =>
    dsimp only [augS] at q
    split at q
    · rename_i i j
      rw [RepD.int] at rd re; subst rd re
      obtain ⟨t, rfl⟩ := r1
      obtain ⟨t', rfl⟩ := r2
      exact PyProof.Rows.isub_int ⟨.int _, H, I.tok _, ⟨_, rfl⟩, ok _ _ _ _ q (RepD.int.mpr rfl) rm Step.rfl'⟩
    · exact q.elim
  all_goals exact q.elim
theorem ls_aug {op : Operator} {i : Nat} (C : CtxK X G N sc) (hN : N[i]? = some x) (hl : L2.Loc sc x) (hfn : X.fn x = true ∨ sc.names.lookup x = some .local) (he : PE X e (lift G B ta)) :
    PS X (.AugAssign (.Name x p2) op e pos) (liftS G B fun D ρ M => match ρ[i]? with
    | some (some d) => ta ρ M fun v M1 => augS op d v M1 fun z M2 => D.nx (ρ.set i (some z)) M2
    | _ => False) := by
  refine (ps_aug (i := i) (by rw [C.eN]; exact C.nd) (by rw [C.eN]; exact hN) (by rw [C.eS]; exact hl) he (pip_ok (G := G) op) (by rw [C.eS]; exact hfn)).weak fun D σ H ⟨ρ, M, D0, st, rs, rm, q, ok⟩ => ?_
  (try dsimp only at q)
  split at q
  · rename_i d ed
    obtain ⟨w, ew, rw'⟩ := rs.2 i d ed
    refine ⟨w, ew, ρ, M, _, st, rs, rm, q, fun f M1 H1 y q1 r1 m1 s1 => ?_⟩
    refine ⟨d, f, M1, _, RepD.keep s1.kp _ _ rw', r1, m1, q1, fun z M2 H2 y2 q2 r2 m2 s2 => ?_⟩
    exact ok.nx _ M2 _ H2 q2 ((rs.keep (s1.trans s2).kp).set i r2) m2 (s1.trans s2)
  · exact q.elim
theorem ls_augF {op : Operator} {o : Expr} {nm : Str} {to : TD} {ci : Str × List Str} {k f : Nat} (C : CtxK X G N sc) (hci : G.ct[k]? = some ci) (hf : ci.2[f]? = some nm) (he : PE X e (lift G B ta)) (ho : PE X o (lift G B to)) :
    PS X (.AugAssign (.Attribute o nm p2) op e pos) (liftS G B fun D ρ M => to ρ M fun d M1 => match d with
    | .obj p => match M1 p with
      | some (.ins c' fs) => c' = k ∧ match fs[f]? with
        | some x => ta ρ M1 fun v M2 => augS op x v M2 fun z M3 => match M3 p with
          | some (.ins c2 gs) => c2 = k ∧ f < gs.length ∧ D.nx ρ (mup M3 p (.ins k (gs.set f z)))
          | _ => False
        | none => False
      | _ => False
    | _ => False) := by
  have hk := C.nc ci (List.mem_of_getElem? hci)
  refine (ps_fldaug (op := op) ho he (pip_ok (G := G) op)).weak fun D σ H ⟨ρ, M, D0, st, rs, rm, q, ok⟩ => ?_
  refine ⟨ρ, M, _, st, rs, rm, q, fun d M1 H1 z q1 r1 m1 s1 => ?_⟩
  (try dsimp only at q1)
  split at q1
  · rename_i ad
    rw [RepD.obj] at r1; subst r1
    split at q1
    · rename_i c' fs em
      obtain ⟨rfl, q1⟩ := q1
      split at q1
      · rename_i w ew
        obtain ⟨hb, h1, ci', C', dx, fv, h2, h3, rfl, h4, h5⟩ := m1 ad _ em
        rw [hci] at h2; cases h2
        obtain ⟨C2, g1, g2, g3⟩ := hk.cls
        rw [h3] at g1; cases g1
        obtain ⟨v0, ev, rv⟩ := rep_fld hk.nd hf h4 h5 ew
        refine ⟨ad, C', dx, fv, v0, rfl, h1, by rw [C.eK]; exact g2, by rw [C.eK]; exact g3 nm (List.mem_of_getElem? hf), ev, ?_⟩
        refine ⟨ρ, M1, _, st.trans s1, rs.keep s1.kp, m1, q1, fun y M2 H2 yv q2 r2 m2 s2 => ?_⟩
        refine ⟨w, y, M2, _, RepD.keep s2.kp _ _ rv, r2, m2, q2, fun z M3 H3 zv q3 r3 m3 s3 => ?_⟩
        (try dsimp only at q3)
        split at q3
        · rename_i c2 gs em3
          obtain ⟨rfl, lt, q3⟩ := q3
          obtain ⟨hb3, k1, ci3, C3, dx3, fv3, k2, k3, rfl, k4, k5⟩ := m3 ad _ em3
          rw [hci] at k2; cases k2
          rw [h3] at k3; cases k3
          have hl : gs.length = fv3.length := by rw [k5.length, List.length_map]
          have hfl : fv3.length ≤ ci.2.length := by
            have := congrArg List.length k4
            rw [List.length_map, List.length_take] at this; omega
          have sp : Step H3 M3 (upd H3 ad (.ins C' dx3 (putF nm zv fv3))) (mup M3 ad (.ins c2 (gs.set f z))) := Step.put k1 trivial em3
          obtain ⟨p1, p3⟩ := put_rep hk.nd hf k4 k5 r3 (show putFd gs f z = some (gs.set f z) from if_pos lt)
          refine ⟨dx3, fv3, k1, by have := hk.few; omega, ?_⟩
          exact ok.nx ρ _ σ _ q3 (rs.keep (((s1.trans s2).trans s3).trans sp).kp) (m3.put k1 trivial ⟨ci, C', dx3, _, hci, h3, rfl, p1, p3⟩) (((s1.trans s2).trans s3).trans sp)
        · exact q3.elim
      · exact q1.elim
    · exact q1.elim
  · exact q1.elim

/-! ### exception classes, raise -/
/-- an exception class of the program -/
structure ExOk (P : Program) (w : World) (base : Heap) (G : Cfg) (ei : Str × Option Str) (C : Addr) : Prop where
  mg : G.mg ei.1 = some (.ref C)
  kC : PySem.W.keepIn G.K (.ref C) = true
  sb : PySem.W.subIn G.K (.ref C) (.type "BaseException") = some true
  ty : PySem.W.typeIn G.K (.ref C) = some (.type "type")
  no : ei.2 = none → PySem.W.excIn G.K C He.veBase "ValueError.__new__" = true
  wi : ∀ f, ei.2 = some f → ∀ (X : Cx) (N : List Str) (sc : Scope) (e : Expr) (te : TE) (p pos : Pos), X.prog = P → X.w = w → X.base = base → CtxK X G N sc → Room 3 X.A → Gl X ei.1 → PE X e te → plainE e = true →
    PMk X (.Call (.Name ei.1 p) [e] [] pos) (fun σ H Q => te σ H fun v H1 => ∀ d, H1 d = none → Q (.ref C) (some d) (upd H1 d (.xd [(f, v)])))
theorem pmk_own0 {C : Addr} {bmB : List Value} {B newId initId : String} (F : ExcBaseFacts B newId initId bmB) (q : PySem.W.excIn X.K C bmB newId = true) (gC : X.mg x = some (.ref C))
    (kC : PySem.W.keepIn X.K (.ref C) = true) (r : Raises X (.ref C)) (hg : Gl X x) (hdb : (x == ("__debug__" : Str)) = false) :
    PMk X (.Call (.Name x p) [] [] pos) (fun σ H Q => Q (.ref C) none H) := by
  intro pins s σ H Q I h
  refine wpAny_Call_Name_kw (ld_glob I hg gC ?_ hdb)
  refine PySem.W.callWith_K0 I.kIn kC ?_
  obtain ⟨bm, N, nm, qn, bs, hdct, sn, sub, ab, col, dd, k0, k1, k2, k3, k5, mN, hC, hN, hni, T⟩ := exc_obj I.kIn q
  refine wpAny_call_exc_subT F T hC hN hni (fun h' e hm => ?_) (Nat.zero_le _)
  exact mk_of I hm r h (I.hok.gone hm.new)
theorem ls_rse0 {P : Program} {w : World} {base : Heap} {ei : Str × Option Str} {C0 : Addr} {k : Nat} (C : CtxOk X G N sc) (F : ExOk P w base G ei C0) (hk : G.et[k]? = some ei) (h0 : ei.2 = none) (tk : Takes X (liftW G B W)) (hg : Gl X ei.1) (hdb : (ei.1 == ("__debug__" : Str)) = false) :
    PS X (.Raise (some (.Call (.Name ei.1 p) [] [] p2)) none pos) (liftS G B fun _ ρ M => W ⟨k, []⟩ ρ M) := by
  have F1 := F.no h0
  refine (ps_raise C.calm tk (pmk_own0 PySem.F.excBase_ValueError (by rw [C.eK]; exact F1) (by rw [C.eM]; exact F.mg) (by rw [C.eK]; exact F.kC) (raises_own (by rw [C.eK]; exact F.sb) (by rw [C.eK]; exact F.ty)) hg hdb)).weak fun D σ H ⟨ρ, M, D0, st, rs, rm, q, ok⟩ => ?_
  refine ⟨⟨k, []⟩, ρ, M, st, ⟨ei, C0, hk, F.mg, rfl, ?_⟩, rs, rm, q⟩
  rw [h0]
theorem ls_rse1 {P : Program} {w : World} {base : Heap} {ei : Str × Option Str} {C0 : Addr} {k : Nat} {f : Str} (C : CtxOk X G N sc) (F : ExOk P w base G ei C0) (e1 : X.prog = P) (e2 : X.w = w) (e3 : X.base = base) (hk : G.et[k]? = some ei) (h0 : ei.2 = some f) (tk : Takes X (liftW G B W)) (hg : Gl X ei.1) (hr : Room 3 X.A)
    (he : PE X e (lift G B ta)) (hp : plainE e = true) :
    PS X (.Raise (some (.Call (.Name ei.1 p) [e] [] p2)) none pos) (liftS G B fun _ ρ M => ta ρ M fun d M1 => W ⟨k, [d]⟩ ρ M1) := by
  have F1 := F.wi f h0 X N sc e _ p p2 e1 e2 e3 C.toCtxK hr hg he hp
  refine (ps_raise C.calm tk F1).weak fun D σ H ⟨ρ, M, D0, st, rs, rm, q, ok⟩ => ?_
  refine ⟨ρ, M, _, st, rs, rm, q, fun d M1 H1 v q1 r1 m1 s1 dd hdd => ?_⟩
  have s2 : Step H1 M1 (upd H1 dd (.xd [(f, v)])) M1 := Step.hid hdd
  refine ⟨⟨k, [d]⟩, ρ, M1, (st.trans s1).trans s2, ⟨ei, C0, hk, F.mg, rfl, ?_⟩, rs.keep (s1.trans s2).kp, m1.skip hdd, q1⟩
  rw [h0]
  exact ⟨dd, v, rfl, upd_same, RepD.keep s2.kp _ _ r1⟩
theorem Takes.lift {P : Prop} {X : Cx} {W W' : WX} (t : Takes X W) (h : ∀ c d σ H, W' c d σ H → W c d σ H) : Takes X W' := t.imp h

/-! ### try with clauses, with or without a name -/
abbrev Hd := Value × Option Nat × (Addr → Value → Option Addr → TS)
def outE (D : Ends) : Option Nat → Ends
  | none => D
  | some i => { nx := fun σ' H' => D.nx (σ'.set i none) H', rt := D.rt, bk := fun σ' H' => D.bk (σ'.set i none) H', ct := fun σ' H' => D.ct (σ'.set i none) H' }
def inS (σ : L2.St) (a : Addr) : Option Nat → L2.St
  | none => σ
  | some i => σ.set i (some (.ref a))
def wGen (K : PySem.W.Frag) (Wout : WX) (D : Ends) : List Hd → WX
  | [] => Wout
  | h :: r => fun cls d σ H => ∃ b, PySem.W.exmOne K cls h.1 = some b ∧ (b = true → ∀ a, H a = none → h.2.2 a cls d (outE D h.2.1) (inS σ a h.2.1) H) ∧ (b = false → wGen K Wout D r cls d σ H)
inductive HdsG (X : Cx) : List ExceptHandler → List Hd → Prop
  | nil : HdsG X [] []
  | one {x : Str} {c : Value} {ts : Addr → Value → Option Addr → TS} {b₀ : Stmt} {suite : List Stmt} {np pos' : Pos} {hds : List ExceptHandler} {l : List Hd} (hc : Names X x c)
      (hsu : ∀ (a : Addr) (oe : Obj) (cls : Value) (d : Option Addr) (pn : List (Addr × Obj)), Zc cls d oe → (∃ vs, oe.data = .fields vs) → PSs (X.suite a ((a, oe) :: pn)) (b₀ :: suite) (ts a cls d)) (r : HdsG X hds l) :
      HdsG X (.ExceptHandler (some (.Name x np)) none (b₀ :: suite) pos' :: hds) ((c, none, ts) :: l)
  | as {x n : Str} {i : Nat} {c : Value} {ts : Addr → Value → Option Addr → TS} {b₀ : Stmt} {suite : List Stmt} {np pos' : Pos} {hds : List ExceptHandler} {l : List Hd} (hc : Names X x c) (hi : X.N[i]? = some n) (hln : X.env.kindOf n = some .local)
      (hsu : ∀ (a : Addr) (oe : Obj) (cls : Value) (d : Option Addr) (pn : List (Addr × Obj)), Zc cls d oe → (∃ vs, oe.data = .fields vs) → PSs (X.suite a ((a, oe) :: pn)) (b₀ :: suite) (ts a cls d)) (r : HdsG X hds l) :
      HdsG X (.ExceptHandler (some (.Name x np)) (some n) (b₀ :: suite) pos' :: hds) ((c, some i, ts) :: l)
theorem ps_tryG {body : List Stmt} {h₀ : ExceptHandler} {hds : List ExceptHandler} {l : List Hd} {tb : WX → TS} {Wout : WX} (hs : X.stack = X.env :: X.outer) (hf : X.env.frame = some X.env.locals) (hN : X.N.Nodup) (tk : Takes X Wout)
    (hb : ∀ (W : WX) (pn : List (Addr × Obj)) (xe : Value → Shared → Prop), Takes (X.tr pn xe) W → PassesOwn (model X.prog X.w) X.A X.env xe → PSs (X.tr pn xe) body (tb W))
    (hh : HdsG X (h₀ :: hds) l) : PS X (.Try body (h₀ :: hds) [] [] pos) (fun D σ H => tb (wGen X.K Wout D l) D σ H) := by
  refine ⟨fun pins s σ H D I h => ?_⟩
  have ok := I.ok
  have hfr : X.A.frames = some (X.env :: X.outer) := by rw [ok.frames, hs]
  refine wpAny_Try_except ?_
  refine wpAny_mono ((hb (wGen X.K Wout D l) (X.pn ++ pins) (fun e s₁ => wpAny (model X.prog X.w) X.A (noteFrame e X.env) (fun _ s₂ => wpAny (model X.prog X.w) X.A (setFlight e none) (fun _ s₃ =>
    wpAny (model X.prog X.w) X.A (handleBy e X.env (h₀ :: hds)) (SP X pins D) X.xe s₃) X.xe s₂) X.xe s₁) (fun u s' xx => ?_) PassesOwn.looking).run [] s σ H D (I.toTry _) h) (fun f s1 hsp => ?_) (fun e s1 he => he)
  · obtain ⟨a, B, sI, pins', σ', H', cls, d, rfl, J', nb, up, sky, na, os, ag, w⟩ := xx
    have J : Inv X pins σ' H' sI := J'.ofTry ok
    have sky' : Sky B (X.env :: X.outer) a (Zc cls d) X.env.locals s'.heap := by rw [← hs]; exact sky
    show wpAny (model X.prog X.w) X.A (noteFrame (.ref a) X.env) _ _ _
    refine Sky.land Zc.steady hfr hf sky' fun h3 fl3 up3 => ?_
    have J3 : Inv X pins σ' H' { s' with heap := h3 } := J.landed nb fl3.1 (up.trans up3) os ag
    obtain ⟨oe3, vs3, he3, hz3, hd3⟩ := fl3.there
    have notFr : ∀ {h : Heap} {o : Obj} {vs : Array Value}, h.FunFrames B (X.env :: X.outer) → h.get? a = some o → o.data = .fields vs → a ∉ frs (X.env :: X.outer) := fun {h o vs} ff e dd hm => by
      obtain ⟨_, o', e', hnf⟩ := ff.mem hm
      rw [e] at e'; cases e'
      exact hnf _ dd
    have nfr := notFr fl3.2.2.1 he3 hd3
    have nL : a ≠ X.env.locals := fun z => nfr (List.mem_filterMap.mpr ⟨X.env, List.mem_cons_self, by rw [hf, z]⟩)
    have nF : a ∉ X.fs := fun hm => by
      obtain ⟨e, he, q⟩ := List.mem_filterMap.mp hm
      exact nfr (List.mem_filterMap.mpr ⟨e, List.mem_cons_of_mem _ he, q⟩)
    have S3 := J3.suite he3 hd3 na nL nF
    have LT : PySem.W.Looks (model X.prog X.w) h3 (typeOf (.ref a)) cls := fun A Q E s k q => wpAny_typeOf_ref (k _ _ he3) (by rw [hz3.1]; exact q)
    have test : ∀ {x : Str} {np : Pos} {c : Value}, Names X x c → ∀ {Q : Value → Shared → Prop} {E : Value → Shared → Prop}, Q c { s' with heap := h3 } → wpAny (model X.prog X.w) (X.A.mark (some (.ref a))) (eval (.Name x np) X.env) Q E { s' with heap := h3 } := fun {x np c} hc {Q E} q => by
      obtain ⟨hg, hdbg, hm | ⟨hm, hv, hnn⟩⟩ := hc
      · exact ld_glob (X := X.suite a ((a, oe3) :: (X.pn ++ pins))) S3 hg hm q hdbg
      · exact ld_blt (X := X.suite a ((a, oe3) :: (X.pn ++ pins))) S3 hg hm hv q hnn hdbg
    have go : ∀ {hds' : List ExceptHandler} {l' : List Hd}, HdsG X hds' l' → wGen X.K Wout D l' cls d σ' H' →
        wpAny (model X.prog X.w) X.A (handleBy (.ref a) X.env hds') (SP X pins D) X.xe { s' with heap := h3 } := by
      intro hds' l' hk
      induction hk with
      | nil =>
        intro w
        refine wpAny_handleBy_nil ?_
        obtain ⟨k1, k2, k3, oe, vs, T, oT, ts', he, hz, hd, h1, hr⟩ := id fl3
        unfold PySem.passOn
        refine wpAny_bind (wpAny_field he hd h1 ?_)
        rw [if_neg (show ¬ ((Value.ref T == Value.none) = true) from by simp)]
        have fin : wpAny (model X.prog X.w) X.A (setFlight (.ref a) X.env.frame) (fun _ s4 => wpAny (model X.prog X.w) X.A (throw (.ref a) : Sem Flow) (SP X pins D) X.xe s4) X.xe { s' with heap := h3 } := by
          rw [hf]
          refine HandSPX.setFlight_upZ fl3 fun h4 hh4 up4 => wpAny_throw (tk _ _ ?_)
          exact ⟨a, B, sI, pins, σ', H', cls, d, rfl, J, nb, (up.trans up3).trans up4, .inr (.inr (by rw [hs]; exact hh4)), na, os, ag, w⟩
        first
          | exact wpAny_bind (wpAny_pure (wpAny_bind fin))
          | exact wpAny_bind fin
      | @one x c ts b₀ suite np pos' hds2 l2 hc hsu r ih =>
        intro w
        obtain ⟨b, hb1, hyes, hno⟩ := w
        refine wpAny_handleBy_cons (codeAny_handlers_test ?_) (by intro q; cases q)
        have LM := PySem.W.exm_one (M := model X.prog X.w) (J3.kIn) LT hb1
        refine test hc (LM.here ?_)
        cases b with
        | true =>
          refine codeAny_handlers_suite ?_
          refine HandSPX.lands_againZ fl3 fun h4 fl4 up4 => ?_
          have J4 : Inv X pins σ' H' { s' with heap := h4 } := J.landed nb fl4.1 ((up.trans up3).trans up4) os ag
          obtain ⟨oe4, vs4, he4, hz4, hd4⟩ := fl4.there
          have S4 := J4.suite he4 hd4 na nL nF
          refine wpAny_mono ((hsu a oe4 cls d (X.pn ++ pins) hz4 ⟨_, hd4⟩).run [] _ _ H' _ S4 (hyes rfl a na)) (fun f s6 hsp => ?_) (fun _ _ z => False.elim z)
          cases f with
          | next =>
            obtain ⟨σ6, H6, S6, q6⟩ := hsp
            exact ⟨_, _, S6.unsuite ok, q6⟩
          | brk =>
            obtain ⟨σ6, H6, S6, q6⟩ := hsp
            exact ⟨_, _, S6.unsuite ok, q6⟩
          | cont =>
            obtain ⟨σ6, H6, S6, q6⟩ := hsp
            exact ⟨_, _, S6.unsuite ok, q6⟩
          | ret u =>
            obtain ⟨v6, σ6, H6, S6, r6, q6⟩ := hsp
            exact ⟨_, _, _, S6.unsuite ok, r6, q6⟩
        | false =>
          show wpAny _ X.A (handleBy (.ref a) X.env hds2) _ _ _
          exact ih (hno rfl)
      | @as x n i c ts b₀ suite np pos' hds2 l2 hc hi hln hsu r ih =>
        intro w
        obtain ⟨b, hb1, hyes, hno⟩ := w
        have hloc : L2.Loc X.env.scope n := .inl hln
        refine wpAny_handleBy_cons (codeAny_handlers_test ?_) (by intro q; cases q)
        have LM := PySem.W.exm_one (M := model X.prog X.w) (J3.kIn) LT hb1
        refine test hc (LM.here ?_)
        cases b with
        | true =>
          refine codeAny_handlers_suite_as ?_
          refine HandSPX.lands_againZ fl3 fun h4 fl4 up4 => ?_
          have J4 : Inv X pins σ' H' { s' with heap := h4 } := J.landed nb fl4.1 ((up.trans up3).trans up4) os ag
          obtain ⟨oe4, vs4, he4, hz4, hd4⟩ := fl4.there
          have S4 := J4.suite he4 hd4 na nL nF
          refine store_ok (X := X.suite a ((a, oe4) :: (X.pn ++ pins))) (v := .ref a) S4 hN hi hloc rfl (fun s5 S5 => ?_) (.inr hln)
          refine wpAny_mono ((hsu a oe4 cls d (X.pn ++ pins) hz4 ⟨_, hd4⟩).run [] s5 _ H' _ S5 (hyes rfl a na)) (fun f s6 hsp => ?_) (fun _ _ z => False.elim z)
          have end_ : ∀ {σ6 : L2.St} {H6 : Hp} {Q : Shared → Prop}, Inv (X.suite a ((a, oe4) :: (X.pn ++ pins))) [] σ6 H6 s6 → (∀ s7, Inv X pins (σ6.set i none) H6 s7 → Q s7) →
              wpAny (model X.prog X.w) X.A (do bindName X.env n .none; unbindBehindTheSuite X.env n pos') (fun _ s7 => Q s7) X.xe s6 := fun {σ6 H6 Q} S6 hq => gone_ok (S6.unsuite ok) hN hi hln hq
          cases f with
          | next =>
            obtain ⟨σ6, H6, S6, q6⟩ := hsp
            exact end_ S6 fun s7 J7 => ⟨_, _, J7, q6⟩
          | brk =>
            obtain ⟨σ6, H6, S6, q6⟩ := hsp
            exact end_ S6 fun s7 J7 => ⟨_, _, J7, q6⟩
          | cont =>
            obtain ⟨σ6, H6, S6, q6⟩ := hsp
            exact end_ S6 fun s7 J7 => ⟨_, _, J7, q6⟩
          | ret u =>
            obtain ⟨v6, σ6, H6, S6, r6, q6⟩ := hsp
            exact end_ S6 fun s7 J7 => ⟨_, _, _, J7, r6, q6⟩
        | false =>
          show wpAny _ X.A (handleBy (.ref a) X.env hds2) _ _ _
          exact ih (hno rfl)
    exact go hh w
  · cases f with
    | next =>
      obtain ⟨σ', H', J', q⟩ := hsp
      exact wpAny_execs_nil ⟨σ', H', J'.ofTry ok, q⟩
    | brk =>
      obtain ⟨σ', H', J', q⟩ := hsp
      exact ⟨σ', H', J'.ofTry ok, q⟩
    | cont =>
      obtain ⟨σ', H', J', q⟩ := hsp
      exact ⟨σ', H', J'.ofTry ok, q⟩
    | ret u =>
      obtain ⟨v, σ', H', J', r, q⟩ := hsp
      exact ⟨v, σ', H', J'.ofTry ok, r, q⟩
end
end DL
set_option Elab.async false
set_option linter.all false
set_option maxRecDepth 100000
set_option maxHeartbeats 1000000
/-! DL11: contexts; exceptions within suites. -/
namespace DL
open PySem PySem.Spec PyProof.Rows L2

/-- the exception classes' facts -/
structure XsOk (P : Program) (w : World) (base : Heap) (G : Cfg) (cs : Pk) : Prop where
  ok : ∀ (c : Nat) ei, G.et[c]? = some ei → ∃ C, ExOk P w base G ei C
  fd : ∀ (c : Nat) ei, G.et[c]? = some ei → cs.fd c = ei.2
  exm : ∀ (c c' : Nat) ei ei' C C', G.et[c]? = some ei → G.et[c']? = some ei' → G.mg ei.1 = some (.ref C) → G.mg ei'.1 = some (.ref C') → PySem.W.exmOne G.K (.ref C) (.ref C') = some (cs.sub c c')
  kit : ∀ (c c' : Nat) ei ei' C C', G.et[c]? = some ei → G.et[c']? = some ei' → G.mg ei.1 = some (.ref C) → G.mg ei'.1 = some (.ref C') → ei.2 = none → PySem.W.kitOne G.K (.ref C) (.ref C') = some (cs.sub c c')
  kitV : ∀ (c : Nat) ei C, G.et[c]? = some ei → G.mg ei.1 = some (.ref C) → ei.2 = none → PySem.W.kitOne G.K (.ref C) (.type "ValueError") = some true ∧ ExcC G.K C
  xf : ∀ (c : Nat) ei C f, G.et[c]? = some ei → G.mg ei.1 = some (.ref C) → ei.2 = some f → XfC G.K C ∧ PySem.W.findIn G.K (.ref C) f = some none
/-- what is known of the exception that a suite holds -/
def XoOk (X : Cx) (G : Cfg) (B : Bs) : XO → Prop
  | none => True
  | some (a, x) => ∃ (X0 : Cx) (oe : Obj) (pn : List (Addr × Obj)) (cls : Value) (d : Option Addr), X = X0.suite a ((a, oe) :: pn) ∧ Zc cls d oe ∧ (∃ vs, oe.data = .fields vs) ∧ RepX G B.H x cls d ∧ RepM G B.H B.M
/-- where a piece of code runs -/
structure Ct (X : Cx) (G : Cfg) (cs : Pk) (N : List Str) (sc : Scope) (fs : Str → Bool) (B : Bs) (W : WD) (xo : XO) (hot : Bool) : Prop where
  k : CtxK X G N sc
  kind : sc.kind = .function
  calm : hot = false → X.calm = true
  fn : ∀ x, fs x = true → X.fn x = true
  tk : Takes X (liftW G B W)
  cok : ∀ c ∈ cs.l, c.Ok X.prog X.w G X.base
  room : hot = false → ∀ c ∈ cs.l, Room c.need X.A
  room3 : hot = false → Room 3 X.A
  xs : XsOk X.prog X.w X.base G cs
  xo : XoOk X G B xo
section
variable {X : Cx} {G : Cfg} {cs : Pk} {N : List Str} {sc : Scope} {fs : Str → Bool} {B : Bs} {W : WD} {xo : XO} {hot : Bool}
theorem Ct.ok (c : Ct X G cs N sc fs B W xo false) : CtxOk X G N sc := ⟨c.k, c.calm rfl⟩
theorem Ct.blk (c : Ct X G cs N sc fs B W xo false) {s : Shared} {H : Hp} {scope : Scope} {cl : List (Str × Addr)} {cc : Addr} {fp : List Addr} (hk : scope.kind = .function) :
    Ct (X.blk s H scope (compEnvC scope cl cc X.env) fp) G cs N (relS scope sc) (fun x => scope.names.lookup x == some .cell) B (fun _ _ _ => False) none false where
  k := ⟨c.k.eK, c.k.eM, c.k.eP, c.k.ew, c.k.eN, c.k.nd, by show relS scope X.env.scope = relS scope sc; rw [c.k.eS], c.k.hu, c.k.fb, c.k.nc, c.k.gl⟩
  kind := hk
  calm := c.calm
  fn := fun x h => h
  tk := takes_none5.imp fun _ _ _ _ ⟨_, _, _, _, _, _, _, h⟩ => h
  cok := c.cok
  room := c.room
  room3 := c.room3
  xs := c.xs
  xo := trivial
theorem Ct.suite {D : Type} (c : Ct X G cs N sc fs B W xo false) {a : Addr} {oe : Obj} {pn : List (Addr × Obj)} {xo' : XO} {B' : Bs} (hx : XoOk (X.suite a ((a, oe) :: pn)) G B' xo') :
    Ct (X.suite a ((a, oe) :: pn)) G cs N sc fs B' (fun _ _ _ => False) xo' true where
  k := ⟨c.k.eK, c.k.eM, c.k.eP, c.k.ew, c.k.eN, c.k.nd, c.k.eS, c.k.hu, c.k.fb, c.k.nc, c.k.gl⟩
  kind := c.kind
  calm := fun h => nomatch h
  fn := c.fn
  tk := takes_none5.imp fun _ _ _ _ ⟨_, _, _, _, _, _, _, h⟩ => h
  cok := c.cok
  room := fun h => nomatch h
  room3 := fun h => nomatch h
  xs := c.xs
  xo := hx
theorem Ct.tr (c : Ct X G cs N sc fs B W xo false) {pn : List (Addr × Obj)} {xe : Value → Shared → Prop} {W' : WD} (tk : Takes (X.tr pn xe) (liftW G B W')) : Ct (X.tr pn xe) G cs N sc fs B W' none false where
  k := ⟨c.k.eK, c.k.eM, c.k.eP, c.k.ew, c.k.eN, c.k.nd, c.k.eS, c.k.hu, c.k.fb, c.k.nc, c.k.gl⟩
  kind := c.kind
  calm := c.calm
  fn := c.fn
  tk := tk
  cok := c.cok
  room := c.room
  room3 := c.room3
  xs := c.xs
  xo := trivial

/-! ### names -/
def visB (sc : Scope) (x : Str) : Bool := match sc.names.lookup x with | some .local => true | some .cell => true | some .free => true | _ => false
theorem visB_ok {sc : Scope} {x : Str} (h : visB sc x = true) : Vis sc x := by
  unfold visB at h
  split at h
  · exact .inl (by assumption)
  · exact .inr (.inl (by assumption))
  · exact .inr (.inr (by assumption))
  · cases h
def locB (sc : Scope) (x : Str) : Bool := match sc.names.lookup x with | some .local => true | some .cell => true | _ => false
theorem locB_ok {sc : Scope} {x : Str} (h : locB sc x = true) : L2.Loc sc x := by
  unfold locB at h
  split at h
  · exact .inl (by assumption)
  · exact .inr (by assumption)
  · cases h
/-- what is checked -/
structure CE where
  cf : Cf
  cs : Pk
  N : List Str
  sc : Scope
  fs : Str → Bool
  hot : Bool
def CE.nam (E : CE) (x : Str) (i : Nat) : Bool := decide (E.N[i]? = some x) && visB E.sc x && !(x == ("__debug__" : Str)) && !(x == ("__classdict__" : Str))
def CE.sto (E : CE) (x : Str) (i : Nat) : Bool := decide (E.N[i]? = some x) && locB E.sc x && (E.fs x || decide (E.sc.names.lookup x = some .local))
def CE.glo (E : CE) (x : Str) : Bool := decide (E.sc.names.lookup x = some .globalImplicit) && !(x == ("__debug__" : Str))
def CE.fre (E : CE) (x : Str) : Bool := E.glo x && decide (x ∈ E.cf.fb)
theorem gl_ok {E : CE} {x : Str} (c : CtxK X G N E.sc) (h : E.glo x = true) : Gl X x ∧ (x == ("__debug__" : Str)) = false := by
  unfold CE.glo at h
  rw [Bool.and_eq_true, Bool.not_eq_true', decide_eq_true_eq] at h
  refine ⟨?_, h.2⟩
  show X.env.kindOf x = _
  unfold Env.kindOf
  rw [c.eS]; exact h.1

/-! ### the exception of a suite -/
theorem ld_xis {e : Expr} {i c : Nat} {ei : Str × Option Str} {p p2 pos : Pos} (C : CtxK X G N sc) (xs : XsOk X.prog X.w X.base G cs) (hx : XoOk X G B xo) (hg : Gl X "isinstance") (hf : ("isinstance" : Str) ∈ G.fb) (hc : G.et[c]? = some ei) (hgc : Gl X ei.1) (hdb : (ei.1 == ("__debug__" : Str)) = false)
    (he : PE X e (lift G B fun ρ M Q => match ρ[i]? with
      | some (some d) => Q d M
      | _ => False)) (hp : plainE e = true) :
    PE X (.Call (.Name "isinstance" p) [e, .Name ei.1 p2] [] pos) (lift G B fun ρ M Q => match (generalizing := false) xo with
    | some (a, x) => ρ[i]? = some (some (.obj a)) ∧ cs.fd x.c = none ∧ Q (.bl (cs.sub x.c c)) M
    | none => False) := by
  cases xo with
  | none => exact ⟨fun pins s σ H Q I ⟨ρ, M, Q0, st, rs, rm, q, ok⟩ => q.elim⟩
  | some ax =>
    obtain ⟨a, x⟩ := ax
    obtain ⟨X0, oe, pn, cls, d, rfl, hz, hfd, rx, bm⟩ := hx
    obtain ⟨ej, CE, ej1, ej2, rfl, ej3⟩ := rx
    obtain ⟨C', F⟩ := xs.ok c ei hc
    have e2 : PE (X0.suite a ((a, oe) :: pn)) (.Name ei.1 p2) (tC (.ref C')) := pe_glob hgc (by rw [C.eM]; exact F.mg) rfl hdb
    by_cases h0 : ej.2 = none
    · have hd : d = none := by
        rw [h0] at ej3
        split at ej3
        · exact ej3
        · rename_i q _; cases q
        · exact ej3.elim
      subst hd
      obtain ⟨kv, kc⟩ := xs.kitV x.c ej CE ej1 ej2 h0
      refine (pe_callB (call_isE (by rw [C.eK]; exact kc) hz hfd) hg (by rw [C.eM]; exact C.fb _ hf) (by decide +kernel) (pa_cons he (pa_cons e2 pa_nil (by rfl)) (star_plain hp _ _)) (by decide +kernel) (by decide +kernel) (star_plain hp _ _) (by rfl)).weak fun σ H Q ⟨ρ, M, Q0, st, rs, rm, ⟨q0, q1, q⟩, ok⟩ => ?_
      refine ⟨ρ, M, fun dd M' => dd = .obj a ∧ Q0 (.bl (cs.sub x.c c)) M', st, rs, rm, ?_, fun dd M1 H1 v q1 r1 m1 s1 => ?_⟩
      · dsimp only; rw [q0]; exact ⟨rfl, q⟩
      · obtain ⟨rfl, q1⟩ := q1
        rw [RepD.obj] at r1; subst r1
        refine ⟨.ref C', .ref C', cs.sub x.c c, rfl, fun u hu => hu, ?_, ok _ _ _ _ q1 (RepD.bl.mpr rfl) m1 s1⟩
        rw [C.eK]
        exact xs.kit x.c c ej ei CE C' ej1 hc ej2 F.mg h0
    · refine ⟨fun pins s σ H Q I ⟨ρ, M, Q0, st, rs, rm, ⟨q0, q1, q⟩, ok⟩ => ?_⟩
      rw [xs.fd _ _ ej1] at q1
      exact absurd q1 h0
theorem ld_xisV {e : Expr} {i : Nat} {p p2 pos : Pos} (C : CtxK X G N sc) (xs : XsOk X.prog X.w X.base G cs) (hx : XoOk X G B xo) (hg : Gl X "isinstance") (hf : ("isinstance" : Str) ∈ G.fb) (hgc : Gl X "ValueError") (hf2 : ("ValueError" : Str) ∈ G.fb)
    (he : PE X e (lift G B fun ρ M Q => match ρ[i]? with
      | some (some d) => Q d M
      | _ => False)) (hp : plainE e = true) :
    PE X (.Call (.Name "isinstance" p) [e, .Name "ValueError" p2] [] pos) (lift G B fun ρ M Q => match (generalizing := false) xo with
    | some (a, x) => ρ[i]? = some (some (.obj a)) ∧ cs.fd x.c = none ∧ Q (.bl true) M
    | none => False) := by
  cases xo with
  | none => exact ⟨fun pins s σ H Q I ⟨ρ, M, Q0, st, rs, rm, q, ok⟩ => q.elim⟩
  | some ax =>
    obtain ⟨a, x⟩ := ax
    obtain ⟨X0, oe, pn, cls, d, rfl, hz, hfd, rx, bm⟩ := hx
    obtain ⟨ej, CE, ej1, ej2, rfl, ej3⟩ := rx
    have e2 : PE (X0.suite a ((a, oe) :: pn)) (.Name "ValueError" p2) (tC (.ty "ValueError")) := pe_bltn hgc (by rw [C.eM]; exact C.fb _ hf2) PyProof.Rows.Boot.«ValueError» rfl
    by_cases h0 : ej.2 = none
    · have hd : d = none := by
        rw [h0] at ej3
        split at ej3
        · exact ej3
        · rename_i q _; cases q
        · exact ej3.elim
      subst hd
      obtain ⟨kv, kc⟩ := xs.kitV x.c ej CE ej1 ej2 h0
      refine (pe_callB (call_isE (by rw [C.eK]; exact kc) hz hfd) hg (by rw [C.eM]; exact C.fb _ hf) (by decide +kernel) (pa_cons he (pa_cons e2 pa_nil (by rfl)) (star_plain hp _ _)) (by decide +kernel) (by decide +kernel) (star_plain hp _ _) (by rfl)).weak fun σ H Q ⟨ρ, M, Q0, st, rs, rm, ⟨q0, q1, q⟩, ok⟩ => ?_
      refine ⟨ρ, M, fun dd M' => dd = .obj a ∧ Q0 (.bl true) M', st, rs, rm, ?_, fun dd M1 H1 v q1 r1 m1 s1 => ?_⟩
      · dsimp only; rw [q0]; exact ⟨rfl, q⟩
      · obtain ⟨rfl, q1⟩ := q1
        rw [RepD.obj] at r1; subst r1
        refine ⟨.ty "ValueError", .type "ValueError", true, rfl, fun u hu => hu, ?_, ok _ _ _ _ q1 (RepD.bl.mpr rfl) m1 s1⟩
        rw [C.eK]
        exact kv
    · refine ⟨fun pins s σ H Q I ⟨ρ, M, Q0, st, rs, rm, ⟨q0, q1, q⟩, ok⟩ => ?_⟩
      rw [xs.fd _ _ ej1] at q1
      exact absurd q1 h0
theorem ld_xfld {e : Expr} {i : Nat} {f : Str} {pos : Pos} (C : CtxK X G N sc) (xs : XsOk X.prog X.w X.base G cs) (hx : XoOk X G B xo)
    (he : PE X e (lift G B fun ρ M Q => match ρ[i]? with
      | some (some d) => Q d M
      | _ => False)) (hr : recvE e = true) :
    PE X (.Attribute e f pos) (lift G B fun ρ M Q => match (generalizing := false) xo with
    | some (a, x) => ρ[i]? = some (some (.obj a)) ∧ cs.fd x.c = some f ∧ match x.args with
      | [v] => Q v M
      | _ => False
    | none => False) := by
  cases xo with
  | none => exact ⟨fun pins s σ H Q I ⟨ρ, M, Q0, st, rs, rm, q, ok⟩ => q.elim⟩
  | some ax =>
    obtain ⟨a, x⟩ := ax
    obtain ⟨X0, oe, pn, cls, d, rfl, hz, hfd, rx, bm⟩ := hx
    obtain ⟨ej, CE, ej1, ej2, rfl, ej3⟩ := rx
    by_cases h0 : ej.2 = some f
    · obtain ⟨T, hno⟩ := xs.xf x.c ej CE f ej1 ej2 h0
      refine (pe_xf (X := X0) (C := CE) (n := f) (by have := C.eK; rw [show X0.K = G.K from this]; exact T) (by have := C.eK; rw [show X0.K = G.K from this]; exact hno) hz hfd he (base_plain hr _ _ _)).weak fun σ H Q ⟨ρ, M, Q0, st, rs, rm, ⟨q0, q1, q⟩, ok⟩ => ?_
      split at q
      · rename_i v ev
        rw [h0, ev] at ej3
        obtain ⟨dd, u, rfl, hdd, ru⟩ := ej3
        refine ⟨ρ, M, fun d' M' => d' = .obj a ∧ Q0 v M', st, rs, rm, by dsimp only; rw [q0]; exact ⟨rfl, q⟩, fun d' M1 H1 w q1 r1 m1 s1 => ?_⟩
        obtain ⟨rfl, q1⟩ := q1
        rw [RepD.obj] at r1; subst r1
        have bM : B.M dd = none := by
          cases z : B.M dd with
          | none => rfl
          | some o =>
            obtain ⟨ho, h1, h2⟩ := bm dd o z
            rw [hdd] at h1; cases h1
            cases o with
            | lst _ => obtain ⟨_, h, _⟩ := h2; cases h
            | ro _ => obtain ⟨_, _, h, _⟩ := h2; cases h
            | dct _ => obtain ⟨_, h, _⟩ := h2; cases h
            | ins _ _ => obtain ⟨_, _, _, _, _, _, h, _⟩ := h2; cases h
        have h1 : H1 dd = some (.xd [(f, u)]) := (st.trans s1).frame dd _ hdd bM
        refine ⟨rfl, rfl, dd, [(f, u)], u, rfl, h1, by simp [List.lookup], ok _ _ _ _ q1 (RepD.keep (st.trans s1).kp _ _ ru) m1 s1⟩
      · exact q.elim
    · refine ⟨fun pins s σ H Q I ⟨ρ, M, Q0, st, rs, rm, ⟨q0, q1, q⟩, ok⟩ => ?_⟩
      rw [xs.fd _ _ ej1] at q1
      exact absurd q1 h0
end
end DL
set_option Elab.async false
set_option linter.all false
set_option maxRecDepth 100000
set_option maxHeartbeats 2000000
/-! DL12: when a text's tree is a term (computably). -/
namespace DL
open PySem PySem.Spec PyProof.Rows L2

def litB (d : D) (e : Expr) : Bool := match d, e with
  | .non, .Constant .none _ _ => true
  | .bl b, .Constant (.bool c) _ _ => b == c
  | .int i, .Constant (.int j) _ _ => decide (i = j)
  | .str l, .Constant (.str x) _ _ => decide (x.cps.toList = l)
  | _, _ => false
theorem litB_ok {X : Cx} {G : Cfg} {B : Bs} {d : D} {e : Expr} (h : litB d e = true) : PE X e (lift G B fun _ M Q => Q d M) := by
  unfold litB at h
  split at h
  · exact ld_lit pe_non fun H => RepD.non.mpr rfl
  · rw [beq_iff_eq] at h; subst h
    exact ld_lit pe_bl fun H => RepD.bl.mpr rfl
  · rw [decide_eq_true_eq] at h; subst h
    exact ld_lit pe_int fun H => RepD.int.mpr rfl
  · rename_i l x _ _
    rw [decide_eq_true_eq] at h; subst h
    exact ld_lit pe_str fun H => RepD.str.mpr (by rw [S_list])
  · cases h
def opK : BoolOp → Bool | .And => true | .Or => false

mutual
def chkTg : Tg → CE → Expr → Bool
  | .name i, E, e => match e with
    | .Name x _ => E.sto x i
    | _ => false
  | .tup ts, E, e => match e with
    | .Tuple es _ _ => !E.hot && chkTgs ts E es
    | _ => false
def chkTgs : Tgs → CE → List Expr → Bool
  | .nil, _, es => es.isEmpty
  | .cons t ts, E, es => match es with
    | e :: es => chkTg t E e && plainT e && chkTgs ts E es
    | [] => false
end
/-- enumerate, zip: a target that is a tuple -/
def tgFor : MI → Expr → Bool
  | .enu _, t => match t with | .Tuple .. => true | _ => false
  | .zip _ _, t => match t with | .Tuple .. => true | _ => false
  | _, _ => true
def CE.blk (E : CE) (scope : Scope) : CE := { E with sc := relS scope E.sc, fs := fun x => scope.names.lookup x == some .cell, hot := false }
mutual
def chkE : ME → CE → Expr → Bool
  | .var i, E, e => match e with
    | .Name x _ => E.nam x i
    | _ => false
  | .lit d, _, e => litB d e
  | .glb j d, E, e => match e with
    | .Name x _ => E.glo x && match E.cf.gl[j]? with
      | some p => decide (p.1 = x) && eqD p.2 d
      | none => false
    | _ => false
  | .xis i c, E, e => match e with
    | .Call (.Name f _) [.Name x _, .Name y _] [] _ => decide (f = "isinstance") && E.fre "isinstance" && E.nam x i && E.glo y && match E.cf.et[c]? with
      | some ei => decide (ei.1 = y)
      | none => false
    | _ => false
  | .xisV i, E, e => match e with
    | .Call (.Name f _) [.Name x _, .Name y _] [] _ => decide (f = "isinstance") && E.fre "isinstance" && E.nam x i && decide (y = "ValueError") && E.fre "ValueError"
    | _ => false
  | .xfld i f, E, e => match e with
    | .Attribute (.Name x _) g _ => decide (g = f) && E.nam x i
    | _ => false
  | .bin o a b, E, e => match e with
    | .BinOp l op r _ => decide (op = o) && chkE a E l && chkE b E r
    | _ => false
  | .neg a, E, e => match e with
    | .UnaryOp .USub x _ => chkE a E x
    | _ => false
  | .cmp o a b, E, e => match e with
    | .Compare l [op] [r] _ => decide (op = o) && chkE a E l && chkE b E r && plainE r
    | _ => false
  | .chn o o' a b c, E, e => match e with
    | .Compare l [op, op'] [r, t] _ => decide (op = o) && decide (op' = o') && chkE a E l && chkE b E r && chkE c E t && plainE t
    | _ => false
  | .bo k es, E, e => match e with
    | .BoolOp op vs _ => decide (opK op = k) && chkBo es E vs
    | _ => false
  | .not a, E, e => match e with
    | .UnaryOp .Not x _ => chkE a E x
    | _ => false
  | .ite c a b, E, e => match e with
    | .IfExp t l r _ => chkT c E t && chkE a E l && chkE b E r
    | _ => false
  | .tup es, E, e => match e with
    | .Tuple vs _ _ => chkA es E vs && decide (vs.length ≤ 1000)
    | _ => false
  | .lst es, E, e => match e with
    | .List vs _ => chkA es E vs && decide (vs.length ≤ 1000)
    | _ => false
  | .idx a i, E, e => match e with
    | .Subscript l r _ => chkE a E l && chkE i E r && plainE r
    | _ => false
  | .slc a lo hi, E, e => match e with
    | .Subscript l (.Slice lo' hi' none _) _ => chkE a E l && chkO lo E lo' && chkO hi E hi'
    | _ => false
  | .fld c i a, E, e => match e with
    | .Attribute l f _ => chkE a E l && recvE l && match E.cf.ct[c]? with
      | some ci => decide (ci.2[i]? = some f)
      | none => false
    | _ => false
  | .call k es, E, e => match e with
    | .Call (.Name f _) args [] _ => match E.cs.l[k]? with
      | some cl => !E.hot && decide (cl.kind = .fn) && decide (cl.nm = f) && E.glo f && decide (cl.ar = args.length) && chkA es E args
      | none => false
    | _ => false
  | .meth k o es, E, e => match e with
    | .Call (.Attribute l m ap) args [] pos => match E.cs.l[k]? with
      | some cl => !E.hot && (match cl.kind with | .me _ => true | _ => false) && decide (cl.nm = m) && decide (cl.ar = args.length + 1) && chkE o E l && recvE l && chkA es E args && decide (args.length < 29) && (ap.endLine == pos.line)
      | none => false
    | _ => false
  | .make k es, E, e => match e with
    | .Call (.Name f _) args [] _ => match E.cs.l[k]? with
      | some cl => !E.hot && (match cl.kind with | .mk _ => true | _ => false) && decide (cl.nm = f) && E.glo f && decide (cl.ar = args.length + 1) && chkA es E args
      | none => false
    | _ => false
  | .bi f es, E, e => match e with
    | .Call (.Name x _) args [] _ => decide (x = f.name) && E.fre f.name && (f.cool || !E.hot) && chkA es E args && !args.isEmpty
    | _ => false
  | .isi a T, E, e => match e with
    | .Call (.Name f _) [x, .Name y _] [] _ => decide (f = "isinstance") && E.fre "isinstance" && chkE a E x && plainE x && isT T && decide (y = PySem.Str.ofString T) && E.fre y
    | _ => false
  | .bm f o es, E, e => match e with
    | .Call (.Attribute l m ap) args [] pos => decide (m = f.name) && chkE o E l && recvE l && chkA es E args && decide (args.length < 29) && (ap.endLine == pos.line)
    | _ => false
  | .lc elt tg it ifs own, E, e => match e with
    | .ListComp elt' [⟨tg', it', ifs', 0⟩] scope _ => !E.hot && blkC E.N E.sc scope own && decide (scope.kind = .function) && (tg.slots.all fun i => (own.map (·.2)).contains i) && chkI it E it' && (plainE it' && tgFor it tg') && chkTg tg (E.blk scope) tg' && chkIf ifs (E.blk scope) ifs' && chkE elt (E.blk scope) elt'
    | _ => false
  | .rev a, E, e => match e with
    | .Subscript l (.Slice none none (some (.UnaryOp .USub (.Constant (.int 1) _ _) _)) _) _ => chkE a E l
    | _ => false
  | .isit a Ts, E, e => match e with
    | .Call (.Name f _) [x, .Tuple [.Name y1 _, .Name y2 _] _ _] [] _ => (match Ts with
      | [T1, T2] => decide (f = "isinstance") && E.fre "isinstance" && chkE a E x && plainE x && isT T1 && isT T2 && decide (y1 = PySem.Str.ofString T1) && decide (y2 = PySem.Str.ofString T2) && E.fre y1 && E.fre y2
      | _ => false)
    | _ => false
  | .dnew, _, e => match e with
    | .Dict [] [] _ => true
    | _ => false
  | .ddsp k v, E, e => match e with
    | .Dict [some kx] [vx] _ => chkE k E kx && chkE v E vx
    | _ => false
  | .dget o es, E, e => match e with
    | .Call (.Attribute l m ap) args [] pos => decide (m = "get") && chkE o E l && recvE l && chkA es E args && decide (args.length < 29) && (ap.endLine == pos.line) && !args.isEmpty
    | _ => false
  | .dzip a b, E, e => match e with
    | .Call (.Name f _) [.Call (.Name g _) [x, y] [] _] [] _ => !E.hot && decide (f = "dict") && decide (g = "zip") && E.fre "dict" && E.fre "zip" && chkE a E x && chkE b E y && plainE x && plainE y
    | _ => false
  | .lrng es, E, e => match e with
    | .Call (.Name f _) [.Call (.Name g _) [x] [] _] [] _ => !E.hot && decide (f = "list") && decide (g = "range") && E.fre "list" && E.fre "range" && chkA es E [x] && plainE x
    | _ => false
def chkA : MEs → CE → List Expr → Bool
  | .nil, _, es => es.isEmpty
  | .cons m ms, E, es => match es with
    | e :: es => chkE m E e && plainE e && chkA ms E es
    | [] => false
def chkO : MEs → CE → Option Expr → Bool
  | .nil, _, o => o.isNone
  | .cons m ms, E, o => match ms, o with
    | .nil, some e => chkE m E e
    | _, _ => false
def chkBo : MEs → CE → List Expr → Bool
  | .nil, _, _ => false
  | .cons m ms, E, es => match es with
    | [] => false
    | e :: r => chkE m E e && match ms with
      | .nil => r.isEmpty
      | .cons _ _ => chkBo ms E r
def chkT : MT → CE → Expr → Bool
  | .val m, E, e => chkE m E e && truE e
  | .cmp o a b, E, e => match e with
    | .Compare l [op] [r] _ => decide (op = o) && chkE a E l && chkE b E r && plainE r
    | _ => false
  | .chn o o' a b c, E, e => match e with
    | .Compare l [op, op'] [r, t] _ => decide (op = o) && decide (op' = o') && chkE a E l && chkE b E r && chkE c E t && plainE t
    | _ => false
  | .bo k ts, E, e => match e with
    | .BoolOp op vs _ => decide (opK op = k) && chkTs ts E vs
    | _ => false
  | .not t, E, e => match e with
    | .UnaryOp .Not x _ => chkT t E x
    | _ => false
def chkTs : MTs → CE → List Expr → Bool
  | .nil, _, _ => false
  | .cons m ms, E, es => match es with
    | [] => false
    | e :: r => chkT m E e && match ms with
      | .nil => r.isEmpty
      | .cons _ _ => chkTs ms E r
def chkIf : MTs → CE → List Expr → Bool
  | .nil, _, es => es.isEmpty
  | .cons m ms, E, es => match ms, es with
    | .nil, [e] => chkT m E e
    | _, _ => false
def chkI : MI → CE → Expr → Bool
  | .of m, E, e => chkE m E e
  | .rng ms, E, e => match e with
    | .Call (.Name f _) args [] _ => decide (f = "range") && E.fre "range" && chkA ms E args && (args.length == 1 || args.length == 2)
    | _ => false
  | .enu m, E, e => match e with
    | .Call (.Name f _) [x] [] _ => decide (f = "enumerate") && E.fre "enumerate" && chkE m E x && plainE x
    | _ => false
  | .zip _ _, _, _ => false
end

theorem chkA_plain : ∀ {ms : MEs} {E : CE} {es : List Expr}, chkA ms E es = true → plainEs es = true
  | .nil, E, es, h => by
    unfold chkA at h
    cases es with
    | nil => rfl
    | cons _ _ => cases h
  | .cons m ms, E, es, h => by
    cases es with
    | nil => rfl
    | cons e es =>
      unfold chkA at h
      simp only [Bool.and_eq_true] at h
      unfold plainEs
      rw [List.all_cons, h.1.2]
      exact chkA_plain h.2
section
variable {X : Cx} {G : Cfg} {cs : Pk} {N : List Str} {sc : Scope} {fs : Str → Bool} {B : Bs} {W : WD} {xo : XO} {hot : Bool}
theorem bin_ok (C : CtxK X G N sc) (o : Operator) : OpR X (binaryOp o) (lift2 G (binS o)) := by
  have no : ∀ op, OpR X (binaryOp op) (lift2 G fun _ _ _ _ => False) := fun op pins s σ H x y u v Q I r1 r2 h => by
    obtain ⟨d, e, M, Q0, _, _, _, q, _⟩ := h
    exact q.elim
  cases o with
  | Add => exact od_add C.eK
  | Sub => exact od_sub
  | Mult => exact od_mul C.eK
  | Mod => exact od_mod
  | Pow => exact od_pow
  | LShift => exact od_shl
  | RShift => exact od_shr
  | BitAnd => exact od_and
  | FloorDiv => exact od_div
  | MatMult => exact no _
  | Div => exact no _
  | BitOr => exact no _
  | BitXor => exact no _
theorem cmp_ok (C : CtxK X G N sc) (o : CmpOp) : OpR X (compareOp o) (lift2 G (cmpS o)) := by
  cases o with
  | Eq => exact od_eq C.eK C.hu
  | NotEq => exact od_ne C.eK C.hu
  | Lt => exact od_lt
  | LtE => exact od_le
  | Gt => exact od_gt
  | GtE => exact od_ge
  | Is => exact od_is
  | IsNot => exact od_isnot
  | In => exact od_inGG C false
  | NotIn => exact od_inGG C true
end
end DL
set_option Elab.async false
set_option linter.all false
set_option maxRecDepth 100000
set_option maxHeartbeats 2000000
/-! DL13: what is checked is so: expressions. -/
namespace DL
open PySem PySem.Spec PyProof.Rows L2

theorem vTru_bl {b : Bool} {M : Mem} {Q : Bool → Mem → Prop} : vTru (.bl b) M Q = Q b M := rfl
theorem cmp_bl (o : CmpOp) : ∀ d e M (Q : Bool → Mem → Prop), cmpS o d e M (fun z M' => vTru z M' Q) → cmpS o d e M (fun z M' => ∃ k, z = .bl k ∧ Q k M') := by
  have key : ∀ {k : Bool} {M : Mem} {Q : Bool → Mem → Prop}, vTru (.bl k) M Q → ∃ k', D.bl k = .bl k' ∧ Q k' M := fun h => ⟨_, rfl, h⟩
  have hEq : ∀ (neg : Bool) d e M (Q : Bool → Mem → Prop), vEqK neg d e M (fun z M' => vTru z M' Q) → vEqK neg d e M (fun z M' => ∃ k, z = .bl k ∧ Q k M') := fun neg d e M Q h => by
    unfold vEqK at h ⊢
    split at h
    · exact key h
    · exact key h
    · exact key h
    · exact ⟨h.1, h.2.1, key h.2.2⟩
    · split at h
      · exact ⟨h.1, h.2.1, key h.2.2⟩
      · exact h.elim
  have hO : ∀ gi gs d e M (Q : Bool → Mem → Prop), vOrd gi gs d e M (fun z M' => vTru z M' Q) → vOrd gi gs d e M (fun z M' => ∃ k, z = .bl k ∧ Q k M') := fun gi gs d e M Q h => by
    unfold vOrd at h ⊢
    split at h
    · exact key h
    · exact key h
    · exact h.elim
  have hI : ∀ (neg : Bool) d e M (Q : Bool → Mem → Prop), vIsK neg d e M (fun z M' => vTru z M' Q) → vIsK neg d e M (fun z M' => ∃ k, z = .bl k ∧ Q k M') := fun neg d e M Q h => by
    unfold vIsK at h ⊢
    split at h
    · exact key h
    · exact key h
    · exact h.elim
  have hN : ∀ (neg : Bool) d e M (Q : Bool → Mem → Prop), vInK neg d e M (fun z M' => vTru z M' Q) → vInK neg d e M (fun z M' => ∃ k, z = .bl k ∧ Q k M') := fun neg d e M Q h => by
    unfold vInK at h ⊢
    split at h
    · exact key h
    · exact ⟨h.1, h.2.1, key h.2.2⟩
    · split at h
      · exact ⟨h.1, h.2.1, key h.2.2⟩
      · exact h.elim
    · exact h.elim
  have hG : ∀ (neg : Bool) d e M (Q : Bool → Mem → Prop), vInG neg d e M (fun z M' => vTru z M' Q) → vInG neg d e M (fun z M' => ∃ k, z = .bl k ∧ Q k M') := fun neg d e M Q h => by
    unfold vInG at h ⊢
    split at h
    · rename_i hc
      rw [if_pos hc]
      unfold vDIn at h ⊢
      split at h
      · split at h
        · exact ⟨h.1, key h.2⟩
        · exact h.elim
      · exact h.elim
    · rename_i hc
      rw [if_neg hc]
      exact hN _ _ _ _ _ h
  intro d e M Q h
  cases o with
  | Eq => exact hEq _ _ _ _ _ h
  | NotEq => exact hEq _ _ _ _ _ h
  | Lt => exact hO _ _ _ _ _ _ h
  | LtE => exact hO _ _ _ _ _ _ h
  | Gt => exact hO _ _ _ _ _ _ h
  | GtE => exact hO _ _ _ _ _ _ h
  | Is => exact hI _ _ _ _ _ h
  | IsNot => exact hI _ _ _ _ _ h
  | In => exact hG _ _ _ _ _ h
  | NotIn => exact hG _ _ _ _ _ h

/-! ### targets -/
mutual
def Tg.len : Tg → Nat
  | .name _ => 0
  | .tup ts => ts.len
def Tgs.len : Tgs → Nat
  | .nil => 0
  | .cons _ ts => ts.len + 1
end
mutual
theorem wpTg_ex : ∀ (t : Tg) {d : D} {ρ : En} {k : En → Prop}, wpTg t d ρ k → ∃ ρ', k ρ'
  | .name i, d, ρ, k, h => ⟨_, h⟩
  | .tup ts, d, ρ, k, h => by
    unfold wpTg at h
    split at h
    · exact (wpTgs_len ts h).2
    · exact h.elim
theorem wpTgs_len : ∀ (ts : Tgs) {ds : List D} {ρ : En} {k : En → Prop}, wpTgs ts ds ρ k → ds.length = ts.len ∧ ∃ ρ', k ρ'
  | .nil, ds, ρ, k, h => by
    unfold wpTgs at h
    split at h
    · exact ⟨rfl, _, h⟩
    · exact h.elim
  | .cons t ts, ds, ρ, k, h => by
    unfold wpTgs at h
    split at h
    · obtain ⟨ρ', h2⟩ := wpTg_ex t h
      obtain ⟨l, r⟩ := wpTgs_len ts h2
      exact ⟨by simp [Tgs.len, l], r⟩
    · exact h.elim
end
/-- E checks what c has -/
abbrev CeOk (E : CE) (G : Cfg) (cs : Pk) (N : List Str) (sc : Scope) (fs : Str → Bool) (hot : Bool) : Prop := E = ⟨G.toCf, cs, N, sc, fs, hot⟩
section
variable {X : Cx} {G : Cfg} {cs : Pk} {N : List Str} {sc : Scope} {fs : Str → Bool} {B : Bs} {W : WD} {xo : XO} {hot : Bool}
theorem sto_ok (c : Ct X G cs N sc fs B W xo hot) {x : Str} {i : Nat} (h : (CE.mk G.toCf cs N sc fs hot).sto x i = true) : N[i]? = some x ∧ L2.Loc sc x ∧ (X.fn x = true ∨ sc.names.lookup x = some .local) := by
  unfold CE.sto at h
  simp only [Bool.and_eq_true, Bool.or_eq_true, decide_eq_true_eq] at h
  exact ⟨h.1.1, locB_ok h.1.2, h.2.imp (c.fn x) id⟩
theorem calm_of (c : Ct X G cs N sc fs B W xo hot) (h : (!hot) = true) : CtxOk X G N sc := ⟨c.k, c.calm (by simpa using h)⟩
theorem len_of : ∀ {ts : Tgs} {E : CE} {es : List Expr}, chkTgs ts E es = true → ts.len = es.length ∧ es.all plainT = true
  | .nil, E, es, h => by
    unfold chkTgs at h
    rw [List.isEmpty_iff] at h; subst h
    unfold Tgs.len
    exact ⟨rfl, rfl⟩
  | .cons t ts, E, es, h => by
    unfold chkTgs at h
    cases es with
    | nil => cases h
    | cons e es =>
      simp only [Bool.and_eq_true] at h
      obtain ⟨l, a⟩ := len_of h.2
      unfold Tgs.len
      exact ⟨by rw [List.length_cons, l], by rw [List.all_cons, h.1.2, a]; rfl⟩
mutual
theorem snTg (c : Ct X G cs N sc fs B W xo hot) : ∀ (t : Tg) (e : Expr), chkTg t ⟨G.toCf, cs, N, sc, fs, hot⟩ e = true → PG X e (liftG G t.slots (wpTg t))
  | .name i, e, h => by
    unfold chkTg at h
    split at h
    · obtain ⟨h1, h2, h3⟩ := sto_ok c h
      unfold Tg.slots
      exact lg_name c.k h1 h2 h3
    · cases h
  | .tup ts, e, h => by
    unfold chkTg at h
    split at h
    · simp only [Bool.and_eq_true] at h
      obtain ⟨l, a⟩ := len_of h.2
      unfold Tg.slots
      exact lg_tup (calm_of c h.1) (snTgs c ts _ h.2) a fun ds ρ k q => (wpTgs_len ts q).1.trans l
    · cases h
theorem snTgs (c : Ct X G cs N sc fs B W xo hot) : ∀ (ts : Tgs) (es : List Expr), chkTgs ts ⟨G.toCf, cs, N, sc, fs, hot⟩ es = true → PGs X es (liftGs G ts.slots (wpTgs ts))
  | .nil, es, h => by
    unfold chkTgs at h
    rw [List.isEmpty_iff] at h; subst h
    unfold Tgs.slots
    exact lgs_nil
  | .cons t ts, es, h => by
    unfold chkTgs at h
    cases es with
    | nil => cases h
    | cons e es =>
      simp only [Bool.and_eq_true] at h
      unfold Tgs.slots
      exact lgs_cons (snTg c t e h.1.1) (snTgs c ts es h.2) h.1.2
end
theorem snVar (c : CtxK X G N sc) {i : Nat} {x : Str} {p : Pos} (h : (CE.mk G.toCf cs N sc fs hot).nam x i = true) : PE X (.Name x p) (lift G B fun ρ M Q => match ρ[i]? with
      | some (some d) => Q d M
      | _ => False) := by
  unfold CE.nam at h
  simp only [Bool.and_eq_true, Bool.not_eq_true', decide_eq_true_eq] at h
  exact ld_var c h.1.1.1 (visB_ok h.1.1.2) h.1.2 h.2
theorem fre_ok (c : CtxK X G N sc) {x : Str} (h : (CE.mk G.toCf cs N sc fs hot).fre x = true) : Gl X x ∧ x ∈ G.fb := by
  unfold CE.fre at h
  rw [Bool.and_eq_true, decide_eq_true_eq] at h
  exact ⟨(gl_ok (E := CE.mk G.toCf cs N sc fs hot) c h.1).1, h.2⟩
theorem opK_and {op : BoolOp} (h : opK op = true) : op = .And := by cases op <;> first | rfl | cases h
theorem opK_or {op : BoolOp} (h : opK op = false) : op = .Or := by cases op <;> first | rfl | cases h

theorem blkSc (G : Cfg) (cs : Pk) (N : List Str) (sc : Scope) (fs : Str → Bool) (hot : Bool) (scope : Scope) : (CE.mk G.toCf cs N sc fs hot).blk scope = ⟨G.toCf, cs, N, relS scope sc, fun x => scope.names.lookup x == some .cell, false⟩ := rfl
mutual
theorem snE : ∀ (m : ME) {X : Cx} {sc : Scope} {fs : Str → Bool} {B : Bs} {W : WD} {xo : XO} {hot : Bool} (c : Ct X G cs N sc fs B W xo hot) (e : Expr), chkE m ⟨G.toCf, cs, N, sc, fs, hot⟩ e = true → PE X e (lift G B (wpE cs W xo m))
  | .var i, X, sc, fs, B, W, xo, hot, c, e, h => by
    unfold chkE at h
    unfold wpE
    split at h
    · exact snVar c.k h
    · cases h
  | .lit d, X, sc, fs, B, W, xo, hot, c, e, h => by
    unfold chkE at h
    unfold wpE
    exact litB_ok h
  | .glb j d, X, sc, fs, B, W, xo, hot, c, e, h => by
    unfold chkE at h
    unfold wpE
    split at h
    · rename_i x p
      rw [Bool.and_eq_true] at h
      obtain ⟨h1, h2⟩ := h
      split at h2
      · rename_i q eq
        rw [Bool.and_eq_true, decide_eq_true_eq] at h2
        obtain ⟨rfl, h3⟩ := h2
        have := eqD_eq _ _ h3
        subst this
        obtain ⟨u, v, g1, g2, g3⟩ := c.k.gl q (List.mem_of_getElem? eq)
        obtain ⟨k1, k2⟩ := gl_ok (E := CE.mk G.toCf cs N sc fs hot) c.k h1
        exact ld_lit (pe_glob k1 (by rw [c.k.eM]; exact g1) g2 k2) g3
      · cases h2
    · cases h
  | .xis i k, X, sc, fs, B, W, xo, hot, c, e, h => by
    unfold chkE at h
    unfold wpE
    split at h
    · simp only [Bool.and_eq_true, decide_eq_true_eq] at h
      obtain ⟨⟨⟨⟨rfl, h1⟩, h2⟩, h3⟩, h4⟩ := h
      split at h4
      · rename_i ei eq
        rw [decide_eq_true_eq] at h4; subst h4
        obtain ⟨a1, a2⟩ := fre_ok c.k h1
        obtain ⟨k1, k2⟩ := gl_ok (E := CE.mk G.toCf cs N sc fs hot) c.k h3
        exact ld_xis c.k c.xs c.xo a1 a2 eq k1 k2 (snVar (cs := cs) (fs := fs) (hot := hot) c.k h2) rfl
      · cases h4
    · cases h
  | .xisV i, X, sc, fs, B, W, xo, hot, c, e, h => by
    unfold chkE at h
    unfold wpE
    split at h
    · simp only [Bool.and_eq_true, decide_eq_true_eq] at h
      obtain ⟨⟨⟨⟨rfl, h1⟩, h2⟩, rfl⟩, h4⟩ := h
      obtain ⟨a1, a2⟩ := fre_ok c.k h1
      obtain ⟨b1, b2⟩ := fre_ok c.k h4
      exact ld_xisV c.k c.xs c.xo a1 a2 b1 b2 (snVar (cs := cs) (fs := fs) (hot := hot) c.k h2) rfl
    · cases h
  | .xfld i f, X, sc, fs, B, W, xo, hot, c, e, h => by
    unfold chkE at h
    unfold wpE
    split at h
    · simp only [Bool.and_eq_true, decide_eq_true_eq] at h
      obtain ⟨rfl, h2⟩ := h
      exact ld_xfld c.k c.xs c.xo (snVar (cs := cs) (fs := fs) (hot := hot) c.k h2) rfl
    · cases h
  | .bin o a b, X, sc, fs, B, W, xo, hot, c, e, h => by
    unfold chkE at h
    unfold wpE
    split at h
    · simp only [Bool.and_eq_true, decide_eq_true_eq] at h
      obtain ⟨⟨rfl, h1⟩, h2⟩ := h
      exact ld_bin (bin_ok c.k _) (snE a c _ h1) (snE b c _ h2)
    · cases h
  | .neg a, X, sc, fs, B, W, xo, hot, c, e, h => by
    unfold chkE at h
    unfold wpE
    split at h
    · exact ld_neg (snE a c _ h)
    · cases h
  | .cmp o a b, X, sc, fs, B, W, xo, hot, c, e, h => by
    unfold chkE at h
    unfold wpE
    split at h
    · simp only [Bool.and_eq_true, decide_eq_true_eq] at h
      obtain ⟨⟨⟨rfl, h1⟩, h2⟩, h3⟩ := h
      exact ld_cmp (cmp_ok c.k _) (snE a c _ h1) (snE b c _ h2) h3
    · cases h
  | .chn o o' a b d, X, sc, fs, B, W, xo, hot, c, e, h => by
    unfold chkE at h
    unfold wpE
    split at h
    · simp only [Bool.and_eq_true, decide_eq_true_eq] at h
      obtain ⟨⟨⟨⟨⟨rfl, rfl⟩, h1⟩, h2⟩, h3⟩, h4⟩ := h
      exact ld_chn (cmp_ok c.k _) (cmp_ok c.k _) (snE a c _ h1) (snE b c _ h2) (snE d c _ h3) h4
    · cases h
  | .bo k es, X, sc, fs, B, W, xo, hot, c, e, h => by
    unfold chkE at h
    unfold wpE
    split at h
    · simp only [Bool.and_eq_true, decide_eq_true_eq] at h
      obtain ⟨rfl, h2⟩ := h
      exact snBo es c _ _ _ h2
    · cases h
  | .not a, X, sc, fs, B, W, xo, hot, c, e, h => by
    unfold chkE at h
    unfold wpE
    split at h
    · exact ld_not c.k (snE a c _ h)
    · cases h
  | .ite t a b, X, sc, fs, B, W, xo, hot, c, e, h => by
    unfold chkE at h
    unfold wpE
    split at h
    · simp only [Bool.and_eq_true] at h
      exact ld_ite (snT t c _ h.1.1) (snE a c _ h.1.2) (snE b c _ h.2)
    · cases h
  | .tup es, X, sc, fs, B, W, xo, hot, c, e, h => by
    unfold chkE at h
    unfold wpE
    split at h
    · simp only [Bool.and_eq_true, decide_eq_true_eq] at h
      exact ld_tup (snA es c _ h.1) (Nat.le_trans h.2 (by decide))
    · cases h
  | .lst es, X, sc, fs, B, W, xo, hot, c, e, h => by
    unfold chkE at h
    unfold wpE
    split at h
    · simp only [Bool.and_eq_true, decide_eq_true_eq] at h
      exact ld_lst (snA es c _ h.1) (Nat.le_trans h.2 (by decide))
    · cases h
  | .idx a i, X, sc, fs, B, W, xo, hot, c, e, h => by
    unfold chkE at h
    unfold wpE
    split at h
    · simp only [Bool.and_eq_true] at h
      exact ld_idx (ix_get c.k) (snE a c _ h.1.1) (snE i c _ h.1.2) h.2
    · cases h
  | .slc a lo hi, X, sc, fs, B, W, xo, hot, c, e, h => by
    unfold chkE at h
    unfold wpE
    split at h
    · simp only [Bool.and_eq_true] at h
      exact ld_slc (sd_slc c.k.eK) (snE a c _ h.1.1) (snO lo c _ h.1.2) (snO hi c _ h.2)
    · cases h
  | .fld k i a, X, sc, fs, B, W, xo, hot, c, e, h => by
    unfold chkE at h
    unfold wpE
    split at h
    · simp only [Bool.and_eq_true] at h
      obtain ⟨⟨h1, h2⟩, h3⟩ := h
      split at h3
      · rename_i ci eq
        rw [decide_eq_true_eq] at h3
        exact ld_fld c.k eq (c.k.nc ci (List.mem_of_getElem? eq)) h3 (snE a c _ h1) h2
      · cases h3
    · cases h
  | .call k es, X, sc, fs, B, W, xo, hot, c, e, h => by
    unfold chkE at h
    unfold wpE
    split at h
    · split at h
      · rename_i f p args pos x cl eq
        simp only [Bool.and_eq_true, decide_eq_true_eq] at h
        obtain ⟨⟨⟨⟨⟨h1, h2⟩, rfl⟩, h4⟩, h5⟩, h6⟩ := h
        have mem := List.mem_of_getElem? eq
        obtain ⟨k1, k2⟩ := gl_ok (E := CE.mk G.toCf cs N sc fs hot) c.k h4
        have hA := snA es c _ h6
        have hr := c.room (by simpa using h1) cl mem
        cases args with
        | nil =>
          have : es = .nil := by
            cases es with
            | nil => rfl
            | cons _ _ => unfold chkA at h6; cases h6
          subst this
          rw [eq]
          unfold wpA
          exact ld_call0 (k := 0) c.k h2 (c.cok cl mem) h5 hr c.tk k1 k2
        | cons a as =>
          rw [eq]
          exact ld_callN c.k h2 (c.cok cl mem) h5 hr c.tk k1 k2 (chkA_plain h6) hA
      · cases h
    · cases h
  | .meth k o es, X, sc, fs, B, W, xo, hot, c, e, h => by
    unfold chkE at h
    unfold wpE
    split at h
    · split at h
      · rename_i l m ap args pos x cl eq
        simp only [Bool.and_eq_true, decide_eq_true_eq] at h
        obtain ⟨⟨⟨⟨⟨⟨⟨⟨h1, h2⟩, rfl⟩, h4⟩, h5⟩, h6⟩, h7⟩, h8⟩, h9⟩ := h
        have mem := List.mem_of_getElem? eq
        have hA := snA es c _ h7
        have hr := c.room (by simpa using h1) cl mem
        rw [eq]
        split at h2
        · rename_i kk ek
          dsimp only
          rw [ek]
          cases args with
          | nil =>
            have : es = .nil := by
              cases es with
              | nil => rfl
              | cons _ _ => unfold chkA at h7; cases h7
            subst this
            refine (ld_meth0 (k := kk) c.k ek (c.cok cl mem) h4 hr c.tk (snE o c _ h5) h6 h9).weak fun σ H Q z => ?_
            obtain ⟨ρ, M, Q0, st, rs, rm, q, ok⟩ := z
            refine ⟨ρ, M, Q0, st, rs, rm, ?_, ok⟩
            unfold onIns
            unfold wpA at q
            exact q
          | cons a as =>
            refine (ld_methN (k := kk) c.k ek (c.cok cl mem) h4 hr c.tk (snE o c _ h5) h6 (chkA_plain h7) hA h8 h9).weak fun σ H Q z => ?_
            obtain ⟨ρ, M, Q0, st, rs, rm, q, ok⟩ := z
            refine ⟨ρ, M, Q0, st, rs, rm, ?_, ok⟩
            unfold onIns
            exact q
        · cases h2
      · cases h
    · cases h
  | .make k es, X, sc, fs, B, W, xo, hot, c, e, h => by
    unfold chkE at h
    unfold wpE
    split at h
    · split at h
      · rename_i f p args pos x cl eq
        simp only [Bool.and_eq_true, decide_eq_true_eq] at h
        obtain ⟨⟨⟨⟨⟨h1, h2⟩, rfl⟩, h4⟩, h5⟩, h6⟩ := h
        have mem := List.mem_of_getElem? eq
        obtain ⟨k1, k2⟩ := gl_ok (E := CE.mk G.toCf cs N sc fs hot) c.k h4
        have hA := snA es c _ h6
        have hr := c.room (by simpa using h1) cl mem
        rw [eq]
        split at h2
        · rename_i kk ek
          dsimp only
          rw [ek]
          cases args with
          | nil =>
            have : es = .nil := by
              cases es with
              | nil => rfl
              | cons _ _ => unfold chkA at h6; cases h6
            subst this
            unfold wpA
            exact ld_make0 (k := kk) c.k ek (c.cok cl mem) h5 hr c.tk k1 k2
          | cons a as => exact ld_makeN (k := kk) c.k ek (c.cok cl mem) h5 hr c.tk k1 k2 (chkA_plain h6) hA
        · cases h2
      · cases h
    · cases h
  | .bi f es, X, sc, fs, B, W, xo, hot, c, e, h => by
    unfold chkE at h
    unfold wpE
    split at h
    · rename_i x p args pos
      simp only [Bool.and_eq_true, decide_eq_true_eq, Bool.or_eq_true] at h
      obtain ⟨⟨⟨⟨rfl, h1⟩, h2⟩, h3⟩, h4⟩ := h
      obtain ⟨a1, a2⟩ := fre_ok c.k h1
      cases args with
      | nil => cases h4
      | cons a as => exact ld_bi c.k f (h2.imp id fun z => c.calm (by simpa using z)) a1 a2 (chkA_plain h3) (snA es c _ h3)
    · cases h
  | .isi a T, X, sc, fs, B, W, xo, hot, c, e, h => by
    unfold chkE at h
    unfold wpE
    split at h
    · simp only [Bool.and_eq_true, decide_eq_true_eq] at h
      obtain ⟨⟨⟨⟨⟨⟨rfl, h1⟩, h2⟩, h3⟩, h4⟩, rfl⟩, h6⟩ := h
      obtain ⟨a1, a2⟩ := fre_ok c.k h1
      obtain ⟨b1, b2⟩ := fre_ok c.k h6
      exact ld_isi c.k a1 a2 h4 b1 b2 (snE a c _ h2) h3
    · cases h
  | .bm f o es, X, sc, fs, B, W, xo, hot, c, e, h => by
    unfold chkE at h
    unfold wpE
    split at h
    · rename_i l m ap args pos
      simp only [Bool.and_eq_true, decide_eq_true_eq] at h
      obtain ⟨⟨⟨⟨⟨rfl, h1⟩, h2⟩, h3⟩, h4⟩, h5⟩ := h
      cases args with
      | nil =>
        have : es = .nil := by
          cases es with
          | nil => rfl
          | cons _ _ => unfold chkA at h3; cases h3
        subst this
        unfold wpA
        exact ld_bm0 c.k f (snE o c _ h1) h2 h5
      | cons a as => exact ld_bmN c.k f (snE o c _ h1) h2 (chkA_plain h3) (snA es c _ h3) h4 h5
    · cases h
  | .lc elt tg it ifs own, X, sc, fs, B, W, xo, hot, c, e, h => by
    unfold chkE at h
    unfold wpE
    split at h
    · rename_i elt' tg' it' ifs' scope pos
      simp only [Bool.and_eq_true, decide_eq_true_eq] at h
      obtain ⟨⟨⟨⟨⟨⟨⟨⟨h1, h2⟩, h3⟩, h4⟩, h5⟩, h6⟩, h7⟩, h8⟩, h9⟩ := h
      have hot0 : hot = false := by simpa using h1
      subst hot0
      rw [blkSc] at h7 h8 h9
      refine ld_lc c.ok (snI it c tg' _ h5 h6.1 h6.2) (blkOk_by h2) (fun i hi => ?_) (fun s H cc cl fp => snTg (c.blk h3) tg _ h7) (fun s H cc cl fp => snIf ifs (c.blk h3) _ h8) (fun s H cc cl fp => snE elt (c.blk h3) _ h9) h6.1
      exact List.contains_iff_mem.mp (List.all_eq_true.mp h4 i hi)
    · cases h
  | .rev a, X, sc, fs, B, W, xo, hot, c, e, h => by
    unfold chkE at h
    unfold wpE
    split at h
    · exact ld_rev c.k (snE a c _ h)
    · cases h
  | .isit a Ts, X, sc, fs, B, W, xo, hot, c, e, h => by
    unfold chkE at h
    unfold wpE
    split at h
    · split at h
      · simp only [Bool.and_eq_true, decide_eq_true_eq] at h
        obtain ⟨⟨⟨⟨⟨⟨⟨⟨⟨rfl, h1⟩, h2⟩, h3⟩, h4⟩, h5⟩, rfl⟩, rfl⟩, h8⟩, h9⟩ := h
        obtain ⟨a1, a2⟩ := fre_ok c.k h1
        obtain ⟨b1, b2⟩ := fre_ok c.k h8
        obtain ⟨d1, d2⟩ := fre_ok c.k h9
        exact ld_isit c.k a1 a2 h4 h5 b1 b2 d1 d2 (snE a c _ h2) h3
      · cases h
    · cases h
  | .dnew, X, sc, fs, B, W, xo, hot, c, e, h => by
    unfold chkE at h
    unfold wpE
    split at h
    · exact ld_dnew
    · cases h
  | .ddsp k v, X, sc, fs, B, W, xo, hot, c, e, h => by
    unfold chkE at h
    unfold wpE
    split at h
    · rw [Bool.and_eq_true] at h
      exact ld_ddsp c.k (snE k c _ h.1) (snE v c _ h.2)
    · cases h
  | .dget o es, X, sc, fs, B, W, xo, hot, c, e, h => by
    unfold chkE at h
    unfold wpE
    split at h
    · rename_i l m ap args pos
      simp only [Bool.and_eq_true, decide_eq_true_eq] at h
      obtain ⟨⟨⟨⟨⟨⟨rfl, h1⟩, h2⟩, h3⟩, h4⟩, h5⟩, h6⟩ := h
      cases args with
      | nil => cases h6
      | cons a as => exact ld_dget c.k (snE o c _ h1) h2 (chkA_plain h3) (snA es c _ h3) h4 h5
    · cases h
  | .dzip a b, X, sc, fs, B, W, xo, hot, c, e, h => by
    unfold chkE at h
    unfold wpE
    split at h
    · simp only [Bool.and_eq_true, decide_eq_true_eq] at h
      obtain ⟨⟨⟨⟨⟨⟨⟨⟨h0, rfl⟩, rfl⟩, h1⟩, h2⟩, h3⟩, h4⟩, h5⟩, h6⟩ := h
      obtain ⟨a1, a2⟩ := fre_ok c.k h1
      obtain ⟨b1, b2⟩ := fre_ok c.k h2
      exact ld_dzip (calm_of c h0) a1 a2 b1 b2 (snE a c _ h3) (snE b c _ h4) h5 h6
    · cases h
  | .lrng es, X, sc, fs, B, W, xo, hot, c, e, h => by
    unfold chkE at h
    unfold wpE
    split at h
    · simp only [Bool.and_eq_true, decide_eq_true_eq] at h
      obtain ⟨⟨⟨⟨⟨⟨h0, rfl⟩, rfl⟩, h1⟩, h2⟩, h3⟩, h4⟩ := h
      obtain ⟨a1, a2⟩ := fre_ok c.k h1
      obtain ⟨b1, b2⟩ := fre_ok c.k h2
      exact ld_lrng (calm_of c h0) a1 a2 b1 b2 (snA es c _ h3) h4
    · cases h
theorem snA : ∀ (ms : MEs) {X : Cx} {sc : Scope} {fs : Str → Bool} {B : Bs} {W : WD} {xo : XO} {hot : Bool} (c : Ct X G cs N sc fs B W xo hot) (es : List Expr), chkA ms ⟨G.toCf, cs, N, sc, fs, hot⟩ es = true → PA X es (liftA G B es.length (wpA cs W xo ms))
  | .nil, X, sc, fs, B, W, xo, hot, c, es, h => by
    unfold chkA at h
    rw [List.isEmpty_iff] at h; subst h
    unfold wpA
    exact la_nil
  | .cons m ms, X, sc, fs, B, W, xo, hot, c, es, h => by
    unfold chkA at h
    cases es with
    | nil => cases h
    | cons e es =>
      simp only [Bool.and_eq_true] at h
      unfold wpA
      exact la_cons (snE m c e h.1.1) (snA ms c es h.2) h.1.2
theorem snO : ∀ (ms : MEs) {X : Cx} {sc : Scope} {fs : Str → Bool} {B : Bs} {W : WD} {xo : XO} {hot : Bool} (c : Ct X G cs N sc fs B W xo hot) (o : Option Expr), chkO ms ⟨G.toCf, cs, N, sc, fs, hot⟩ o = true → PO X o (liftO G B (optI (wpA cs W xo ms)))
  | .nil, X, sc, fs, B, W, xo, hot, c, o, h => by
    unfold chkO at h
    rw [Option.isNone_iff_eq_none] at h; subst h
    unfold wpA
    exact lo_none
  | .cons m ms, X, sc, fs, B, W, xo, hot, c, o, h => by
    unfold chkO at h
    split at h
    · unfold wpA wpA
      exact lo_some (snE m c _ h)
    · cases h
theorem snBo : ∀ (ms : MEs) {X : Cx} {sc : Scope} {fs : Str → Bool} {B : Bs} {W : WD} {xo : XO} {hot : Bool} (c : Ct X G cs N sc fs B W xo hot) (op : BoolOp) (es : List Expr) (pos : Pos), chkBo ms ⟨G.toCf, cs, N, sc, fs, hot⟩ es = true → PE X (.BoolOp op es pos) (lift G B (wpBo cs W xo (opK op) ms))
  | .nil, X, sc, fs, B, W, xo, hot, c, op, es, pos, h => by
    unfold chkBo at h
    cases h
  | .cons m ms, X, sc, fs, B, W, xo, hot, c, op, es, pos, h => by
    unfold chkBo at h
    cases es with
    | nil => cases h
    | cons e r =>
      dsimp only at h
      rw [Bool.and_eq_true] at h
      cases ms with
      | nil =>
        have h2 := h.2
        dsimp only at h2
        rw [List.isEmpty_iff] at h2; subst h2
        unfold wpBo
        exact ld_one (snE m c e h.1)
      | cons m2 ms2 =>
        have h2 := h.2
        dsimp only at h2
        cases r with
        | nil => unfold chkBo at h2; cases h2
        | cons e2 r2 =>
          have ih := snBo (.cons m2 ms2) c op (e2 :: r2) pos h2
          unfold wpBo
          cases op with
          | And => exact ld_and c.k (snE m c e h.1) ih
          | Or => exact ld_or c.k (snE m c e h.1) ih
theorem snT : ∀ (t : MT) {X : Cx} {sc : Scope} {fs : Str → Bool} {B : Bs} {W : WD} {xo : XO} {hot : Bool} (c : Ct X G cs N sc fs B W xo hot) (e : Expr), chkT t ⟨G.toCf, cs, N, sc, fs, hot⟩ e = true → PT X e (liftT G B (wpT cs W xo t))
  | .cmp o a b, X, sc, fs, B, W, xo, hot, c, e, h => by
    unfold chkT at h
    unfold wpT
    split at h
    · simp only [Bool.and_eq_true, decide_eq_true_eq] at h
      obtain ⟨⟨⟨rfl, h1⟩, h2⟩, h3⟩ := h
      exact lt_cmp (cmp_bl _) (cmp_ok c.k _) (snE a c _ h1) (snE b c _ h2) h3
    · cases h
  | .chn o o' a b d, X, sc, fs, B, W, xo, hot, c, e, h => by
    unfold chkT at h
    unfold wpT
    split at h
    · simp only [Bool.and_eq_true, decide_eq_true_eq] at h
      obtain ⟨⟨⟨⟨⟨rfl, rfl⟩, h1⟩, h2⟩, h3⟩, h4⟩ := h
      exact lt_chn (cmp_bl _) (cmp_ok c.k _) (cmp_ok c.k _) (snE a c _ h1) (snE b c _ h2) (snE d c _ h3) h4
    · cases h
  | .val m, X, sc, fs, B, W, xo, hot, c, e, h => by
    unfold chkT at h
    rw [Bool.and_eq_true] at h
    unfold wpT
    exact lt_val c.k (snE m c e h.1) h.2
  | .bo k ts, X, sc, fs, B, W, xo, hot, c, e, h => by
    unfold chkT at h
    unfold wpT
    split at h
    · simp only [Bool.and_eq_true, decide_eq_true_eq] at h
      obtain ⟨rfl, h2⟩ := h
      exact (snTs ts c _ _ _ h2).pt
    · cases h
  | .not t, X, sc, fs, B, W, xo, hot, c, e, h => by
    unfold chkT at h
    unfold wpT
    split at h
    · exact lt_not (snT t c _ h)
    · cases h
theorem snTs : ∀ (ms : MTs) {X : Cx} {sc : Scope} {fs : Str → Bool} {B : Bs} {W : WD} {xo : XO} {hot : Bool} (c : Ct X G cs N sc fs B W xo hot) (op : BoolOp) (es : List Expr) (pos : Pos), chkTs ms ⟨G.toCf, cs, N, sc, fs, hot⟩ es = true → PW X (.BoolOp op es pos) (liftT G B (wpTs cs W xo (opK op) ms))
  | .nil, X, sc, fs, B, W, xo, hot, c, op, es, pos, h => by
    unfold chkTs at h
    cases h
  | .cons m ms, X, sc, fs, B, W, xo, hot, c, op, es, pos, h => by
    unfold chkTs at h
    cases es with
    | nil => cases h
    | cons e r =>
      dsimp only at h
      rw [Bool.and_eq_true] at h
      cases ms with
      | nil =>
        have h2 := h.2
        dsimp only at h2
        rw [List.isEmpty_iff] at h2; subst h2
        unfold wpTs
        exact lw_one (snT m c e h.1)
      | cons m2 ms2 =>
        have h2 := h.2
        dsimp only at h2
        cases r with
        | nil => unfold chkTs at h2; cases h2
        | cons e2 r2 =>
          have ih := snTs (.cons m2 ms2) c op (e2 :: r2) pos h2
          unfold wpTs
          cases op with
          | And => exact lw_and (snT m c e h.1) ih
          | Or => exact lw_or (snT m c e h.1) ih
theorem snIf : ∀ (ms : MTs) {X : Cx} {sc : Scope} {fs : Str → Bool} {B : Bs} {W : WD} {xo : XO} {hot : Bool} (c : Ct X G cs N sc fs B W xo hot) (es : List Expr), chkIf ms ⟨G.toCf, cs, N, sc, fs, hot⟩ es = true → PTs X es (liftT G B (wpIf cs W xo ms))
  | .nil, X, sc, fs, B, W, xo, hot, c, es, h => by
    unfold chkIf at h
    rw [List.isEmpty_iff] at h; subst h
    unfold wpIf
    exact ⟨fun pins s σ H Q I ⟨ρ, M, Q0, st, rs, rm, q, ok⟩ => pts_nil.run pins s σ H Q I (ok true M H q rm Step.rfl')⟩
  | .cons m ms, X, sc, fs, B, W, xo, hot, c, es, h => by
    unfold chkIf at h
    split at h
    · unfold wpIf
      exact pts_one (snT m c _ h)
    · cases h
theorem snI : ∀ (m : MI) {X : Cx} {sc : Scope} {fs : Str → Bool} {B : Bs} {W : WD} {xo : XO} {hot : Bool} (c : Ct X G cs N sc fs B W xo hot) (tg e : Expr), chkI m ⟨G.toCf, cs, N, sc, fs, hot⟩ e = true → plainE e = true → tgFor m tg = true → PI X tg e (liftI G B (wpI cs W xo m))
  | .of m, X, sc, fs, B, W, xo, hot, c, tg, e, h, hp, ht => by
    unfold chkI at h
    unfold wpI
    exact li_of c.k (snE m c e h)
  | .rng ms, X, sc, fs, B, W, xo, hot, c, tg, e, h, hp, ht => by
    unfold chkI at h
    unfold wpI
    split at h
    · rename_i f p args pos
      simp only [Bool.and_eq_true, decide_eq_true_eq, Bool.or_eq_true, beq_iff_eq] at h
      obtain ⟨⟨⟨rfl, h1⟩, h2⟩, h3⟩ := h
      obtain ⟨a1, a2⟩ := fre_ok c.k h1
      have hA := snA ms c _ h2
      have hpl := chkA_plain h2
      rcases h3 with h3 | h3
      · match args, h3, hA, hpl with
        | [a], _, hA, hpl =>
          unfold plainEs at hpl
          simp only [List.all_cons, List.all_nil, Bool.and_true] at hpl
          exact li_rng1 c.k a1 a2 hA hpl
      · match args, h3, hA, hpl with
        | [a, b], _, hA, hpl =>
          unfold plainEs at hpl
          simp only [List.all_cons, List.all_nil, Bool.and_true, Bool.and_eq_true] at hpl
          exact li_rng2 c.k a1 a2 hA hpl.1 hpl.2
    · cases h
  | .enu m, X, sc, fs, B, W, xo, hot, c, tg, e, h, hp, ht => by
    unfold chkI at h
    unfold wpI
    cases tg <;> first | cases ht | skip
    split at h
    · simp only [Bool.and_eq_true, decide_eq_true_eq] at h
      obtain ⟨⟨⟨rfl, h1⟩, h2⟩, h3⟩ := h
      obtain ⟨a1, a2⟩ := fre_ok c.k h1
      exact li_enu c.k a1 a2 (snE m c _ h2) h3
    · cases h
  | .zip a b, X, sc, fs, B, W, xo, hot, c, tg, e, h, hp, ht => by
    unfold chkI at h
    cases h
end
end
end DL
set_option Elab.async false
set_option linter.all false
set_option maxRecDepth 100000
set_option maxHeartbeats 2000000
/-! DL14: what is checked is so: statements. -/
namespace DL
open PySem PySem.Spec PyProof.Rows L2

def noComp : Expr → Bool | .ListComp .. => false | .SetComp .. => false | .DictComp .. => false | _ => true
theorem noComp_sw {e : Expr} {t : Option Expr} {l : Nat} {env : Env} (h : noComp e = true) : swapsWith e t l env = pure false := by
  cases e <;> first | rfl | cases h
/-- is a comprehension on the line of a plain local name its value's owner? -/
def swB (sc : Scope) (y : Str) (py pos : Pos) (scope : Scope) : Bool := decide (sc.names.lookup y = some .local) && (py.line == pos.line) && !(scope.names.any fun (n, k) => n == y && (k == .local || k == .cell))
theorem sw_lc {elt : Expr} {gs : List Comprehension} {scope : Scope} {pos py : Pos} {y : Str} {l : Nat} {env : Env} {sc : Scope} (hs : env.scope = sc) (hk : sc.kind = .function) : swapsWith (.ListComp elt gs scope pos) (some (.Name y py)) l env = pure (swB sc y py pos scope) := by
  have hb : env.blockKind = .function := by unfold Env.blockKind; rw [hs, hk]; rfl
  unfold swapsWith swB Env.kindOf
  rw [hs]
  simp only [hb, Expr.pos]
  have e : (sc.names.lookup y == some NameKind.local) = decide (sc.names.lookup y = some .local) := by
    cases q : sc.names.lookup y with
    | none => rfl
    | some k => cases k <;> rfl
  rw [e]
  rfl
def swNone (sc : Scope) (tg e : Expr) : Bool := match tg, e with
  | .Tuple ts _ _, .Tuple vs _ _ => !(ts.length == 2 || ts.length == 3) || (vs.length != ts.length) || ts.any fun
    | .Name x _ => decide (sc.names.lookup x ≠ some .local)
    | _ => true
  | .Tuple .., _ => true
  | .Name .., _ => true
  | _, _ => false
theorem filterMap_lt {α β : Type} {f : α → Option β} : ∀ {l : List α}, (l.any fun a => (f a).isNone) = true → (l.filterMap f).length ≠ l.length
  | [], h => by cases h
  | a :: l, h => by
    rw [List.any_cons, Bool.or_eq_true] at h
    have le : (l.filterMap f).length ≤ l.length := List.length_filterMap_le ..
    cases e : f a with
    | none => rw [List.filterMap_cons_none e, List.length_cons]; omega
    | some b =>
      rw [e] at h
      have ih := filterMap_lt (h.resolve_left (by simp))
      rw [List.filterMap_cons_some e, List.length_cons, List.length_cons]; omega
theorem swNone_ok {tg e : Expr} {env : Env} {sc : Scope} (hs : env.scope = sc) (h : swNone sc tg e = true) : swappedStores [tg] e env = pure none := by
  unfold swNone at h
  split at h
  · rename_i ts k p vs k2 p2
    unfold swappedStores
    dsimp only
    rw [Bool.or_eq_true, Bool.or_eq_true] at h
    split
    · rfl
    · rename_i c1
      split
      · rfl
      · rw [Bool.or_eq_true, Bool.or_eq_true, not_or, not_or] at c1
        have h3 := (h.resolve_left fun z => z.elim c1.1.1 c1.1.2)
        refine if_pos ?_
        rw [Bool.or_eq_true]
        left
        rw [bne_iff_ne]
        apply filterMap_lt
        rw [List.any_eq_true] at h3 ⊢
        obtain ⟨t, m, ht⟩ := h3
        refine ⟨t, m, ?_⟩
        split at ht
        · rename_i x q
          rw [decide_eq_true_eq] at ht
          have : (env.kindOf x == some NameKind.local) = false := by
            unfold Env.kindOf
            rw [hs]
            cases e : sc.names.lookup x with
            | none => rfl
            | some k => rw [e] at ht; cases k <;> first | rfl | exact absurd rfl ht
          simp [this]
        · rename_i hne
          cases t <;> first | rfl | (exact absurd rfl (hne _ _))
  · rename_i ts k p hne
    unfold swappedStores
    cases e <;> first | rfl | (exact absurd rfl (hne _ _ _))
  · rfl
  · cases h
def two (a b : Expr) : Bool := plainE a && plainE b && !(foldedForSure 8 a && foldedForSure 8 b) && !(constantsAlone 8 a && constantsAlone 8 b)
theorem sw2_ok {x y : Str} {px py pt pp : Pos} {kt k2 : Nat} {a b : Expr} {env : Env} {sc : Scope} (hs : env.scope = sc) (hk : sc.kind = .function) (hx : sc.names.lookup x = some .local) (hy : sc.names.lookup y = some .local) (ne : x ≠ y) (hl : (py.line == px.line) = true) (h : two a b = true) :
    swappedStores [.Tuple [.Name x px, .Name y py] kt pt] (.Tuple [a, b] k2 pp) env = pure (some [x, y]) := by
  unfold two at h
  simp only [Bool.and_eq_true, Bool.not_eq_true'] at h
  obtain ⟨⟨⟨h1, h2⟩, h3⟩, h4⟩ := h
  have hb : env.blockKind = .function := by unfold Env.blockKind; rw [hs, hk]; rfl
  have kx : env.kindOf x = some .local := by unfold Env.kindOf; rw [hs]; exact hx
  have ky : env.kindOf y = some .local := by unfold Env.kindOf; rw [hs]; exact hy
  have ne2 : (y == x) = false := by simp [Ne.symm ne]
  unfold swappedStores
  simp only [List.length_cons, List.length_nil, hb, List.any_cons, List.any_nil, List.head?_cons, Option.map_some, Option.getD_some, Expr.pos, List.filterMap_cons, List.filterMap_nil, kx, ky, hl, beq_self_eq_true, Bool.and_self, if_true, List.all_cons, List.all_nil, Bool.and_true, h3, h4]
  have e1 : [x, y].eraseDups = [x, y] := by
    rw [List.eraseDups_cons]
    simp [List.filter_cons, ne2, List.eraseDups_cons]
  have e2 : (y == x) = false := ne2
  simp [e1]
  intro z
  exfalso
  rcases z with z | z
  · cases a <;> first | exact absurd (show false = true from z) Bool.false_ne_true | exact absurd (show false = true from h1) Bool.false_ne_true
  · cases b <;> first | exact absurd (show false = true from z) Bool.false_ne_true | exact absurd (show false = true from h2) Bool.false_ne_true
theorem sw3_ok {x y z : Str} {px py pz pt pp : Pos} {kt k2 : Nat} {a b c : Expr} {env : Env} {sc : Scope} (hs : env.scope = sc) (hk : sc.kind = .function) (hx : sc.names.lookup x = some .local) (hy : sc.names.lookup y = some .local) (hz : sc.names.lookup z = some .local) (ne : x ≠ y) (nz : x ≠ z) (nyz : y ≠ z) (hl : (py.line == px.line) = true) (hl2 : (pz.line == px.line) = true)
    (h1 : plainE a = true) (h2 : plainE b = true) (h0 : plainE c = true) (h3 : (foldedForSure 8 a && (foldedForSure 8 b && foldedForSure 8 c)) = false) (h4 : (constantsAlone 8 a && (constantsAlone 8 b && constantsAlone 8 c)) = false) :
    swappedStores [.Tuple [.Name x px, .Name y py, .Name z pz] kt pt] (.Tuple [a, b, c] k2 pp) env = pure (some [x, y, z]) := by
  have hb : env.blockKind = .function := by unfold Env.blockKind; rw [hs, hk]; rfl
  have kx : env.kindOf x = some .local := by unfold Env.kindOf; rw [hs]; exact hx
  have ky : env.kindOf y = some .local := by unfold Env.kindOf; rw [hs]; exact hy
  have kz : env.kindOf z = some .local := by unfold Env.kindOf; rw [hs]; exact hz
  have ne2 : (y == x) = false := by simp [Ne.symm ne]
  have ne3 : (z == x) = false := by simp [Ne.symm nz]
  have ne4 : (z == y) = false := by simp [Ne.symm nyz]
  unfold swappedStores
  simp only [List.length_cons, List.length_nil, hb, List.any_cons, List.any_nil, List.head?_cons, Option.map_some, Option.getD_some, Expr.pos, List.filterMap_cons, List.filterMap_nil, kx, ky, kz, hl, hl2, beq_self_eq_true, Bool.and_self, if_true, List.all_cons, List.all_nil, Bool.and_true, h3, h4]
  have e1 : [x, y, z].eraseDups = [x, y, z] := by
    rw [List.eraseDups_cons]
    simp [List.filter_cons, ne2, ne3, ne4, List.eraseDups_cons]
  simp [e1]
  intro z
  exfalso
  rcases z with z | z | z
  · cases a <;> first | exact absurd (show false = true from z) Bool.false_ne_true | exact absurd (show false = true from h1) Bool.false_ne_true
  · cases b <;> first | exact absurd (show false = true from z) Bool.false_ne_true | exact absurd (show false = true from h2) Bool.false_ne_true
  · cases c <;> first | exact absurd (show false = true from z) Bool.false_ne_true | exact absurd (show false = true from h0) Bool.false_ne_true

mutual
def chkS : MS → CE → Stmt → Bool
  | .set tg m, E, st => match st with
    | .Assign [t] e _ => (match t, e with
      | .Name y py, .ListComp elt' [⟨tg', it', ifs', 0⟩] scope p2 => if swB E.sc y py p2 scope = true then (match tg, m with
        | .name i, .lc elt tg2 it ifs own => decide (E.N[i]? = some y) && decide (E.sc.names.lookup y = some .local) && !E.hot && blkC E.N E.sc scope own && decide (scope.kind = .function) && (tg2.slots.all fun i => (own.map (·.2)).contains i) && chkI it E it' && (plainE it' && tgFor it tg') && chkTg tg2 (E.blk scope) tg' && chkIf ifs (E.blk scope) ifs' && chkE elt (E.blk scope) elt'
        | _, _ => false) else chkTg tg E t && chkE m E e
      | _, _ => noComp e && chkTg tg E t && chkE m E e && swNone E.sc t e && plainT t)
    | _ => false
  | .par2 i j a b, E, st => match st with
    | .Assign [.Tuple [.Name x px, .Name y py] _ _] (.Tuple [a', b'] _ _) _ => !E.hot && decide (E.N[i]? = some x) && decide (E.N[j]? = some y) && decide (i ≠ j) && decide (x ≠ y) && decide (E.sc.names.lookup x = some .local) && decide (E.sc.names.lookup y = some .local) && (py.line == px.line) && two a' b' && chkE a E a' && chkE b E b'
    | _ => false
  | .par3 i j l a b c, E, st => match st with
    | .Assign [.Tuple [.Name x px, .Name y py, .Name z pz] _ _] (.Tuple [a', b', c'] _ _) _ => !E.hot && decide (E.N[i]? = some x) && decide (E.N[j]? = some y) && decide (E.N[l]? = some z) && decide (i ≠ j) && decide (i ≠ l) && decide (j ≠ l) && decide (x ≠ y) && decide (x ≠ z) && decide (y ≠ z) && decide (E.sc.names.lookup x = some .local) && decide (E.sc.names.lookup y = some .local) && decide (E.sc.names.lookup z = some .local) && (py.line == px.line) && (pz.line == px.line) && plainE a' && plainE b' && plainE c' &&
      !(foldedForSure 8 a' && (foldedForSure 8 b' && foldedForSure 8 c')) && !(constantsAlone 8 a' && (constantsAlone 8 b' && constantsAlone 8 c')) && chkE a E a' && chkE b E b' && chkE c E c'
    | _ => false
  | .setI o i m, E, st => match st with
    | .Assign [.Subscript o' i' _] e _ => chkE m E e && chkE o E o' && chkE i E i' && plainE i'
    | _ => false
  | .setF c f o m, E, st => match st with
    | .Assign [.Attribute o' nm _] e _ => chkE m E e && chkE o E o' && match E.cf.ct[c]? with
      | some ci => decide (ci.2[f]? = some nm)
      | none => false
    | _ => false
  | .aug i op m, E, st => match st with
    | .AugAssign (.Name x _) op' e _ => decide (op' = op) && E.sto x i && chkE m E e
    | _ => false
  | .augF c f o op m, E, st => match st with
    | .AugAssign (.Attribute o' nm _) op' e _ => decide (op' = op) && chkE o E o' && chkE m E e && match E.cf.ct[c]? with
      | some ci => decide (ci.2[f]? = some nm)
      | none => false
    | _ => false
  | .ex m, E, st => match st with
    | .Expr e _ => noComp e && chkE m E e
    | _ => false
  | .ret m, E, st => match st with
    | .Return (some e) _ => chkE m E e
    | _ => false
  | .retN, _, st => match st with
    | .Return none _ => true
    | _ => false
  | .ifS c a b, E, st => match st with
    | .If t p q _ => chkT c E t && chkSs a E p && chkSs b E q
    | _ => false
  | .whl c b, E, st => match st with
    | .While t p [] _ => !E.hot && chkT c E t && chkSs b E p
    | _ => false
  | .forS tg it b, E, st => match st with
    | .For t i p [] _ => !E.hot && chkTg tg E t && chkI it E i && (plainE i && tgFor it t) && chkSs b E p
    | _ => false
  | .brk, _, st => match st with
    | .Break _ => true
    | _ => false
  | .cnt, _, st => match st with
    | .Continue _ => true
    | _ => false
  | .pas, _, st => match st with
    | .Pass _ => true
    | _ => false
  | .rse c ms, E, st => match st with
    | .Raise (some (.Call (.Name x _) args [] _)) none _ => !E.hot && E.glo x && match E.cf.et[c]? with
      | some ei => decide (ei.1 = x) && match ei.2, args, ms with
        | none, [], .nil => true
        | some _, [a], .cons m .nil => chkE m E a && plainE a
        | _, _, _ => false
      | none => false
    | _ => false
  | .tryS b hs, E, st => match st with
    | .Try body hds [] [] _ => !E.hot && !hds.isEmpty && chkSs b E body && chkHs hs E hds
    | _ => false
def chkSs : MSs → CE → List Stmt → Bool
  | .nil, _, sts => sts.isEmpty
  | .cons m ms, E, sts => match sts with
    | st :: r => chkS m E st && chkSs ms E r
    | [] => false
def chkHs : MHs → CE → List ExceptHandler → Bool
  | .nil, _, hds => hds.isEmpty
  | .cons c nm b r, E, hds => match hds with
    | .ExceptHandler (some (.Name x _)) n' suite _ :: hds => E.glo x && (match E.cf.et[c]? with
      | some ei => decide (ei.1 = x)
      | none => false) && (match nm, n' with
        | none, none => true
        | some i, some n => decide (E.N[i]? = some n) && decide (E.sc.names.lookup n = some .local)
        | _, _ => false) && !suite.isEmpty && chkSs b { E with hot := true } suite && chkHs r E hds
    | _ => false
end
end DL
set_option Elab.async false
set_option linter.all false
set_option maxRecDepth 100000
set_option maxHeartbeats 2000000
/-! DL15: statements: what is checked is so. -/
namespace DL
open PySem PySem.Spec PyProof.Rows L2

/-- for statements -/
structure CtS (X : Cx) (hot : Bool) : Prop where
  hp : hot = false → PassesOwn (model X.prog X.w) X.A X.env X.xe
  st : X.stack = X.env :: X.outer
  fr : X.env.frame = some X.env.locals
/-- the suite's term for a clause -/
def clsTs (G : Cfg) (cs : Pk) (nm : Option Nat) (b : MSs) : Addr → Value → Option Addr → TS := fun a cls d D σ H => ∃ x B', RepX G B'.H x cls d ∧ RepM G B'.H B'.M ∧ liftS G B' (wpSs cs (fun _ _ _ => False) (nm.map fun _ => (a, x)) b) D σ H
section
variable {G : Cfg} {cs : Pk} {N : List Str}
theorem OkE.named {G : Cfg} {H : Hp} {M : Mem} {D0 : EndsD} {D1 : Ends} (ok : OkE G H M D0 D1) (i : Nat) : OkE G H M { nx := fun ρ' M' => D0.nx (ρ'.set i none) M', rt := D0.rt, bk := fun ρ' M' => D0.bk (ρ'.set i none) M', ct := fun ρ' M' => D0.ct (ρ'.set i none) M' } (outE D1 (some i)) :=
  ⟨fun ρ M σ H q rs m s => ok.nx _ _ _ _ q (rs.unset i) m s, ok.rt, fun ρ M σ H q rs m s => ok.bk _ _ _ _ q (rs.unset i) m s, fun ρ M σ H q rs m s => ok.ct _ _ _ _ q (rs.unset i) m s⟩
mutual
theorem snS : ∀ (m : MS) {X : Cx} {sc : Scope} {fs : Str → Bool} {B : Bs} {W : WD} {xo : XO} {hot : Bool} (c : Ct X G cs N sc fs B W xo hot) (s : CtS X hot) (st : Stmt), chkS m ⟨G.toCf, cs, N, sc, fs, hot⟩ st = true → PS X st (liftS G B (wpS cs W xo m))
  | .set tg m, X, sc, fs, B, W, xo, hot, c, s, st, h => by
    unfold chkS at h
    unfold wpS
    split at h
    · rename_i st' t e pos
      split at h
      · rename_i t' e' y py elt' tg' it' ifs' scope p2
        have hsw := sw_lc (elt := elt') (gs := [⟨tg', it', ifs', 0⟩]) (pos := p2) (py := py) (y := y) (scope := scope) (l := pos.line) c.k.eS c.kind
        split at h
        · rename_i hs1
          rw [hs1] at hsw
          split at h
          · rename_i tg0 m0 i elt tg2 it ifs own
            simp only [Bool.and_eq_true, decide_eq_true_eq] at h
            obtain ⟨⟨⟨⟨⟨⟨⟨⟨⟨⟨g1, g2⟩, h1⟩, h2⟩, h3⟩, h4⟩, h5⟩, h6⟩, h7⟩, h8⟩, h9⟩ := h
            have hot0 : hot = false := by simpa using h1
            subst hot0
            rw [blkSc] at h7 h8 h9
            refine (ls_setLc c.ok g1 g2 hsw (snI it c tg' _ h5 h6.1 h6.2) (blkOk_by h2) (fun i hi => ?_) (fun s H cc cl fp => snTg (c.blk h3) tg2 _ h7) (fun s H cc cl fp => snIf ifs (c.blk h3) _ h8) (fun s H cc cl fp => snE elt (c.blk h3) _ h9) h6.1).weak fun D σ H z => ?_
            · exact List.contains_iff_mem.mp (List.all_eq_true.mp h4 i hi)
            · obtain ⟨ρ, M, D0, st, rs, rm, q, ok⟩ := z
              unfold wpE wpTg at q
              exact ⟨ρ, M, D0, st, rs, rm, q, ok⟩
          · cases h
        · rename_i hs1
          rw [Bool.not_eq_true] at hs1
          rw [hs1] at hsw
          rw [Bool.and_eq_true] at h
          exact ls_asg (snE m c _ h.2) (snTg c tg _ h.1) hsw (by rfl) rfl
      · simp only [Bool.and_eq_true] at h
        obtain ⟨⟨⟨⟨h1, h2⟩, h3⟩, h4⟩, h5⟩ := h
        exact ls_asg (snE m c _ h3) (snTg c tg _ h2) (by unfold swapsWithSole; exact noComp_sw h1) (swNone_ok c.k.eS h4) h5
    · cases h
  | .par2 i j a b, X, sc, fs, B, W, xo, hot, c, s, st, h => by
    unfold chkS at h
    unfold wpS
    split at h
    · simp only [Bool.and_eq_true, decide_eq_true_eq] at h
      obtain ⟨⟨⟨⟨⟨⟨⟨⟨⟨⟨h0, h1⟩, h2⟩, h3⟩, h4⟩, h5⟩, h6⟩, h7⟩, h8⟩, h9⟩, h10⟩ := h
      have h8' := h8
      unfold two at h8'
      simp only [Bool.and_eq_true] at h8'
      exact ls_par2 (calm_of c h0) h1 h2 h3 h5 h6 (snE a c _ h9) (snE b c _ h10) h8'.1.1.1 h8'.1.1.2 (sw2_ok c.k.eS c.kind h5 h6 h4 h7 h8)
    · cases h
  | .par3 i j l a b d, X, sc, fs, B, W, xo, hot, c, s, st, h => by
    unfold chkS at h
    unfold wpS
    split at h
    · simp only [Bool.and_eq_true, decide_eq_true_eq, Bool.not_eq_true'] at h
      obtain ⟨⟨⟨⟨⟨⟨⟨⟨⟨⟨⟨⟨⟨⟨⟨⟨⟨⟨⟨⟨⟨⟨h0, h1⟩, h2⟩, h3⟩, h4⟩, h5⟩, h6⟩, h7⟩, h8⟩, h9⟩, h10⟩, h11⟩, h12⟩, h13⟩, h14⟩, h15⟩, h16⟩, h17⟩, h18⟩, h19⟩, h20⟩, h21⟩, h22⟩ := h
      exact ls_par3 (calm_of c (by simp [h0])) h1 h2 h3 h4 h5 h6 h10 h11 h12 (snE a c _ h20) (snE b c _ h21) (snE d c _ h22) h15 h16 h17 (sw3_ok c.k.eS c.kind h10 h11 h12 h7 h8 h9 h13 h14 h15 h16 h17 h18 h19)
    · cases h
  | .setI o i m, X, sc, fs, B, W, xo, hot, c, s, st, h => by
    unfold chkS at h
    unfold wpS
    split at h
    · simp only [Bool.and_eq_true] at h
      exact ls_setI c.k (snE m c _ h.1.1.1) (snE o c _ h.1.1.2) (snE i c _ h.1.2) h.2
    · cases h
  | .setF k f o m, X, sc, fs, B, W, xo, hot, c, s, st, h => by
    unfold chkS at h
    unfold wpS
    split at h
    · simp only [Bool.and_eq_true] at h
      obtain ⟨⟨h1, h2⟩, h3⟩ := h
      split at h3
      · rename_i ci eq
        rw [decide_eq_true_eq] at h3
        exact ls_setF c.k eq h3 (snE m c _ h1) (snE o c _ h2)
      · cases h3
    · cases h
  | .aug i op m, X, sc, fs, B, W, xo, hot, c, s, st, h => by
    unfold chkS at h
    unfold wpS
    split at h
    · simp only [Bool.and_eq_true, decide_eq_true_eq] at h
      obtain ⟨⟨rfl, h1⟩, h2⟩ := h
      obtain ⟨a1, a2, a3⟩ := sto_ok c h1
      exact ls_aug c.k a1 a2 a3 (snE m c _ h2)
    · cases h
  | .augF k f o op m, X, sc, fs, B, W, xo, hot, c, s, st, h => by
    unfold chkS at h
    unfold wpS
    split at h
    · simp only [Bool.and_eq_true, decide_eq_true_eq] at h
      obtain ⟨⟨⟨rfl, h1⟩, h2⟩, h3⟩ := h
      split at h3
      · rename_i ci eq
        rw [decide_eq_true_eq] at h3
        exact ls_augF c.k eq h3 (snE m c _ h2) (snE o c _ h1)
      · cases h3
    · cases h
  | .ex m, X, sc, fs, B, W, xo, hot, c, s, st, h => by
    unfold chkS at h
    unfold wpS
    split at h
    · rw [Bool.and_eq_true] at h
      exact ls_ex (snE m c _ h.2) (noComp_sw h.1)
    · cases h
  | .ret m, X, sc, fs, B, W, xo, hot, c, s, st, h => by
    unfold chkS at h
    unfold wpS
    split at h
    · exact ls_ret (snE m c _ h)
    · cases h
  | .retN, X, sc, fs, B, W, xo, hot, c, s, st, h => by
    unfold chkS at h
    unfold wpS
    split at h
    · exact ls_retN
    · cases h
  | .ifS t a b, X, sc, fs, B, W, xo, hot, c, s, st, h => by
    unfold chkS at h
    unfold wpS
    split at h
    · simp only [Bool.and_eq_true] at h
      exact ls_if (snT t c _ h.1.1) (snSs a c s _ h.1.2) (snSs b c s _ h.2)
    · cases h
  | .whl t b, X, sc, fs, B, W, xo, hot, c, s, st, h => by
    unfold chkS at h
    unfold wpS
    split at h
    · simp only [Bool.and_eq_true] at h
      exact ls_whl (s.hp (by simpa using h.1.1)) (snT t c _ h.1.2) (snSs b c s _ h.2)
    · cases h
  | .forS tg it b, X, sc, fs, B, W, xo, hot, c, s, st, h => by
    unfold chkS at h
    unfold wpS
    split at h
    · simp only [Bool.and_eq_true] at h
      obtain ⟨⟨⟨⟨h1, h2⟩, h3⟩, h4⟩, h5⟩ := h
      exact ls_for (calm_of c h1) (s.hp (by simpa using h1)) (snI it c _ _ h3 h4.1 h4.2) (snTg c tg _ h2) (snSs b c s _ h5) h4.1
    · cases h
  | .brk, X, sc, fs, B, W, xo, hot, c, s, st, h => by
    unfold chkS at h
    unfold wpS
    split at h
    · exact ls_brk
    · cases h
  | .cnt, X, sc, fs, B, W, xo, hot, c, s, st, h => by
    unfold chkS at h
    unfold wpS
    split at h
    · exact ls_cnt
    · cases h
  | .pas, X, sc, fs, B, W, xo, hot, c, s, st, h => by
    unfold chkS at h
    unfold wpS
    split at h
    · exact ls_pas
    · cases h
  | .rse k ms, X, sc, fs, B, W, xo, hot, c, s, st, h => by
    unfold chkS at h
    unfold wpS
    split at h
    · rename_i x p args p2 pos
      simp only [Bool.and_eq_true] at h
      obtain ⟨⟨h1, h2⟩, h3⟩ := h
      obtain ⟨k1, k2⟩ := gl_ok (E := CE.mk G.toCf cs N sc fs hot) c.k h2
      split at h3
      · rename_i ei eq
        rw [Bool.and_eq_true, decide_eq_true_eq] at h3
        obtain ⟨rfl, h4⟩ := h3
        obtain ⟨C0, F⟩ := c.xs.ok k ei eq
        split at h4
        · rename_i e0
          unfold wpA
          exact ls_rse0 (calm_of c h1) F eq e0 c.tk k1 k2
        · rename_i f a m e0
          rw [Bool.and_eq_true] at h4
          unfold wpA wpA
          exact ls_rse1 (calm_of c h1) F rfl rfl rfl eq e0 c.tk k1 (c.room3 (by simpa using h1)) (snE m c _ h4.1) h4.2
        · cases h4
      · cases h3
    · cases h
  | .tryS b hs, X, sc, fs, B, W, xo, hot, c, s, st, h => by
    unfold chkS at h
    unfold wpS
    split at h
    · rename_i body hds pos
      simp only [Bool.and_eq_true] at h
      obtain ⟨⟨⟨h1, h2⟩, h3⟩, h4⟩ := h
      have hot0 : hot = false := by simpa using h1
      subst hot0
      cases hds with
      | nil => cases h2
      | cons h0 hds =>
        obtain ⟨l, hl, go⟩ := snHs hs c s _ h4
        have z := ps_tryG (X := X) (body := body) (pos := pos) (tb := fun Wx D σ H => ∃ (B' : Bs) (W0 : WD), (∀ c d σ H, liftW G B' W0 c d σ H → Wx c d σ H) ∧ liftS G B' (wpSs cs W0 none b) D σ H) s.st s.fr (by rw [c.k.eN]; exact c.k.nd) c.tk
          (fun Wx pn xe tk hp => ⟨fun pins ss σ H D I ⟨B', W0, hw, q⟩ => by
            have tk' : Takes (X.tr pn xe) (liftW G B' W0) := tk.imp hw
            have c' : Ct (X.tr pn xe) G cs N sc fs B' W0 none false :=
              ⟨⟨c.k.eK, c.k.eM, c.k.eP, c.k.ew, c.k.eN, c.k.nd, c.k.eS, c.k.hu, c.k.fb, c.k.nc, c.k.gl⟩, c.kind, c.calm, c.fn, tk', c.cok, c.room, c.room3, c.xs, trivial⟩
            exact (snSs b c' ⟨fun _ => hp, s.st, s.fr⟩ body h3).run pins ss σ H D I q⟩) hl
        refine z.weak fun D σ H w => ?_
        obtain ⟨ρ, M, D0, st, rs, rm, q, ok⟩ := w
        exact ⟨⟨H, M⟩, wpHs cs W hs D0, fun cls d σ' H' w' => go D0 D H M st ok cls d σ' H' w', ρ, M, D0, Step.rfl', rs, rm, q, ok⟩
    · cases h
theorem snSs : ∀ (ms : MSs) {X : Cx} {sc : Scope} {fs : Str → Bool} {B : Bs} {W : WD} {xo : XO} {hot : Bool} (c : Ct X G cs N sc fs B W xo hot) (s : CtS X hot) (sts : List Stmt), chkSs ms ⟨G.toCf, cs, N, sc, fs, hot⟩ sts = true → PSs X sts (liftS G B (wpSs cs W xo ms))
  | .nil, X, sc, fs, B, W, xo, hot, c, s, sts, h => by
    unfold chkSs at h
    rw [List.isEmpty_iff] at h; subst h
    unfold wpSs
    exact lss_nil
  | .cons m ms, X, sc, fs, B, W, xo, hot, c, s, sts, h => by
    unfold chkSs at h
    cases sts with
    | nil => cases h
    | cons st r =>
      rw [Bool.and_eq_true] at h
      unfold wpSs
      exact lss_cons (snS m c s st h.1) (snSs ms c s r h.2)
theorem snHs : ∀ (hs : MHs) {X : Cx} {sc : Scope} {fs : Str → Bool} {B : Bs} {W : WD} {xo : XO} (c : Ct X G cs N sc fs B W xo false) (s : CtS X false) (hds : List ExceptHandler), chkHs hs ⟨G.toCf, cs, N, sc, fs, false⟩ hds = true →
    ∃ l : List Hd, HdsG X hds l ∧ ∀ (D0 : EndsD) (D1 : Ends) (H : Hp) (M : Mem), Step B.H B.M H M → OkE G H M D0 D1 → ∀ cls d σ' H', liftW G ⟨H, M⟩ (wpHs cs W hs D0) cls d σ' H' → wGen X.K (liftW G B W) D1 l cls d σ' H'
  | .nil, X, sc, fs, B, W, xo, c, s, hds, h => by
    unfold chkHs at h
    rw [List.isEmpty_iff] at h; subst h
    refine ⟨[], .nil, fun D0 D1 H M st ok cls d σ' H' w => ?_⟩
    obtain ⟨x, ρ, M', st', rx, rs, rm, q⟩ := w
    unfold wpHs at q
    exact ⟨x, ρ, M', st.trans st', rx, rs, rm, q⟩
  | .cons k nm b r, X, sc, fs, B, W, xo, c, s, hds, h => by
    unfold chkHs at h
    split at h
    · rename_i x np n' suite pos hds
      simp only [Bool.and_eq_true] at h
      obtain ⟨⟨⟨⟨⟨h1, h2⟩, h3⟩, h4⟩, h5⟩, h6⟩ := h
      obtain ⟨k1, k2⟩ := gl_ok (E := CE.mk G.toCf cs N sc fs false) c.k h1
      split at h2
      · rename_i ei eq
        rw [decide_eq_true_eq] at h2; subst h2
        obtain ⟨C0, F⟩ := c.xs.ok k ei eq
        obtain ⟨l, hl, go⟩ := snHs r c s hds h6
        have hnames : Names X ei.1 (.ref C0) := ⟨k1, k2, .inl (by rw [c.k.eM]; exact F.mg)⟩
        cases suite with
        | nil => cases h4
        | cons b0 suite =>
          have hsu : ∀ (a : Addr) (oe : Obj) (cls : Value) (d : Option Addr) (pn : List (Addr × Obj)), Zc cls d oe → (∃ vs, oe.data = .fields vs) → PSs (X.suite a ((a, oe) :: pn)) (b0 :: suite) (clsTs G cs nm b a cls d) := fun a oe cls d pn hz hfd => ⟨fun pins ss σ H D I ⟨x, B', rx, bm, q⟩ => by
            have hxo : XoOk (X.suite a ((a, oe) :: pn)) G B' (nm.map fun _ => (a, x)) := by
              cases nm with
              | none => trivial
              | some i => exact ⟨X, oe, pn, cls, d, rfl, hz, hfd, rx, bm⟩
            exact (snSs b (c.suite (D := Unit) hxo) ⟨(fun z => nomatch z), s.st, s.fr⟩ _ h5).run pins ss σ H D I q⟩
          refine ⟨(.ref C0, nm, clsTs G cs nm b) :: l, ?_, fun D0 D1 H M st ok cls d σ' H' w => ?_⟩
          · split at h3
            · exact .one hnames hsu hl
            · rename_i i n
              simp only [Bool.and_eq_true, decide_eq_true_eq] at h3
              exact .as hnames (by rw [c.k.eN]; exact h3.1) (by unfold Env.kindOf; rw [c.k.eS]; exact h3.2) hsu hl
            · cases h3
          · obtain ⟨x, ρ, M', st', rx, rs, rm, q⟩ := w
            obtain ⟨ej, CE, ej1, ej2, rfl, ej3⟩ := id rx
            refine ⟨cs.sub x.c k, ?_, fun hb a ha => ?_, fun hb => ?_⟩
            · rw [c.k.eK]
              exact c.xs.exm x.c k ej ei CE C0 ej1 eq ej2 F.mg
            · unfold wpHs at q
              rw [if_pos hb] at q
              have q := q a
              refine ⟨x, ⟨H', M'⟩, rx, rm, ?_⟩
              cases nm with
              | none => exact ⟨ρ, M', D0, Step.rfl', rs, rm, q, ok.on st'⟩
              | some i => exact ⟨ρ.set i (some (.obj a)), M', _, Step.rfl', rs.set i (RepD.obj.mpr rfl), rm, q, (ok.on st').named i⟩
            · unfold wpHs at q
              rw [if_neg (by rw [hb]; decide)] at q
              exact go D0 D1 H M st ok _ d σ' H' ⟨x, ρ, M', st', rx, rs, rm, q⟩
      · cases h2
    · cases h
end
end
end DL
set_option Elab.async false
set_option linter.all false
set_option maxRecDepth 100000
set_option maxHeartbeats 2000000
/-! DL16: defs; what the top leaves. -/
namespace DL
open PySem PySem.Spec PyProof.Rows L2

def startD (n : Nat) (ds : List D) : En := ds.map some ++ List.replicate (n - ds.length) none
theorem start_rep {K : PySem.W.Frag} {H : Hp} {N : List Str} {ds : List D} {vs : List V} (r : RepL K H ds vs) (hl : ds.length ≤ N.length) : RepS K H (startD N.length ds) (L2.start N vs) := by
  have l := r.length
  unfold startD L2.start
  refine ⟨by simp; omega, fun i d e => ?_⟩
  by_cases h : i < ds.length
  · rw [List.getElem?_append_left (by simpa using h), List.getElem?_map] at e
    cases q : ds[i]? with
    | none => rw [q] at e; cases e
    | some d' =>
      rw [q] at e
      cases e
      obtain ⟨v, ev, rv⟩ := r.get q
      refine ⟨v, ?_, rv⟩
      rw [List.getElem?_append_left (by simpa [← l] using h), List.getElem?_map, ev]
      rfl
  · rw [List.getElem?_append_right (by simpa using h), List.getElem?_replicate] at e
    split at e <;> cases e
/-- where a def's body ends -/
def endsF (Q0 : DK) : EndsD := { nx := fun _ M => ∃ M', Sub M' M ∧ Q0 .non M', rt := fun d M => ∃ M', Sub M' M ∧ Q0 d M' }
def wF (E0 : Ex → Mem → Prop) : WD := fun x _ M => ∃ M', Sub M' M ∧ E0 x M'
/-- what the top leaves -/
structure TopOk (P : Program) (w : World) (base : Heap) (G : Cfg) (sub : Nat → Nat → Bool) (fd : Nat → Option Str) : Prop where
  fb : ∀ x ∈ G.fb, G.mg x = none
  nc : ∀ ci ∈ G.ct, ClsOk G ci
  gl : ∀ p ∈ G.gl, ∃ u v, G.mg p.1 = some u ∧ RelV v u ∧ ∀ H, RepD G.K H p.2 v
  pw : P = G.P ∧ w = G.w
  xs : ∀ l, XsOk P w base G ⟨l, sub, fd⟩
theorem def_ok {P : Program} {w : World} {base : Heap} {G : Cfg} {sub : Nat → Nat → Bool} {fdx : Nat → Option Str} {l : List Cal} {x qual : Str} {params : Arguments} {body : List Stmt} {scope : Scope} {f : Addr} {fd : FuncData} {N ps : List Str} {k : Nat} {sp : SpD} {ms : MSs}
    (T : TopOk P w base G sub fdx) (F : FunD G.K x qual params body scope [] [] f fd) (S : FnScope N ps scope) (hc : chkSs ms ⟨G.toCf, ⟨l, sub, fdx⟩, N, scope, fun _ => true, false⟩ body = true)
    (hcs : ∀ c ∈ l, c.Ok P w G base) (hlev : ∀ c ∈ l, c.need ≤ k) (h3 : 3 ≤ k)
    (hsp : ∀ ds M Q0 E0, sp ds M Q0 E0 → ds.length = ps.length ∧ wpSs ⟨l, sub, fdx⟩ (wF E0) none ms (endsF Q0) (startD N.length ds) M) :
    FnOk P w G.K G.mg base (CX P w) (k + 1) f fd ps (liftSp G ps.length sp) := by
  have hpl : ps.length ≤ N.length := by have := congrArg List.length S.pre; rw [List.length_take] at this; omega
  refine F.ok S (fun vs H Q E h => ?_) (fun cdv A outer s H vs Q E hr h => ?_)
  · obtain ⟨ds, M, Q0, E0, e, r, m, q, _⟩ := h
    rw [← r.length, e]
  · obtain ⟨ds, M, Q0, E0, e, r, m, q, okQ, okX⟩ := h
    obtain ⟨_, hw⟩ := hsp ds M Q0 E0 q
    have tk0 := takes_of (X := cxOf (CX P w) P w G.K G.mg base N qual scope f cdv A outer s H E) (E := E) rfl rfl rfl rfl
    have tk : Takes (cxOf (CX P w) P w G.K G.mg base N qual scope f cdv A outer s H E) (liftW G ⟨H, M⟩ (wF E0)) := tk0.imp fun cls d σ H' ⟨x, ρ, M', st, rx, rs, rm, M'', sb, ee⟩ => okX x M'' H' cls d ee rx (rm.sub sb) (st.sub sb)
    have c : Ct (cxOf (CX P w) P w G.K G.mg base N qual scope f cdv A outer s H E) G ⟨l, sub, fdx⟩ N scope (fun _ => true) ⟨H, M⟩ (wF E0) none false :=
      ⟨⟨rfl, rfl, T.pw.1, T.pw.2, rfl, S.nd, rfl, hr.units, T.fb, T.nc, T.gl⟩, S.kind, fun _ => rfl, fun _ _ => rfl, tk, hcs, fun _ c hc => hr.mono (hlev c hc), fun _ => hr.mono h3, T.xs l, trivial⟩
    refine ⟨_, snSs ms c ⟨fun _ => passes_of rfl, rfl, rfl⟩ body hc, ?_⟩
    refine ⟨startD N.length ds, M, endsF Q0, Step.rfl', start_rep r (by rw [e]; exact hpl), m, hw, ⟨fun ρ' M' σ' H' ⟨M'', sb, q2⟩ rs2 m2 s2 => okQ .non M'' H' .non q2 (RepD.non.mpr rfl) (m2.sub sb) (s2.sub sb), fun d M' H' v ⟨M'', sb, q2⟩ r2 m2 s2 => okQ d M'' H' v q2 r2 (m2.sub sb) (s2.sub sb), fun _ _ _ _ z => z.elim, fun _ _ _ _ z => z.elim⟩⟩

/-! ### computable facts of the top -/
def glB (K : PySem.W.Frag) (p : Str × D) : Bool := match p.2 with
  | .int i => He.Fa.ok K (.int p.1 i)
  | .str l => He.Fa.ok K (.str p.1 (S l))
  | _ => false
theorem glB_ok {K : PySem.W.Frag} {h : Heap} {mg : Str → Option Value} (X : K.In h) (Gn : h.Ns mainGlobals mg) {p : Str × D} (e : glB K p = true) : ∃ u v, mg p.1 = some u ∧ RelV v u ∧ ∀ H, RepD K H p.2 v := by
  unfold glB at e
  split at e
  · rename_i i q
    obtain ⟨t, ht⟩ := He.int_ok X Gn e
    exact ⟨_, .int i, ht, ⟨t, rfl⟩, fun H => by rw [q]; exact RepD.int.mpr rfl⟩
  · rename_i l q
    obtain ⟨t, ht⟩ := He.str_ok X Gn e
    exact ⟨_, .str (S l), ht, ⟨t, rfl⟩, fun H => by rw [q]; exact RepD.str.mpr rfl⟩
  · cases e
def clB (K : PySem.W.Frag) (ci : Str × List Str) : Bool := He.Fa.ok K (.glo ci.1) && He.Fa.ok K (.cls ci.1) && (ci.2.all fun f => He.Fa.ok K (.noat ci.1 f)) && decide ci.2.Nodup && decide (ci.2.length ≤ 900)
theorem clB_ok {G : Cfg} {h : Heap} (X : G.K.In h) (Gn : h.Ns mainGlobals G.mg) {ci : Str × List Str} (e : clB G.K ci = true) : ClsOk G ci := by
  unfold clB at e
  simp only [Bool.and_eq_true, decide_eq_true_eq] at e
  obtain ⟨⟨⟨⟨h1, h2⟩, h3⟩, h4⟩, h5⟩ := e
  exact ⟨h4, h5, _, He.glo_ok X Gn h1, He.cls_ok h2, fun f hf => He.noat_ok (List.all_eq_true.mp h3 f hf)⟩
/-- an exception class without fields -/
def exB0 (K : PySem.W.Frag) (x : Str) : Bool := He.Fa.ok K (.glo x) && He.Fa.ok K (.exc x)
def icB (K : PySem.W.Frag) (D : Addr) : Bool := decide (PySem.W.findIn K (.ref D) "__getattribute__" = some (some (.builtin "BaseException.__getattribute__"))) && decide (PySem.W.findIn K (.ref D) "__getattr__" = some none) && decide (PySem.W.subIn K (.ref D) (.type "BaseException") = some true) && PySem.W.hasDictIn K D &&
  decide (PySem.W.findIn K (.ref D) "__class__" = some (some (.builtin "object.__class__"))) && decide (PySem.W.specialIn K (.builtin "object.__class__") "__get__" = some (some (.builtin "getset_descriptor.__get__"))) && decide (PySem.W.takesIn K (.builtin "object.__class__") = some true) && decide (PySem.W.mroIn K D (.type "object") = some true)
theorem icB_ok {K : PySem.W.Frag} {D : Addr} (e : icB K D = true) : ExcC K D := by
  unfold icB at e
  simp only [Bool.and_eq_true, decide_eq_true_eq] at e
  obtain ⟨⟨⟨⟨⟨⟨⟨h1, h2⟩, h3⟩, h4⟩, h5⟩, h6⟩, h7⟩, h8⟩ := e
  exact ⟨h1, h2, h3, h4, h5, h6, h7, h8⟩
def et0 (cf : Cf) : List Nat := (List.range cf.et.length).filter fun c => match cf.et[c]? with | some ei => ei.2.isNone | none => false
def etB (cf : Cf) (sub : Nat → Nat → Bool) (K : PySem.W.Frag) : Bool :=
  (List.range cf.et.length).all fun c => match cf.et[c]? with
    | some ei => He.Fa.ok K (.glo ei.1) && (match ei.2 with
        | none => He.Fa.ok K (.exc ei.1) && icB K (He.ga K ei.1) && decide (PySem.W.kitOne K (.ref (He.ga K ei.1)) (.type "ValueError") = some true)
        | some f => xfB K (He.ga K ei.1) && decide (PySem.W.findIn K (.ref (He.ga K ei.1)) f = some none)) &&
      (List.range cf.et.length).all fun c' => match cf.et[c']? with
        | some ei' => decide (PySem.W.exmOne K (.ref (He.ga K ei.1)) (.ref (He.ga K ei'.1)) = some (sub c c')) && (match ei.2 with
          | none => decide (PySem.W.kitOne K (.ref (He.ga K ei.1)) (.ref (He.ga K ei'.1)) = some (sub c c'))
          | some _ => true)
        | none => true
    | none => true
def topB (cf : Cf) (sub : Nat → Nat → Bool) (K : PySem.W.Frag) : Bool := (cf.fb.all fun x => He.Fa.ok K (.free x)) && (cf.ct.all fun ci => clB K ci) && (cf.gl.all fun p => glB K p) && etB cf sub K
def fdOf (cf : Cf) (c : Nat) : Option Str := match cf.et[c]? with
  | some ei => ei.2
  | none => none
theorem topB_ok {P : Program} {w : World} {base : Heap} {G : Cfg} {sub : Nat → Nat → Bool} (X : G.K.In base) (Gn : base.Ns mainGlobals G.mg) (e : topB G.toCf sub G.K = true) (pw : P = G.P ∧ w = G.w)
    (wi : ∀ ei ∈ G.et, ∀ f, ei.2 = some f → ExOk P w base G ei (He.ga G.K ei.1)) : TopOk P w base G sub (fdOf G.toCf) := by
  unfold topB at e
  simp only [Bool.and_eq_true] at e
  obtain ⟨⟨⟨e1, e2⟩, e3⟩, e4⟩ := e
  have at_ : ∀ {c : Nat} {ei : Str × Option Str}, G.et[c]? = some ei → He.Fa.ok G.K (.glo ei.1) = true ∧ ((match ei.2 with
        | none => He.Fa.ok G.K (.exc ei.1) && icB G.K (He.ga G.K ei.1) && decide (PySem.W.kitOne G.K (.ref (He.ga G.K ei.1)) (.type "ValueError") = some true)
        | some f => xfB G.K (He.ga G.K ei.1) && decide (PySem.W.findIn G.K (.ref (He.ga G.K ei.1)) f = some none)) = true) ∧
      ∀ (c' : Nat) ei', G.et[c']? = some ei' → PySem.W.exmOne G.K (.ref (He.ga G.K ei.1)) (.ref (He.ga G.K ei'.1)) = some (sub c c') ∧ (ei.2 = none → PySem.W.kitOne G.K (.ref (He.ga G.K ei.1)) (.ref (He.ga G.K ei'.1)) = some (sub c c')) := fun {c ei} h => by
    have lt : c < G.et.length := (List.getElem?_eq_some_iff.mp h).1
    unfold etB at e4
    have z := List.all_eq_true.mp e4 c (List.mem_range.mpr lt)
    rw [h] at z
    simp only [Bool.and_eq_true] at z
    obtain ⟨⟨z1, z2⟩, z3⟩ := z
    refine ⟨z1, z2, fun c' ei' h' => ?_⟩
    have lt' : c' < G.et.length := (List.getElem?_eq_some_iff.mp h').1
    have y := List.all_eq_true.mp z3 c' (List.mem_range.mpr lt')
    rw [h'] at y
    simp only [Bool.and_eq_true, decide_eq_true_eq] at y
    refine ⟨y.1, fun h0 => ?_⟩
    have y2 := y.2
    rw [h0] at y2
    exact of_decide_eq_true y2
  have ga_of : ∀ {c : Nat} {ei : Str × Option Str} {C : Addr}, G.et[c]? = some ei → G.mg ei.1 = some (.ref C) → C = He.ga G.K ei.1 := fun {c ei C} h hm => by
    have := He.glo_ok X Gn (at_ h).1
    rw [hm] at this
    exact Value.ref.inj (Option.some.inj this)
  refine ⟨fun x hx => He.free_ok X Gn (List.all_eq_true.mp e1 x hx), fun ci hci => clB_ok X Gn (List.all_eq_true.mp e2 ci hci), fun p hp => glB_ok X Gn (List.all_eq_true.mp e3 p hp), pw, fun l => ⟨fun c ei h => ?_, fun c ei h => by show fdOf _ c = _; unfold fdOf; rw [h], fun c c' ei ei' C C' h h' m m' => ?_, fun c c' ei ei' C C' h h' m m' h0 => ?_, fun c ei C h m h0 => ?_, fun c ei C f h m h0 => ?_⟩⟩
  · obtain ⟨z1, z2, z3⟩ := at_ h
    cases h0 : ei.2 with
    | none =>
      rw [h0] at z2
      simp only [Bool.and_eq_true] at z2
      obtain ⟨k1, k2, k3, k4⟩ := He.exc_ok z2.1.1
      exact ⟨_, He.glo_ok X Gn z1, k2, k3, k4, fun _ => k1, fun f hf => by rw [h0] at hf; cases hf⟩
    | some f => exact ⟨_, wi ei (List.mem_of_getElem? h) f h0⟩
  · rw [ga_of h m, ga_of h' m']; exact ((at_ h).2.2 c' ei' h').1
  · rw [ga_of h m, ga_of h' m']; exact ((at_ h).2.2 c' ei' h').2 h0
  · have z2 := (at_ h).2.1
    rw [h0] at z2
    simp only [Bool.and_eq_true, decide_eq_true_eq] at z2
    rw [ga_of h m]
    exact ⟨z2.2, icB_ok z2.1.2⟩
  · have z2 := (at_ h).2.1
    rw [h0] at z2
    simp only [Bool.and_eq_true, decide_eq_true_eq] at z2
    rw [ga_of h m]
    exact ⟨xfB_ok z2.1, z2.2⟩
/-! ### the Hook: defs, facts, a Bool -/
def obsEG (n : Nat) (fa : List He.Fa) (fn : List He.DefD) (ex : PySem.W.Frag → Bool) (g : Addr → Option Obj) : He.AlD × Bool := (He.obsDG n fa fn g, ex (He.frG g (He.asD g n)))
def hookE (n : Nat) (fa : List He.Fa) (fn : List He.DefD) (ex : PySem.W.Frag → Bool) : PySem.W.Hook where
  α := He.AlD × Bool
  obs := fun s => obsEG n fa fn ex s.heap.get?
  val := fun _ => (He.valD fn, true)
  says := fun _ h => ∃ K : PySem.W.Frag, K.In h ∧ He.SaysD fa fn K ∧ ex K = true
  of := fun _ _ e => ⟨_, He.frG_in, congrArg (fun z : He.AlD × Bool => z.1) e, congrArg (fun z : He.AlD × Bool => z.2) e⟩
  keeps := fun _ _ _ ⟨K, hK, c⟩ k => ⟨K, PySem.W.Frag.In.keeps hK k, c⟩
theorem obsEG_eq {n : Nat} {fa : List He.Fa} {fn : List He.DefD} {ex : PySem.W.Frag → Bool} {g : Addr → Option Obj} {s : Shared} (h : ∀ a, g a = s.heap.get? a) : obsEG n fa fn ex g = (hookE n fa fn ex).obs s := by
  have e : g = s.heap.get? := funext h
  rw [e] <;> rfl
end DL
set_option Elab.async false
set_option linter.all false
set_option maxRecDepth 100000
set_option maxHeartbeats 2000000
/-! DL17: the defs of a law, by their places in the head's lists. -/
namespace DL
open PySem PySem.Spec PyProof.Rows L2

structure LW (fa : List He.Fa) (fn : List He.DefD) (cf : Cf) (sub : Nat → Nat → Bool) (P : Program) (w : World) (base : Heap) (G : Cfg) : Prop where
  says : He.SaysD fa fn G.K
  kin : G.K.In base
  ns : base.Ns mainGlobals G.mg
  cfe : G.toCf = cf
  top : TopOk P w base G sub (fdOf cf)
/-- how the arguments are bound -/
abbrev BindOk (d : He.DefD) (ps : List Str) : Prop := ∀ (kV doc pm : Value) (an : Option Addr) (cdv ct : Value) (us : List Value), us.length = ps.length → bindArgs (PySem.W.fnOf d.name d.qual d.params d.body d.scope .none kV doc pm an cdv ct) ⟨us, []⟩ = pure (ps.zip us)
section
variable {fa : List He.Fa} {fn : List He.DefD} {cf : Cf} {sub : Nat → Nat → Bool} {P : Program} {w : World} {base : Heap} {G : Cfg}
theorem says_mem {K : PySem.W.Frag} (c : He.SaysD fa fn K) {f : He.Fa} (h : f ∈ fa) : f.ok K = true := by
  obtain ⟨i, hi, e⟩ := List.mem_iff_getElem.mp h
  exact c.fact i (f := f) (by rw [List.getElem?_eq_getElem hi, e])
/-- what is asked of a def -/
structure DefOk (cf : Cf) (sub : Nat → Nat → Bool) (d : He.DefD) (N ps : List Str) (k : Nat) (sp : SpD) (ms : MSs) (l : List Cal) : Prop where
  dfl : d.dfl = [] ∧ d.kwd = []
  sc : FnScope N ps d.scope
  bd : BindOk d ps
  chk : chkSs ms ⟨cf, ⟨l, sub, fdOf cf⟩, N, d.scope, fun _ => true, false⟩ d.body = true
  lev : ∀ c ∈ l, c.need ≤ k
  three : 3 ≤ k
  sp : ∀ ds M Q0 E0, sp ds M Q0 E0 → ds.length = ps.length ∧ wpSs ⟨l, sub, fdOf cf⟩ (wF E0) none ms (endsF Q0) (startD N.length ds) M
theorem LW.fnOk (L : LW fa fn cf sub P w base G) {d : He.DefD} {N ps : List Str} {k : Nat} {sp : SpD} {ms : MSs} {l : List Cal} (i : Nat) (hd : fn[i]? = some d) (D : DefOk cf sub d N ps k sp ms l) (hcs : ∀ c ∈ l, c.Ok P w G base) :
    ∃ fd, PySem.W.keepIn G.K (.ref (He.fAd G.K d.at_)) = true ∧ Binds G.K fd ps [] ∧ FnOk P w G.K G.mg base (CX P w) (k + 1) (He.fAd G.K d.at_) fd ps (liftSp G ps.length sp) := by
  obtain ⟨fd, F⟩ := L.says.def_ i hd
  have e1 : d.dvs G.K = [] := by unfold He.DefD.dvs; rw [D.dfl.1]; rfl
  have e2 : d.kws G.K = [] := by unfold He.DefD.kws; rw [D.dfl.2]; rfl
  rw [e1, e2] at F
  have cfe := L.cfe
  subst cfe
  exact ⟨fd, F.kp, F.bindsN D.bd, def_ok L.top F D.sc D.chk hcs D.lev D.three D.sp⟩
theorem LW.fn_ (L : LW fa fn cf sub P w base G) {d : He.DefD} {N ps : List Str} {k : Nat} {sp : SpD} {ms : MSs} {l : List Cal} {nm : Str} (i : Nat) (hd : fn[i]? = some d) (hat : d.at_ = (nm, none)) (hg : He.Fa.glo nm ∈ fa) (D : DefOk cf sub d N ps k sp ms l) (hcs : ∀ c ∈ l, c.Ok P w G base) :
    (Cal.mk .fn nm ps.length (k + 1) sp).Ok P w G base := by
  obtain ⟨fd, kp, b, F⟩ := L.fnOk i hd D hcs
  refine ⟨_, fd, ps, ?_, kp, b, rfl, F⟩
  rw [hat]
  exact He.glo_ok L.kin L.ns (says_mem L.says hg)
theorem LW.me (L : LW fa fn cf sub P w base G) {d : He.DefD} {N ps : List Str} {k : Nat} {sp : SpD} {ms : MSs} {l : List Cal} {cn nm : Str} {fs : List Str} {kc : Nat} (i : Nat) (hd : fn[i]? = some d) (hat : d.at_ = (cn, some nm)) (hct : cf.ct[kc]? = some (cn, fs)) (hnf : nm ∉ fs) (hm : He.Fa.meth cn nm ∈ fa) (hg : He.Fa.glo cn ∈ fa) (hc : He.Fa.cls cn ∈ fa) (D : DefOk cf sub d N ps k sp ms l) (hcs : ∀ c ∈ l, c.Ok P w G base) :
    (Cal.mk (.me kc) nm ps.length (k + 1) sp).Ok P w G base := by
  obtain ⟨fd, kp, b, F⟩ := L.fnOk i hd D hcs
  refine ⟨(cn, fs), He.ga G.K cn, _, fd, ps, by rw [L.cfe]; exact hct, He.glo_ok L.kin L.ns (says_mem L.says hg), He.cls_ok (says_mem L.says hc), ?_, hnf, b, rfl, F⟩
  rw [hat]
  exact He.meth_ok (says_mem L.says hm)
theorem LW.mk_ (L : LW fa fn cf sub P w base G) {d : He.DefD} {N ps : List Str} {k : Nat} {sp : SpD} {ms : MSs} {l : List Cal} {cn : Str} {fs : List Str} {kc : Nat} (i : Nat) (hd : fn[i]? = some d) (hat : d.at_ = (cn, some ("__init__" : Str))) (hct : cf.ct[kc]? = some (cn, fs)) (hm : He.Fa.mkr cn ∈ fa) (hg : He.Fa.glo cn ∈ fa) (D : DefOk cf sub d N ps k sp ms l) (hcs : ∀ c ∈ l, c.Ok P w G base) :
    (Cal.mk (.mk kc) cn ps.length (k + 1) sp).Ok P w G base := by
  obtain ⟨fd, kp, b, F⟩ := L.fnOk i hd D hcs
  refine ⟨(cn, fs), He.ga G.K cn, _, fd, ps, by rw [L.cfe]; exact hct, rfl, He.glo_ok L.kin L.ns (says_mem L.says hg), ?_, b, rfl, F⟩
  rw [hat]
  exact He.mkr_ok (says_mem L.says hm)
end
end DL
set_option Elab.async false
set_option linter.all false
set_option maxRecDepth 100000
set_option maxHeartbeats 1000000
/-! DL18: reasoning about what terms ask. -/
namespace DL
open PySem PySem.Spec PyProof.Rows L2

section
variable {cs : Pk} {W : WD} {xo : XO} {D0 : EndsD} {ρ : En} {M : Mem}
theorem wp_nil (h : D0.nx ρ M) : wpSs cs W xo .nil D0 ρ M := by unfold wpSs; exact h
theorem wp_cons {s : MS} {r : MSs} (h : wpS cs W xo s { D0 with nx := fun ρ' M' => wpSs cs W xo r D0 ρ' M' } ρ M) : wpSs cs W xo (.cons s r) D0 ρ M := by
  unfold wpSs; exact ⟨_, h, fun _ M' h' => ⟨M', Sub.rfl', h'⟩⟩
theorem wp_last {s : MS} (h : wpS cs W xo s D0 ρ M) : wpSs cs W xo (.cons s .nil) D0 ρ M := by
  unfold wpSs; exact ⟨D0.nx, h, fun _ M' h' => ⟨M', Sub.rfl', wp_nil h'⟩⟩
/-- with a word between -/
theorem wp_cut {s : MS} {r : MSs} (Mid : En → Mem → Prop) (h : wpS cs W xo s { D0 with nx := Mid } ρ M) (k : ∀ ρ' M', Mid ρ' M' → ∃ M'', Sub M'' M' ∧ wpSs cs W xo r D0 ρ' M'') : wpSs cs W xo (.cons s r) D0 ρ M := by
  unfold wpSs; exact ⟨Mid, h, k⟩
theorem rt_of {Q0 : DK} {d : D} {M M' : Mem} (h : Q0 d M') (s : Sub M' M) : (endsF Q0).rt d M := ⟨M', s, h⟩
end
/-! ### classes of data -/
def isI : D → Bool | .int _ => true | _ => false
def isB : D → Bool | .bl _ => true | _ => false
def isS : D → Bool | .str _ => true | _ => false
def isTp : D → Bool | .tup _ => true | _ => false
def isL (M : Mem) : D → Bool | .obj a => (match M a with | some (.lst _) => true | some (.ro _) => true | _ => false) | _ => false
/-- known data -/
def kn (M : Mem) (d : D) : Bool := (tyD M d).isSome
theorem kb1 : kitB "NoneType" "int" = some false ∧ kitB "bool" "int" = some true ∧ kitB "int" "int" = some true ∧ kitB "str" "int" = some false ∧ kitB "tuple" "int" = some false ∧ kitB "list" "int" = some false ∧ kitB "dict" "int" = some false := by decide +kernel
theorem kb2 : kitB "NoneType" "bool" = some false ∧ kitB "bool" "bool" = some true ∧ kitB "int" "bool" = some false ∧ kitB "str" "bool" = some false ∧ kitB "tuple" "bool" = some false ∧ kitB "list" "bool" = some false ∧ kitB "dict" "bool" = some false := by decide +kernel
theorem kb3 : kitB "NoneType" "str" = some false ∧ kitB "bool" "str" = some false ∧ kitB "int" "str" = some false ∧ kitB "str" "str" = some true ∧ kitB "tuple" "str" = some false ∧ kitB "list" "str" = some false ∧ kitB "dict" "str" = some false := by decide +kernel
theorem kb4 : kitB "NoneType" "tuple" = some false ∧ kitB "bool" "tuple" = some false ∧ kitB "int" "tuple" = some false ∧ kitB "str" "tuple" = some false ∧ kitB "tuple" "tuple" = some true ∧ kitB "list" "tuple" = some false ∧ kitB "dict" "tuple" = some false := by decide +kernel
theorem kb5 : kitB "NoneType" "list" = some false ∧ kitB "bool" "list" = some false ∧ kitB "int" "list" = some false ∧ kitB "str" "list" = some false ∧ kitB "tuple" "list" = some false ∧ kitB "list" "list" = some true ∧ kitB "dict" "list" = some false := by decide +kernel
/-- what isinstance tells -/
def isX (T : String) (M : Mem) (d : D) : Bool := if T = "int" then isI d || isB d else if T = "bool" then isB d else if T = "str" then isS d else if T = "tuple" then isTp d else isL M d
theorem kit_of_ty {M : Mem} {d : D} {U : String} (h : tyD M d = some U) : kitB U "int" = some (isI d || isB d) ∧ kitB U "bool" = some (isB d) ∧ kitB U "str" = some (isS d) ∧ kitB U "tuple" = some (isTp d) ∧ kitB U "list" = some (isL M d) := by
  obtain ⟨a1, a2, a3, a4, a5, a6, a7⟩ := kb1
  obtain ⟨b1, b2, b3, b4, b5, b6, b7⟩ := kb2
  obtain ⟨c1, c2, c3, c4, c5, c6, c7⟩ := kb3
  obtain ⟨d1, d2, d3, d4, d5, d6, d7⟩ := kb4
  obtain ⟨e1, e2, e3, e4, e5, e6, e7⟩ := kb5
  cases d with
  | non => cases h; exact ⟨a1, b1, c1, d1, e1⟩
  | bl b => cases h; exact ⟨a2, b2, c2, d2, e2⟩
  | int b => cases h; exact ⟨a3, b3, c3, d3, e3⟩
  | str b => cases h; exact ⟨a4, b4, c4, d4, e4⟩
  | tup b => cases h; exact ⟨a5, b5, c5, d5, e5⟩
  | obj a =>
    have h' : (match M a with | some (.lst _) => some "list" | some (.ro _) => some "list" | some (.dct _) => some "dict" | _ => none) = some U := h
    unfold isL
    dsimp only
    split at h'
    · rename_i q; cases h'; rw [q]; exact ⟨a6, b6, c6, d6, e6⟩
    · rename_i q; cases h'; rw [q]; exact ⟨a6, b6, c6, d6, e6⟩
    · rename_i q; cases h'; rw [q]; exact ⟨a7, b7, c7, d7, e7⟩
    · cases h'
section
variable {M : Mem} {Q : DK} {d : D}
theorem isi_kn {T : String} {r : Bool} (hk : kn M d = true) (h : ∀ U, tyD M d = some U → kitB U T = some r) : vIsi T d M Q = Q (.bl r) M := by
  unfold kn at hk
  obtain ⟨U, e⟩ := Option.isSome_iff_exists.mp hk
  unfold vIsi
  rw [e]
  dsimp only
  rw [h U e]
theorem isi_int (hk : kn M d = true) : vIsi "int" d M Q = Q (.bl (isI d || isB d)) M := isi_kn hk fun U e => (kit_of_ty e).1
theorem isi_bool (hk : kn M d = true) : vIsi "bool" d M Q = Q (.bl (isB d)) M := isi_kn hk fun U e => (kit_of_ty e).2.1
theorem isi_str (hk : kn M d = true) : vIsi "str" d M Q = Q (.bl (isS d)) M := isi_kn hk fun U e => (kit_of_ty e).2.2.1
theorem isi_tup (hk : kn M d = true) : vIsi "tuple" d M Q = Q (.bl (isTp d)) M := isi_kn hk fun U e => (kit_of_ty e).2.2.2.1
theorem isi_list (hk : kn M d = true) : vIsi "list" d M Q = Q (.bl (isL M d)) M := isi_kn hk fun U e => (kit_of_ty e).2.2.2.2
theorem isit_tl (hk : kn M d = true) : vIsit ["tuple", "list"] d M Q = Q (.bl (isTp d || isL M d)) M := by
  unfold kn at hk
  obtain ⟨U, e⟩ := Option.isSome_iff_exists.mp hk
  obtain ⟨_, _, _, h4, h5⟩ := kit_of_ty e
  unfold vIsit
  rw [e]
  dsimp only
  unfold kitsB
  rw [h4]
  cases isTp d with
  | true => rfl
  | false =>
    dsimp only
    unfold kitsB
    rw [h5]
    cases isL M d with
    | true => rfl
    | false => dsimp only; unfold kitsB; rfl
end
/-! ### known things -/
inductive Kw (M : Mem) : D → Prop
  | non : Kw M .non
  | bl (b : Bool) : Kw M (.bl b)
  | int (i : Int) : Kw M (.int i)
  | str (l : List Nat) (h : l.length ≤ 1048576) : Kw M (.str l)
  | tup (xs : List D) (h : xs.length ≤ 1048576) (k : ∀ x ∈ xs, Kw M x) : Kw M (.tup xs)
  | obj (a : Addr) (h : kn M (.obj a) = true) : Kw M (.obj a)
theorem Kw.kn {M : Mem} {d : D} (h : Kw M d) : kn M d = true := by
  cases h with
  | obj a h => exact h
  | _ => rfl
theorem Kw.tup' {M : Mem} {xs : List D} (h : Kw M (.tup xs)) : xs.length ≤ 1048576 ∧ ∀ x ∈ xs, Kw M x := by
  cases h with
  | tup _ h k => exact ⟨h, k⟩
theorem kn_up {M M' : Mem} (h : ∀ a, DL.kn M (.obj a) = true → DL.kn M' (.obj a) = true) {d : D} (k : DL.kn M d = true) : DL.kn M' d = true := by
  cases d with
  | obj a => exact h a k
  | _ => rfl
theorem Kw.up {M M' : Mem} (h : ∀ a, DL.kn M (.obj a) = true → DL.kn M' (.obj a) = true) : ∀ {d : D}, Kw M d → Kw M' d := by
  intro d k
  induction k with
  | non => exact .non
  | bl b => exact .bl b
  | int i => exact .int i
  | str l h => exact .str l h
  | tup xs h k ih => exact .tup xs h ih
  | obj a k => exact .obj a (h a k)
theorem kn_sub {M M' : Mem} (s : Sub M M') (a : Addr) (h : DL.kn M (.obj a) = true) : DL.kn M' (.obj a) = true := by
  have h' : (match M a with | some (.lst _) => some "list" | some (.ro _) => some "list" | some (.dct _) => some "dict" | _ => (none : Option String)).isSome = true := h
  show (match M' a with | some (.lst _) => some "list" | some (.ro _) => some "list" | some (.dct _) => some "dict" | _ => (none : Option String)).isSome = true
  cases e : M a with
  | none => rw [e] at h'; simp at h'
  | some o => rw [s a o e]; rw [e] at h'; exact h'
theorem Kw.sub {M M' : Mem} (s : Sub M M') {d : D} (k : Kw M d) : Kw M' d := k.up (kn_sub s)
theorem rdL_new {M : Mem} {p : Addr} {xs : List D} : rdL (mup M p (.lst xs)) p = some xs := by unfold rdL; rw [mup_same]
theorem rdL_sub {M M' : Mem} (s : Sub M M') {a : Addr} {xs : List D} (h : rdL M a = some xs) : rdL M' a = some xs := by
  unfold rdL at h ⊢
  cases e : M a with
  | none => rw [e] at h; cases h
  | some o => rw [s a o e]; rw [e] at h; exact h
theorem mapM_asBl {f : D → Bool} (xs : List D) : (xs.map fun x => D.bl (f x)).mapM asBl = some (xs.map f) := by
  have := asBl_map (xs.map f)
  rw [List.map_map] at this
  exact this
/-! ### comprehensions -/
theorem lc_pure {tg : D → En → (En → Prop) → Prop} {ifs : TDT} {elt : TD} {ρ : En} {ok : Mem → Prop} {M : Mem} (f : D → D) (g : D → Bool) (hok : ok M) : ∀ (xs acc : List D) (Q : List D → Mem → Prop), acc.length + xs.length ≤ big →
    (∀ d ∈ xs, ∀ (K1 : D → Mem → Prop) (K2 : Mem → Prop), (g d = true → K1 (f d) M) → (g d = false → K2 M) → tg d ρ fun ρ' => ifs ρ' M fun b M2 => if b = true then elt ρ' M2 K1 else K2 M2) →
    Q (acc ++ (xs.filter g).map f) M → lcGo tg ifs elt ρ ok xs acc M Q
  | [], acc, Q, hl, h, q => by
    unfold lcGo
    simp at q
    exact ⟨hok, q⟩
  | d :: xs, acc, Q, hl, h, q => by
    unfold lcGo
    refine ⟨hok, h d (List.mem_cons_self ..) (fun v M3 => acc.length < big ∧ lcGo tg ifs elt ρ ok xs (acc ++ [v]) M3 Q) (fun M2 => lcGo tg ifs elt ρ ok xs acc M2 Q) (fun hg => ?_) fun hg => ?_⟩
    · rw [List.length_cons] at hl
      refine ⟨by omega, lc_pure f g hok xs (acc ++ [f d]) Q (by simp; omega) (fun d' hd' => h d' (List.mem_cons_of_mem _ hd')) ?_⟩
      rw [List.filter_cons_of_pos hg] at q
      simpa using q
    · rw [List.length_cons] at hl
      refine lc_pure f g hok xs acc Q (by omega) (fun d' hd' => h d' (List.mem_cons_of_mem _ hd')) ?_
      rw [List.filter_cons_of_neg (by simp [hg])] at q
      exact q
theorem lc_inv {tg : D → En → (En → Prop) → Prop} {ifs : TDT} {elt : TD} {ρ : En} {ok : Mem → Prop} {xs : List D} {Q : List D → Mem → Prop} {M : Mem} (P : Nat → List D → Mem → Prop) (hok : ∀ i acc M, P i acc M → ok M)
    (hs : ∀ i d acc M (Kn : List D → Mem → Prop), xs[i]? = some d → P i acc M → (∀ acc' M', P (i + 1) acc' M' → Kn acc' M') → tg d ρ fun ρ' => ifs ρ' M fun b M2 => if b = true then elt ρ' M2 fun v M3 => acc.length < big ∧ Kn (acc ++ [v]) M3 else Kn acc M2)
    (h0 : P 0 [] M) (hq : ∀ acc M', P xs.length acc M' → Q acc M') : lcGo tg ifs elt ρ ok xs [] M Q := by
  have key : ∀ (ys : List D) (i : Nat) (acc : List D) (M : Mem), xs.drop i = ys → i + ys.length = xs.length → P i acc M → lcGo tg ifs elt ρ ok ys acc M Q := by
    intro ys
    induction ys with
    | nil =>
      intro i acc M e hl p
      unfold lcGo
      rw [List.length_nil, Nat.add_zero] at hl
      subst hl
      exact ⟨hok _ _ _ p, hq _ _ p⟩
    | cons d ys ih =>
      intro i acc M e hl p
      unfold lcGo
      have hd : xs[i]? = some d := by
        have := congrArg (fun l => l[0]?) e
        simpa using this
      have he : xs.drop (i + 1) = ys := by
        have := congrArg List.tail e
        simpa using this
      refine ⟨hok _ _ _ p, hs i d acc M (fun acc' M' => lcGo tg ifs elt ρ ok ys acc' M' Q) hd p fun acc' M' p' => ?_⟩
      exact ih (i + 1) acc' M' he (by rw [List.length_cons] at hl; omega) p'
  exact key xs 0 [] M (by simp) (by simp) h0
/-- a comprehension without a test, whose parts change nothing -/
theorem lc_map {tg : D → En → (En → Prop) → Prop} {elt : TD} {ρ : En} {ok : Mem → Prop} {M : Mem} (f : D → D) (hok : ok M) (xs : List D) (Q : List D → Mem → Prop) (hl : xs.length ≤ big)
    (h : ∀ d ∈ xs, ∀ (K1 : D → Mem → Prop), K1 (f d) M → tg d ρ fun ρ' => elt ρ' M K1) (q : Q (xs.map f) M) : lcGo tg (fun _ M Q => Q true M) elt ρ ok xs [] M Q := by
  refine lc_pure f (fun _ => true) hok xs [] Q (by simpa using hl) (fun d hd K1 K2 h1 _ => ?_) (by rw [List.filter_eq_self.mpr fun _ _ => rfl]; simpa using q)
  simpa using h d hd K1 (h1 rfl)
/-! ### indices -/
theorem atI_nat {α : Type} {xs : List α} {k : Nat} {d : α} (h : xs[k]? = some d) : atI xs (k : Int) = some d := by
  have hk := (List.getElem?_eq_some_iff.mp h).1
  unfold atI ixN
  have h1 : (0 : Int) ≤ (k : Int) := by omega
  have h2 : (k : Int) < (xs.length : Int) := by omega
  have h3 := (List.getElem?_eq_some_iff.mp h).2
  simp [h1, h2, h, hk, h3]
theorem vGet_tup {M : Mem} {Q : DK} {xs : List D} {k : Nat} {d : D} (h : xs[k]? = some d) : vGet (.tup xs) (.int (k : Int)) M Q = Q d M := by
  unfold vGet vIdx isDct
  simp only [Bool.false_eq_true, if_false, atI_nat h]
theorem vGet_0 {M : Mem} {Q : DK} {d : D} {xs : List D} : vGet (.tup (d :: xs)) (.int 0) M Q = Q d M := vGet_tup (k := 0) rfl
theorem vGet_1 {M : Mem} {Q : DK} {c d : D} {xs : List D} : vGet (.tup (c :: d :: xs)) (.int 1) M Q = Q d M := vGet_tup (k := 1) rfl
theorem vGet_lst {M : Mem} {Q : DK} {a : Addr} {xs : List D} {k : Nat} {d : D} (e : rdL M a = some xs) (h : xs[k]? = some d) : vGet (.obj a) (.int (k : Int)) M Q = Q d M := by
  have nd : isDct M (.obj a) = false := by
    unfold isDct rdL at *
    dsimp only
    split at e <;> first | cases e | skip
    all_goals (rename_i q; rw [q])
  unfold vGet vIdx
  simp only [nd, Bool.false_eq_true, if_false, e, atI_nat h]
theorem vGet_str {M : Mem} {Q : DK} {l : List Nat} {k : Nat} {c : Nat} (hl : l.length ≤ big) (h : l[k]? = some c) : vGet (.str l) (.int (k : Int)) M Q = Q (.str [c]) M := by
  unfold vGet vIdx isDct
  simp only [Bool.false_eq_true, if_false, atI_nat h]
  exact propext ⟨fun h => h.2, fun h => ⟨hl, h⟩⟩
end DL
set_option Elab.async false
set_option linter.all false
set_option maxRecDepth 100000
set_option maxHeartbeats 1000000
/-! DL19: what is compared as data; memory that grows beside one address; reckoning. -/
namespace DL
open PySem PySem.Spec PyProof.Rows L2

/-! ### data without objects -/
def plD : Nat → D → Bool
  | 0, _ => false
  | n + 1, d => match d with
    | .tup xs => xs.all (plD n)
    | .str l => l.all fun c => decide (c < 0x110000)
    | .obj _ => false
    | _ => true
mutual
def toPd : D → PyData
  | .non => .none
  | .bl b => .bool b
  | .int i => .int i
  | .str l => .str (S l)
  | .tup xs => .tuple (toPds xs)
  | .obj _ => .none
def toPds : List D → List PyData
  | [] => []
  | x :: xs => toPd x :: toPds xs
end
def eqX (d e : D) : Bool := PyData.eqv (toPd d) (toPd e)
def eqXs (d e : List D) : Bool := PyData.eqvAll (toPds d) (toPds e)
theorem canLay_str {l : List Nat} (h : (l.all fun c => decide (c < 0x110000)) = true) : (PyData.str (S l)).canLay0 = true := by
  simp only [PyData.canLay0, S, PyData.strOk]
  first | exact h | simpa using h
theorem toPs_pl {n : Nat} {M : Mem} (ih : ∀ d, plD n d = true → toP n M d = some (toPd d) ∧ (toPd d).canLay0 = true) : ∀ xs : List D, xs.all (plD n) = true → xs.mapM (toP n M) = some (toPds xs) ∧ PyData.canLayAll0 (toPds xs) = true
  | [], _ => ⟨rfl, rfl⟩
  | x :: xs, h => by
    rw [List.all_cons, Bool.and_eq_true] at h
    obtain ⟨a1, a2⟩ := ih x h.1
    obtain ⟨b1, b2⟩ := toPs_pl ih xs h.2
    refine ⟨by rw [List.mapM_cons, a1, b1]; rfl, ?_⟩
    simp only [toPds, PyData.canLayAll0, a2, b2, Bool.and_self]
theorem toP_pl : ∀ (n : Nat) (M : Mem) (d : D), plD n d = true → toP n M d = some (toPd d) ∧ (toPd d).canLay0 = true
  | 0, _, _, h => nomatch h
  | n + 1, M, d, h => by
    cases d with
    | tup xs =>
      have h' : xs.all (plD n) = true := h
      obtain ⟨a, b⟩ := toPs_pl (toP_pl n M) xs h'
      refine ⟨by simp only [toP, a, toPd, Option.map_some], by simp only [toPd, PyData.canLay0, b]⟩
    | str l => exact ⟨rfl, canLay_str h⟩
    | obj a => cases h
    | _ => exact ⟨rfl, by simp [toPd, PyData.canLay0]⟩
theorem str_beq (a b : List Nat) : (S a == S b) = decide (a = b) := by
  by_cases h : a = b
  · subst h; simp
  · simp only [h, decide_false]
    exact beq_eq_false_iff_ne.mpr fun e => h (S_inj e)
/-- a == b, a != b of data -/
theorem vEq_pl {neg : Bool} {d e : D} {M : Mem} (h : plD 59 d = true) (h' : plD 59 e = true) : vEqK neg d e M = fun Q => Q (.bl (if neg then !eqX d e else eqX d e)) M := by
  funext Q
  have up : ∀ (n : Nat) (d : D), plD n d = true → plD (n + 1) d = true := by
    intro n
    induction n with
    | zero => intro d h; cases h
    | succ n ih =>
      intro d h
      cases d with
      | tup xs =>
        have h' : xs.all (plD n) = true := h
        show xs.all (plD (n + 1)) = true
        rw [List.all_eq_true] at h' ⊢
        exact fun x hx => ih x (h' x hx)
      | _ => exact h
  obtain ⟨a1, a2⟩ := toP_pl 60 M d (up _ _ h)
  obtain ⟨b1, b2⟩ := toP_pl 60 M e (up _ _ h')
  unfold vEqK
  split
  · rename_i i j
    have : decide (i = j) = (i == j) := by by_cases h : i = j <;> simp [h]
    simp only [eqX, toPd, PyData.eqv, this]
  · simp only [eqX, toPd, PyData.eqv, str_beq]
  · rename_i a b
    have : decide (a = b) = (a == b) := by cases a <;> cases b <;> rfl
    simp only [eqX, toPd, PyData.eqv, this]
  · cases h
  · rw [a1, b1]
    simp only [a2, b2, true_and, eqX]
/-- an empty tuple -/
theorem vEq_nil {neg : Bool} {xs : List D} {M : Mem} (h : plD 59 (.tup xs) = true) : vEqK neg (.tup xs) (.tup []) M = fun Q => Q (.bl (if neg then !xs.isEmpty else xs.isEmpty)) M := by
  rw [vEq_pl h rfl]
  have : eqX (.tup xs) (.tup []) = xs.isEmpty := by cases xs <;> simp [eqX, toPd, toPds, PyData.eqv, PyData.eqvAll]
  rw [this]
theorem toPs_ints (n : Nat) (M : Mem) : ∀ is : List Int, (is.map D.int).mapM (toP (n + 1) M) = some (is.map PyData.int) ∧ PyData.canLayAll0 (is.map PyData.int) = true
  | [] => ⟨rfl, rfl⟩
  | i :: is => by
    obtain ⟨b1, b2⟩ := toPs_ints n M is
    refine ⟨by rw [List.map_cons, List.mapM_cons, b1]; rfl, ?_⟩
    simp only [List.map_cons, PyData.canLayAll0, PyData.canLay0, b2, Bool.and_self]
/-- a list of ints and an empty one -/
theorem vEq_lnil {neg : Bool} {is : List Int} {M : Mem} {a b : Addr} (h : rdL M a = some (is.map D.int)) (h' : rdL M b = some []) : vEqK neg (.obj a) (.obj b) M = fun Q => Q (.bl (if neg then !is.isEmpty else is.isEmpty)) M := by
  funext Q
  have t1 : toP 60 M (.obj a) = some (.list (is.map PyData.int)) := by
    have e : toP 60 M (.obj a) = (match rdL M a with | some xs => (xs.mapM (toP 59 M)).map .list | none => none) := rfl
    rw [e, h]
    simp only [(toPs_ints 58 M is).1, Option.map_some]
  have t2 : toP 60 M (.obj b) = some (.list []) := by
    have e : toP 60 M (.obj b) = (match rdL M b with | some xs => (xs.mapM (toP 59 M)).map .list | none => none) := rfl
    rw [e, h']; rfl
  unfold vEqK
  simp only [t1, t2, PyData.canLay0, (toPs_ints 58 M is).2, PyData.canLayAll0, true_and]
  have : PyData.eqv (.list (is.map PyData.int)) (.list []) = is.isEmpty := by cases is <;> simp [PyData.eqv, PyData.eqvAll]
  rw [this]

/-! ### memory that grows beside one address -/
def UpX (p : Addr) (M N : Mem) : Prop := ∀ a o, a ≠ p → M a = some o → N a = some o
theorem UpX.rfl' {p : Addr} {M : Mem} : UpX p M M := fun _ _ _ h => h
theorem UpX.trans {p : Addr} {M N O : Mem} (h : UpX p M N) (h' : UpX p N O) : UpX p M O := fun a o ne e => h' a o ne (h a o ne e)
theorem UpX.sub {p : Addr} {M N : Mem} (h : Sub M N) : UpX p M N := fun a o _ e => h a o e
theorem UpX.on {p : Addr} {M N O : Mem} (h : UpX p M N) (h' : Sub N O) : UpX p M O := h.trans (.sub h')
theorem UpX.put {p q : Addr} {M N : Mem} {o : MO} (h : UpX p M N) (e : M q = none) : UpX p M (mup N q o) := fun a u ne e' => by
  have : a ≠ q := fun z => by rw [z, e] at e'; cases e'
  rw [mup_ne this]; exact h a u ne e'
theorem UpX.own {p : Addr} {M N : Mem} {o : MO} (h : UpX p M N) : UpX p M (mup N p o) := fun a u ne e' => by
  rw [mup_ne ne]; exact h a u ne e'
theorem UpX.new {p q : Addr} {M N : Mem} {o : MO} (h : UpX p M N) (e : N q = none) : UpX p M (mup N q o) := h.trans (.sub (Sub.new e))
theorem UpX.rdL {p a : Addr} {M N : Mem} {xs : List D} (h : UpX p M N) (ne : a ≠ p) (e : DL.rdL M a = some xs) : DL.rdL N a = some xs := by
  unfold DL.rdL at e ⊢
  cases z : M a with
  | none => rw [z] at e; cases e
  | some o => rw [h a o ne z]; rw [z] at e; exact e
theorem mup_none {M : Mem} {a p : Addr} {o : MO} (h : mup M a o p = none) : p ≠ a ∧ M p = none := by
  have : p ≠ a := fun z => by rw [z, mup_same] at h; cases h
  rw [mup_ne this] at h
  exact ⟨this, h⟩
theorem rdL_of {M : Mem} {a : Addr} {xs : List D} (h : M a = some (.lst xs)) : rdL M a = some xs := by unfold rdL; rw [h]
theorem rdL_up {M : Mem} {a q : Addr} {o : MO} (h : a ≠ q) : rdL (mup M q o) a = rdL M a := by unfold rdL; rw [mup_ne h]
theorem mup_mup {M : Mem} {p : Addr} {a b : MO} : mup (mup M p a) p b = mup M p b := by
  funext x; unfold mup; split <;> rfl
theorem mup_self {M : Mem} {p : Addr} {o : MO} (h : M p = some o) : mup M p o = M := by
  funext a
  unfold mup
  split
  · rename_i e; rw [e, h]
  · rfl
theorem ne_none {M : Mem} {a q : Addr} {o : MO} (h : M a = some o) (e : M q = none) : a ≠ q := fun z => by rw [z, e] at h; cases h
theorem rdL_some {M : Mem} {a : Addr} {xs : List D} (h : rdL M a = some xs) : M a ≠ none := fun z => by unfold rdL at h; rw [z] at h; cases h
theorem Upd_none {M : Mem} {a q : Addr} {xs : List D} (h : rdL M a = some xs) (e : M q = none) : a ≠ q := fun z => rdL_some h (z ▸ e)
theorem kn_UpX {p : Addr} {M N : Mem} (h : UpX p M N) (hp : kn N (.obj p) = true) (a : Addr) (k : kn M (.obj a) = true) : kn N (.obj a) = true := by
  by_cases z : a = p
  · rw [z]; exact hp
  · have k' : (match M a with | some (.lst _) => some "list" | some (.ro _) => some "list" | some (.dct _) => some "dict" | _ => (none : Option String)).isSome = true := k
    show (match N a with | some (.lst _) => some "list" | some (.ro _) => some "list" | some (.dct _) => some "dict" | _ => (none : Option String)).isSome = true
    cases e : M a with
    | none => rw [e] at k'; simp at k'
    | some o => rw [h a o z e]; rw [e] at k'; exact k'
theorem Kw.upx {p : Addr} {M N : Mem} (h : UpX p M N) (hp : DL.kn N (.obj p) = true) {d : D} (k : Kw M d) : Kw N d := k.up (kn_UpX h hp)
/-! ### ints -/
theorem binS_sub {M : Mem} {i j : Int} {Q : DK} : binS .Sub (.int i) (.int j) M Q = Q (.int (i - j)) M := by simp [binS, vSub, vI]
theorem natAbs_bits {i : Int} {k : Nat} (h : i.natAbs < 2 ^ k) : Builtin.Int.intBits i ≤ k := intBits_le_iff.mpr h
theorem vMul_ok {M : Mem} {Q : DK} {i j : Int} (h : i.natAbs < 2 ^ 100) (h' : j.natAbs < 2 ^ 100) : vMul (.int i) (.int j) M Q = Q (.int (i * j)) M := by
  have := natAbs_bits h
  have := natAbs_bits h'
  simp only [vMul, eq_iff_iff, and_iff_right_iff_imp]
  omega
theorem mulE {M : Mem} {i j : Int} (h : i.natAbs < 2 ^ 100) (h' : j.natAbs < 2 ^ 100) : binS .Mult (.int i) (.int j) M = fun Q => Q (.int (i * j)) M := by
  funext Q; exact vMul_ok h h'
theorem modE {M : Mem} {i j : Int} (h : 0 < j) : binS .Mod (.int i) (.int j) M = fun Q => Q (.int (i % j)) M := by
  funext Q; simp [binS, vMod, vI, h]
theorem divE {M : Mem} {i j : Int} (h : 0 < j) (h' : j < 2 ^ 60) : binS .FloorDiv (.int i) (.int j) M = fun Q => Q (.int (i / j)) M := by
  funext Q
  have : j.natAbs.log2 < 9000 := by
    have : j.natAbs < 2 ^ 60 := by omega
    have := Nat.log2_lt (n := j.natAbs) (k := 60) (by omega)
    omega
  simp [binS, vDiv, vI, h, this]
theorem addE {M : Mem} {i j : Int} : binS .Add (.int i) (.int j) M = fun Q => Q (.int (i + j)) M := by funext Q; rfl
theorem subE {M : Mem} {i j : Int} : binS .Sub (.int i) (.int j) M = fun Q => Q (.int (i - j)) M := by funext Q; exact binS_sub
theorem intE {M : Mem} {i : Int} : biS .int [.int i] M = fun Q => Q (.int i) M := by funext Q; rfl
theorem wp_at {cs : Pk} {W : WD} {xo : XO} {s : MS} {D0 : EndsD} {ρ : En} {M N : Mem} (e : N = M) (h : DL.wpS cs W xo s D0 ρ N) : DL.wpS cs W xo s D0 ρ M := e ▸ h
theorem take_snoc {α : Type} {xs : List α} {i : Nat} {d : α} (h : xs[i]? = some d) : xs.take (i + 1) = xs.take i ++ [d] := by
  rw [List.take_succ, h]; rfl
theorem none_eq {α : Type} {xs : List α} {i : Nat} (h : xs[i]? = none) (hi : i ≤ xs.length) : i = xs.length := by
  have := List.getElem?_eq_none_iff.mp h
  omega
theorem some_lt {α : Type} {xs : List α} {i : Nat} {d : α} (h : xs[i]? = some d) : i < xs.length := (List.getElem?_eq_some_iff.mp h).1
end DL
namespace DL
open PySem PySem.Spec PyProof.Rows L2
theorem UpX.none {p q : Addr} {M N : Mem} (h : UpX p M N) (hp : N p ≠ none) (e : N q = Option.none) : M q = Option.none := by
  cases z : M q with
  | none => rfl
  | some o =>
    have : q ≠ p := fun w => hp (w ▸ e)
    rw [h q o this z] at e; cases e
theorem range_get {n i : Nat} : ((List.range n).map fun k => D.int ((k : Nat) : Int))[i]? = if i < n then some (D.int (i : Nat)) else none := by
  rw [List.getElem?_map]
  by_cases h : i < n
  · rw [List.getElem?_range h, if_pos h]; rfl
  · rw [if_neg h, List.getElem?_eq_none (by simpa using h)]; rfl
theorem range_get_z {i : Nat} {j : Int} : ((List.range j.toNat).map fun k => D.int ((k : Nat) : Int))[i]? = if (i : Int) < j then some (D.int (i : Nat)) else none := by
  rw [range_get]
  by_cases h : (i : Int) < j
  · rw [if_pos h, if_pos (by omega)]
  · rw [if_neg h, if_neg (by omega)]
end DL
namespace DL
open PySem PySem.Spec PyProof.Rows L2
section
variable {M : Mem}
theorem slcT {xs : List D} {lo hi : Option Int} : vSlc (.tup xs) lo hi M = fun Q => Q (.tup (cut xs lo hi)) M := rfl
theorem addT {a b : List D} : binS .Add (.tup a) (.tup b) M = fun Q => a.length + b.length ≤ big ∧ Q (.tup (a ++ b)) M := rfl
theorem mulL {a : Addr} {xs : List D} {k : Int} (h : M a = some (.lst xs)) : binS .Mult (.obj a) (.int k) M = fun Q => (0 ≤ k ∧ k < 100000000 ∧ xs.length * k.toNat ≤ big) ∧ ∀ p, M p = none → Q (.obj p) (mup M p (.lst (List.replicate k.toNat xs).flatten)) := by
  funext Q
  simp only [binS, vMul, h, and_assoc]
theorem mulT {xs : List D} {k : Int} : binS .Mult (.tup xs) (.int k) M = fun Q => (xs ≠ [] ∧ 2 ≤ k ∧ k ≤ 1000 ∧ xs.length ≤ 1000) ∧ Q (.tup (List.replicate k.toNat xs).flatten) M := by
  funext Q
  simp only [binS, vMul, and_assoc]
theorem addL {a b : Addr} {xs ys : List D} (h : M a = some (.lst xs)) (h' : M b = some (.lst ys)) : binS .Add (.obj a) (.obj b) M = fun Q => xs.length + ys.length ≤ big ∧ ∀ p, M p = none → Q (.obj p) (mup M p (.lst (xs ++ ys))) := by
  funext Q
  simp only [binS, vAdd, h, h']
theorem get_up {a q : Addr} {o u : MO} (h : M a = some u) (e : M q = none) : mup M q o a = some u := by rw [mup_ne (ne_none h e)]; exact h
end
end DL
namespace DL
open PySem PySem.Spec PyProof.Rows L2
theorem eqv_ints : ∀ is js : List Int, PyData.eqvAll (is.map PyData.int) (js.map PyData.int) = decide (is = js)
  | [], [] => by simp [PyData.eqvAll]
  | [], y :: ys => by simp [PyData.eqvAll]
  | x :: xs, [] => by simp [PyData.eqvAll]
  | x :: xs, y :: ys => by
    have := eqv_ints xs ys
    simp only [List.map_cons, PyData.eqvAll, PyData.eqv] at this ⊢
    rw [this]
    by_cases h1 : x = y
    · subst h1; simp
    · simp [h1]
/-- two lists of ints -/
theorem vEq_ints {neg : Bool} {is js : List Int} {M : Mem} {a b : Addr} (h : rdL M a = some (is.map D.int)) (h' : rdL M b = some (js.map D.int)) : vEqK neg (.obj a) (.obj b) M = fun Q => Q (.bl (if neg then !decide (is = js) else decide (is = js))) M := by
  funext Q
  have t : ∀ (c : Addr) (ks : List Int), rdL M c = some (ks.map D.int) → toP 60 M (.obj c) = some (.list (ks.map PyData.int)) := fun c ks hc => by
    have e : toP 60 M (.obj c) = (match rdL M c with | some xs => (xs.mapM (toP 59 M)).map .list | none => none) := rfl
    rw [e, hc]
    simp only [(toPs_ints 58 M ks).1, Option.map_some]
  unfold vEqK
  simp only [t a is h, t b js h', PyData.canLay0, (toPs_ints 58 M is).2, (toPs_ints 58 M js).2, true_and]
  have : PyData.eqv (.list (is.map PyData.int)) (.list (js.map PyData.int)) = decide (is = js) := by simp only [PyData.eqv, eqv_ints]
  rw [this]
end DL
set_option Elab.async false
set_option linter.all false
set_option maxRecDepth 100000
set_option maxHeartbeats 2000000
/-! DL20: the end of a law: its argument, its facts. -/
namespace DL
open PySem PySem.Spec PyProof.Rows L2
/-- none of the top's objects is a list -/
def noLstB (K : PySem.W.Frag) : Bool := K.all fun p => !decide (p.2.cls = .type "list")
theorem lookup_mem {K : PySem.W.Frag} {a : Addr} {o : Obj} (h : K.lookup a = some o) : (a, o) ∈ K := by
  induction K with
  | nil => cases h
  | cons p K ih =>
    obtain ⟨b, u⟩ := p
    rw [List.lookup_cons] at h
    split at h
    · rename_i e
      cases h
      rw [eq_of_beq e]; exact List.mem_cons_self ..
    · exact List.mem_cons_of_mem _ (ih h)
theorem noLst {K : PySem.W.Frag} (h : noLstB K = true) {a : Addr} {o : Obj} (e : K.lookup a = some o) (c : o.cls = .type "list") : False := by
  have := List.all_eq_true.mp h _ (lookup_mem e)
  simp [c] at this
/-- the law's argument -/
theorem law_arg {G : Cfg} {H : Hp} {a : Addr} {ns : List Int} (hn : noLstB G.K = true) (hO : Only H) (hS : SqL G.K H a (ns.map V.int)) : ∃ M : Mem, RepM G H M ∧ rdL M a = some (ns.map .int) := by
  have hr : RepL G.K H (ns.map D.int) (ns.map V.int) := RepL.ints.mpr rfl
  rcases hS with (h | ⟨o, h⟩) | ⟨o, its, n, hk, hc, _⟩
  · rcases hO a with z | ⟨ob, xs, z⟩ <;> rw [h] at z <;> cases z
  · refine ⟨fun b => if b = a then some (.ro (ns.map D.int)) else none, fun b u e => ?_, by unfold rdL; simp⟩
    by_cases q : b = a
    · subst q
      simp only [if_true] at e
      cases e
      exact ⟨_, h, o, _, rfl, hr⟩
    · simp only [q, if_false] at e
      cases e
  · exact (noLst hn hk hc).elim
theorem oks_nil {P : Program} {w : World} {base : Heap} {G : Cfg} : ∀ c ∈ ([] : List Cal), c.Ok P w G base := fun c h => nomatch h
theorem oks_cons {P : Program} {w : World} {base : Heap} {G : Cfg} {c : Cal} {l : List Cal} (h : c.Ok P w G base) (hs : ∀ c ∈ l, c.Ok P w G base) : ∀ d ∈ c :: l, d.Ok P w G base := fun d hd => by
  rcases List.mem_cons.mp hd with rfl | q
  · exact h
  · exact hs d q
theorem lev_of {l : List Cal} {k : Nat} (h : (l.all fun c => decide (c.need ≤ k)) = true) : ∀ c ∈ l, c.need ≤ k := fun c hc => of_decide_eq_true (List.all_eq_true.mp h c hc)
/-- what is promised of nothing -/
theorem LW.fn_no {fa : List He.Fa} {fn : List He.DefD} {cf : Cf} {sub : Nat → Nat → Bool} {P : Program} {w : World} {base : Heap} {G : Cfg} (L : LW fa fn cf sub P w base G) {d : He.DefD} {ps : List Str} {k : Nat} {sp : SpD} {nm : Str} (i : Nat) (hd : fn[i]? = some d) (hat : d.at_ = (nm, none)) (hg : He.Fa.glo nm ∈ fa) (hdf : d.dfl = [] ∧ d.kwd = []) (hb : BindOk d ps) (h : ∀ ds M Q E, sp ds M Q E → False) :
    (Cal.mk .fn nm ps.length k sp).Ok P w G base := by
  obtain ⟨fd, F⟩ := L.says.def_ i hd
  have e1 : d.dvs G.K = [] := by unfold He.DefD.dvs; rw [hdf.1]; rfl
  have e2 : d.kws G.K = [] := by unfold He.DefD.kws; rw [hdf.2]; rfl
  rw [e1, e2] at F
  refine ⟨_, fd, ps, ?_, F.kp, F.bindsN hb, rfl, ⟨fun vs H Q E q => ?_, fun A outer s H args us vs Q E hr he hb' hv q => ?_⟩⟩
  · rw [hat]
    exact He.glo_ok L.kin L.ns (says_mem L.says hg)
  · obtain ⟨ds, M, Q0, E0, _, _, _, q, _⟩ := q; exact (h _ _ _ _ q).elim
  · obtain ⟨ds, M, Q0, E0, _, _, _, q, _⟩ := q; exact (h _ _ _ _ q).elim
/-- the law, called -/
theorem law_F {fa : List He.Fa} {fn : List He.DefD} {cf : Cf} {sub : Nat → Nat → Bool} {P : Program} {d : He.DefD} {N : List Str} {x : Str} {k : Nat} {sp : SpD} {ms : MSs} {l : List Cal} (i : Nat) (hd : fn[i]? = some d) (hat : d.at_ = (("law" : Str), none)) (hg : He.Fa.glo "law" ∈ fa)
    (D : DefOk cf sub d N [x] k sp ms l) (hcs : ∀ (w : World) (base : Heap) (G : Cfg), LW fa fn cf sub P w base G → ∀ c ∈ l, c.Ok P w G base)
    (wi : ∀ (w : World) (base : Heap) (G : Cfg), G.toCf = cf → P = G.P → w = G.w → G.K.In base → base.Ns mainGlobals G.mg → He.SaysD fa fn G.K → topB cf sub G.K = true → ∀ ei ∈ cf.et, ∀ f, ei.2 = some f → ExOk P w base G ei (He.ga G.K ei.1))
    (hsp : ∀ (M : Mem) (a : Addr) (ns : List Int) (Q : DK) (E : Ex → Mem → Prop), rdL M a = some (ns.map .int) → ns.length ≤ 63 → (∀ N, Q (.bl true) N) → sp [.obj a] M Q E)
    (w : World) (mg : Str → Option Value) (f : Addr) (h : Heap) (Y : ∃ K : PySem.W.Frag, K.In h ∧ He.SaysD fa fn K ∧ (topB cf sub K && noLstB K) = true) (Gn : h.Ns mainGlobals mg) (hmg : mg ("law" : Str) = some (.ref f)) :
    ∃ (K : PySem.W.Frag) (fd : FuncData) (sp : Sp), K.In h ∧ (∀ (s : Shared) (u : Value), BindsTo s fd ⟨[u], []⟩ [(x, u)]) ∧
        (∀ (H : Hp) (a : Addr) (ns : List Int), ns.length ≤ 63 → Only H → SqL K H a (ns.map V.int) → sp [.ref a] H (fun v _ => v = .bl true) fun _ _ _ => False) ∧
        ∀ base : Heap, K.In base → base.Ns mainGlobals mg → FnOk P w K mg base (CX P w) (k + 1) f fd [x] sp := by
  obtain ⟨K, KX, c, ex⟩ := Y
  rw [Bool.and_eq_true] at ex
  obtain ⟨fd, F⟩ := c.def_ i hd
  have e1 : d.dvs K = [] := by unfold He.DefD.dvs; rw [D.dfl.1]; rfl
  have e2 : d.kws K = [] := by unfold He.DefD.kws; rw [D.dfl.2]; rfl
  rw [e1, e2] at F
  have ef : f = He.fAd K d.at_ := by
    have := hmg.symm.trans (He.glo_ok KX Gn (says_mem c hg))
    rw [hat]
    exact Value.ref.inj (Option.some.inj this)
  let G : Cfg := { toCf := cf, K := K, mg := mg, P := P, w := w }
  have b := FunD.bindsA (ps := [x]) F D.bd
  refine ⟨K, fd, liftSp G 1 sp, KX, fun s u => b s [u] rfl, fun H a ns hl hO hS => ?_, fun base KB GB => ?_⟩
  · obtain ⟨M, rm, ra⟩ := law_arg (G := G) ex.2 hO hS
    refine ⟨[.obj a], M, fun d _ => d = .bl true, fun _ _ => False, rfl, RepL.one (RepD.obj.mpr rfl), rm, hsp _ _ _ _ _ ra hl (fun _ => rfl), fun d M' H' v e r _ _ => ?_, fun _ _ _ _ _ z => z.elim⟩
    subst e
    exact RepD.bl.mp r
  · have T : TopOk P w base G sub (fdOf cf) := topB_ok (G := G) KB GB ex.1 ⟨rfl, rfl⟩ (wi w base G rfl rfl rfl KB GB c ex.1)
    have L : LW fa fn cf sub P w base G := ⟨c, KB, GB, rfl, T⟩
    rw [ef]
    exact def_ok (G := G) T F D.sc D.chk (hcs w base G L) D.lev D.three D.sp
theorem cx_no {P : Program} {w : World} {H : Hp} {s s' : Shared} {e : Value} (h : CX P w [] H s (fun _ _ _ => False) e s') : False := by
  obtain ⟨_, _, _, _, _, _, _, _, _, _, _, _, z⟩ := h
  exact z
/-- a law over its head -/
theorem walk_law {l : PySem.W.OpenLaw} {q : Program} {loose : List Str} {XP : (Str → Option Value) → Heap → Prop} {YP : World → Heap → Prop} {d : DefRec} {x : Str} {k : Nat}
    (hm : l.most = some 63) (hdf : d.params.defaults = []) (hr : Room k callerA)
    (F : ∀ (w : World) (mg : Str → Option Value) (f : Addr) (h : Heap), YP w h → h.Ns mainGlobals mg → mg d.name = some (.ref f) →
      ∃ (K : PySem.W.Frag) (fd : FuncData) (sp : Sp), K.In h ∧ (∀ (s : Shared) (u : Value), BindsTo s fd ⟨[u], []⟩ [(x, u)]) ∧
        (∀ (H : Hp) (a : Addr) (ns : List Int), ns.length ≤ 63 → Only H → SqL K H a (ns.map V.int) → sp [.ref a] H (fun v _ => v = .bl true) fun _ _ _ => False) ∧
        ∀ base : Heap, K.In base → base.Ns mainGlobals mg → FnOk l.prog w K mg base (CX l.prog w) k f fd [x] sp) :
    PySem.W.WalkO q loose XP YP l.row.toRowW d [] (fun f vs => PySem.call f vs) := by
  refine Att.attach_call hm hdf ?_
  intro w s0 s1 mg mb f o pm cd doc a vs ns gr yp ho hcd hcr hf hobj hint hl hg
  obtain ⟨K, fd, sp, kin, bnd, arg, ok⟩ := F w mg f _ yp gr.T.g hf
  have big63 : ns.length ≤ sizeLine := Nat.le_trans hl (by decide)
  refine law_call kin gr.T.g gr.T.b gr.T.builtins gr.T.nolimit hg hobj hint big63 hr ok bnd ?_ ?_
  · exact fun H o1 o2 => arg H a ns hl o1 o2
  · exact fun H e s' z => cx_no z
end DL
set_option Elab.async false
set_option linter.all false
set_option maxRecDepth 100000
set_option maxHeartbeats 2000000
/-! DLE: exceptions with a field (an __init__ of their own that calls super().__init__). -/
namespace DL
open PySem PySem.Spec PyProof.Rows L2 NdefX PySem.Calls

/-- what the head says of such a class's __init__ -/
structure IniAt (P : Program) (K : PySem.W.Frag) (C fI cda cc : Addr) (qual : Str) (params : Arguments) (body : List Stmt) (scope : Scope) (fd : FuncData) (fl : Str) : Prop where
  look : ∃ oc od osl, K.lookup fI = some ⟨oc, od, .func fd, osl⟩
  fdq : ∃ name dV kV doc pm an ct, fd = PySem.W.fnX name qual params body scope [("__class__", cc)] dV kV doc pm an (.ref cda) ct
  cod : PySem.W.codeIn K (.ref cda) qual = true
  file : ∃ cl d vs sl file tf, K.lookup cda = some ⟨cl, d, .fields vs, sl⟩ ∧ vs[2]? = some (.str file tf) ∧ ((P.main.file : Str) == file) = true
  cell : ∃ cl cld csl, K.lookup cc = some ⟨cl, cld, .cell (some (.ref C)), csl⟩
  self : PySem.W.mroIn K C (.ref C) = some true
  sup : PySem.W.nsIn K mainGlobals "super" = some none
  opq : PySem.W.nsIn K cStatics "thirdparty.any" = some none
  nxt : PySem.W.ks_superIn K C C "__init__" = some (some (.builtin "ValueError.__init__"))
  sub : PySem.W.subIn K (.ref C) (.type "ValueError") = some true
  fld : PySem.W.findIn K (.ref C) fl = some none
  oex : OexC K C
  main : (P.main.scope.names.lookup ("super" : Str)).isSome = false

theorem mw_call {X : Cx} {pins : List (Addr × Obj)} {σ : L2.St} {H : Hp} {s : Shared} {E : Value → Shared → Prop} {A : Around} {C a u : Addr} {us : List Value} {Q : Value → Shared → Prop} (T : OexC X.K C) (I : Inv X pins σ H s) (e : H a = some (exo a C none))
    (hu : s.heap.get? u = some (PySem.W.kxs_mw "ValueError.__init__" a)) (hl : us.length ≤ sizeLine) (h : ∀ s', Inv X pins σ H s' → Q .none s') : wpAny (model X.prog X.w) A (call (.ref u) us) Q E s := by
  obtain ⟨nm, q, N, bs, bm, sn, sub, ab, col, dd, k0, k1, k2, k3, k5, hC, hbm⟩ := T.cls
  obtain ⟨t1, ho⟩ := exo_at I.hok e
  obtain ⟨hp, g, d, t, os⟩ := s
  have kC := I.kIn _ _ hC
  refine wpAny_call (codeAny_of_tree ?_)
  show wpAny _ A.in1 (callAny (.ref u) ⟨us, []⟩) _ _ _
  simp only [callAny]
  refine wpAny_bind (wpAny_load hu ?_)
  simp only [PySem.W.kxs_mw, show (Value.type "method-wrapper" == Value.type "method" || Value.type "method-wrapper" == Value.type "builtin_function_or_method" || Value.type "method-wrapper" == Value.type "method-wrapper") = true by decide, if_true]
  refine PySem.W.KFB.if_so (by decide) ?_
  refine wpAny_bind (PySem.W.check_bound_init F.excBase_ValueError.toExcCallFacts kC ho rfl ?_)
  refine wpAny_bind (wpAny_pure (wpAny_pure ?_))
  refine ⟨plainId_quiet F.excBase_ValueError.init.plain _, codeAny_builtin F.excBase_ValueError.initEntry ?_⟩
  refine PySem.W.exc_init_tree (cls := .ref C) (t0 := t1) (dv := none) (c2 := .none) (c3 := .none) (b4 := .bool false) ho hl fun h' k hx ht => ?_
  have J := I.write (t' := t) (x := a) (e := a) (o := exo a C none) (by rw [e]; exact True.intro) (.inl rfl) k ⟨_, hx⟩ (exo_ok hx)
  have eu : upd H a (exo a C none) = H := by
    funext b
    by_cases hb : b = a
    · rw [hb, upd_same, e]
    · rw [upd_ne hb]
  rw [eu] at J
  exact h _ J

/-- the call's form: its lines are such that no other line is told -/
def SuperCall (x : Str) (p0 p1 p2 p3 p4 : Pos) : Prop := ∀ env : Env, ∃ pl : Sem Bool, eval (.Call (.Attribute (.Call (.Name "super" p0) [] [] p1) "__init__" p2) [.Name x p3] [] p4) env = (do
      let ov ← attributeBase (.Call (.Name "super" p0) [] [] p1) "__init__" env (eval (.Call (.Name "super" p0) [] [] p1) env)
      standAt p2.atName
      let (f, first) ← holding [ov] (getMethod ov "__init__" pl)
      callWith p4 f first (backTo p4 (starEach [.Name x p3] env)) [])
/-- super().__init__(x) -/
theorem super_stmt {X : Cx} {σ : L2.St} {H : Hp} {s : Shared} {body b0 : List Stmt} {qual fl x : Str} {params : Arguments} {scope : Scope} {C fI cda cc L a : Addr} {fd : FuncData} {v : V} {p0 p1 p2 p3 p4 p5 : Pos} {E : Value → Shared → Prop} {Q : Flow → Shared → Prop}
    (Y : IniAt X.prog X.K C fI cda cc qual params b0 scope fd fl) (I : Inv X [] σ H s) (hX : X.env = PySem.W.envX qual scope L fI (.ref cda) [("__class__", cc)]) (hN : X.N = [("self" : Str), x, ("__class__" : Str)]) (hA : X.xe = E)
    (h0 : σ[0]? = some (some (.ref a))) (h1 : σ[1]? = some (some v)) (e : H a = some (exo a C none))
    (hp : (params.posonlyargs ++ params.args).head?.map (·.arg) = some ("self" : Str)) (hks : scope.names.lookup ("super" : Str) = some .globalImplicit) (hkc : scope.names.lookup ("__class__" : Str) = some .free) (hka : scope.names.lookup ("self" : Str) = some .local) (hkx : scope.names.lookup x = some .local) (hk : scope.kind = .function)
    (hd : (x == ("__debug__" : Str)) = false) (hcd : (x == ("__classdict__" : Str)) = false)
    (hcall0 : SuperCall x p0 p1 p2 p3 p4) (h : ∀ s', Inv X [] σ H s' → Q .next s') :
    _root_.PySem.wpAt (model X.prog X.w) X.A (.func body X.env) (exec (.Expr (.Call (.Attribute (.Call (.Name "super" p0) [] [] p1) "__init__" p2) [.Name x p3] [] p4) p5) X.env) Q E s := by
  subst hA
  obtain ⟨pl, hcall⟩ := hcall0 X.env
  obtain ⟨oc, od, osl, lk⟩ := Y.look
  obtain ⟨name, dV, kV, doc, pm, an, ct, rfl⟩ := Y.fdq
  obtain ⟨cl, cd, vs, csl, file, tf, lkc, hvs, hfile⟩ := Y.file
  obtain ⟨cl2, cld, csl2, lkcc⟩ := Y.cell
  obtain ⟨nm, q, N, bs, bm, sn, sub, ab, col, dd, k0, k1, k2, k3, k5, hC, hbm⟩ := Y.oex.cls
  obtain ⟨ar, har, hself⟩ : ∃ ar : Arg, (params.posonlyargs ++ params.args).head? = some ar ∧ ar.arg = ("self" : Str) := by
    cases z : (params.posonlyargs ++ params.args).head? with
    | none => rw [z] at hp; cases hp
    | some ar => rw [z] at hp; exact ⟨ar, rfl, Option.some.inj hp⟩
  have kin := I.kIn
  have hcl : PySem.W.clsIn X.K C = some { name := nm, bases := bs, mro := .ref C :: bm, ns := N, qualname := q, hasDict := true, slotNames := sn, subclasses := sub, abstract := ab, collection := col, hasDel := false } := by unfold PySem.W.clsIn; rw [hC] <;> rfl
  obtain ⟨t1, ho⟩ := exo_at I.hok e
  obtain ⟨m, hn, hl⟩ := I.loc
  have hke : ∀ {y : Str}, X.env.kindOf y = scope.names.lookup y := fun {y} => by rw [hX]; rfl
  have hself' : m "self" = some (.ref a) := by
    obtain ⟨u, r, l⟩ := hl 0 "self" _ (by rw [hN]; rfl) h0 (.inl (by rw [hX]; exact hka))
    obtain rfl : u = Value.ref a := r
    rcases l with ⟨_, l⟩ | ⟨l, _⟩
    · exact l
    · rw [hke, hka] at l; rcases l with l | l <;> cases l
  have hint : interactive X.env = false := by
    have z : (X.env.scope.kind == ScopeKind.module) = false := by
      rw [hX]
      show (scope.kind == _) = _
      rw [hk]
      rfl
    unfold interactive
    rw [z]
    rfl
  refine ks_wpAt_Expr_any (env := X.env) ?_ hint (by rfl)
  refine ks_wpAt_MethodCall (env := X.env) ?_ hcall
  refine ks_wpAt_super_base (env := X.env) (by rw [hke]; exact hks) (by rw [hke]; exact hkc) rfl (by rw [hX]) (kin _ _ lk) rfl har (by rw [hX]) (kin _ _ lkc) rfl hvs hfile Y.main ?_
  refine PySem.W.ks_loadName_global (by rw [hX]; exact hk) (by rw [hke]; exact hks) ?_
  obtain ⟨mb, hb1, hb2⟩ := I.mod.blt
  refine loadGlobal_builtin (by rw [I.ok.glob]; exact I.mod.glob.keeps I.bk) (PySem.W.mg_none_of kin (I.mod.glob.keeps I.bk) Y.sup) (by rw [I.ok.blt]; exact hb1.keeps I.bk) ((hb2 "super" (by decide)).trans PyProof.Rows.Boot.«super») ⟨rfl, ?_⟩
  refine wpAny_loadName_free (by rw [hX]; exact hk) (by rw [hke]; exact hkc) (c := cc) (v := .ref C) (by rw [hX]; rfl) ⟨_, kin _ _ lkcc, rfl⟩ ?_
  rw [hself]
  refine wpAny_loadName_local (by rw [hX]; exact hk) (by rw [hke]; exact hka) hn hself' ?_
  refine ks_wpAny_isType_cls (kin _ _ hC) rfl ⟨rfl, ?_⟩
  obtain ⟨hp, g, d, t, os⟩ := s
  refine ks_wpAny_call_super (kin _ _ hC) rfl ho rfl (fun c z => by cases z) (PySem.W.looks_mroIn kin Y.self) (fun h' e' k' => ?_)
  have I1 : Inv X [] σ H ⟨h', g, d, t, os⟩ := I.kept (t' := t) k'
  have kin1 := I1.kIn
  have ho1 := k' _ _ ho
  have iat : PySem.W.InstAt h' a _ C none := ⟨ho1, rfl, rfl, trivial⟩
  have nxt := Y.nxt
  unfold PySem.W.ks_superIn at nxt
  rw [hcl] at nxt
  refine PySem.W.kxs_getMethod PySem.W.kxs_ValueError e' (PySem.W.looks_opaque kin1 Y.opq) (l₀ := .ref C :: bm) (fun A Q E s k q => wpAny_bind ((PySem.W.looks_clsIn kin1 hcl) A _ E s k (wpAny_pure q))) rfl kin1 nxt
    (iat.type.andThen (PySem.W.looks_subIn kin1 Y.sub)) (PySem.W.ks_ne kin1 iat hcl) rfl ?_
  have kp2 : ∀ b o, h'.get? b = some o → (h'.push (PySem.W.kxs_mw "ValueError.__init__" a)).get? b = some o := fun b o z => Heap.get?_push_of_some _ z
  have I2 : Inv X [] σ H ⟨h'.push (PySem.W.kxs_mw "ValueError.__init__" a), g, d, t + 1, os⟩ := I1.kept (t' := t + 1) kp2
  have hmw : (h'.push (PySem.W.kxs_mw "ValueError.__init__" a)).get? h'.objs.size = some (PySem.W.kxs_mw "ValueError.__init__" a) := Heap.get?_push_at rfl rfl
  have I3 : Inv X [(h'.objs.size, PySem.W.kxs_mw "ValueError.__init__" a)] σ H ⟨h'.push (PySem.W.kxs_mw "ValueError.__init__" a), g, d, t + 1, os⟩ := I2.pins_of fun p hp => by
    rw [List.mem_singleton] at hp
    subst hp
    exact ⟨hmw, I1.hok.fresh (Nat.le_refl _), Nat.ne_of_gt I1.lt, I1.nofs (Nat.le_refl _), fun v z => by cases z⟩
  have PAx : PA X [.Name x p3] (tCons (tVar 1) tNil) := pa_cons (pe_var (by rw [hN]; rfl) (.inl (by rw [hX]; exact hkx)) hd hcd) pa_nil (by rfl)
  refine PySem.W.kxs_callWith (i := "ValueError.__init__") (x := a) (by rfl) ?_
  refine evalArgs_plain ?_
  refine thn (PAx.run p4 _ _ σ H (fun vs H1 => vs = [v] ∧ H1 = H) I3 ⟨v, h1, rfl, rfl⟩) fun us s3 ⟨vs', H1, I4, r1, ev, eH⟩ => ?_
  subst ev
  subst eH
  have pu := (I4.pin (h'.objs.size, PySem.W.kxs_mw "ValueError.__init__" a) (List.mem_append_right _ (List.mem_cons_self ..))).1
  refine ⟨pu, ?_⟩
  refine mw_call Y.oex I4 e pu (by show us.length ≤ sizeLine; rw [← Paired.length r1, sizeLine_eq]; exact (by decide : 1 ≤ 16777216)) fun s4 I5 => h s4 (I5.pins_of fun p hp => by cases hp)
/-- what it promises -/
def spIni (C : Addr) (fl : Str) : Sp := fun vs H Q _ => ∃ a v, vs = [.ref a, v] ∧ H a = some (exo a C none) ∧ ∀ dx, H dx = none → dx ≠ a → Q .non (upd (upd H dx (exd dx [(fl, v)])) a (exo a C (some dx)))
def iniBody (fl x : Str) (p0 p1 p2 p3 p4 p5 p6 p7 p8 p9 : Pos) : List Stmt :=
  [.Expr (.Call (.Attribute (.Call (.Name "super" p0) [] [] p1) "__init__" p2) [.Name x p3] [] p4) p5, .Assign [.Attribute (.Name "self" p6) fl p7] (.Name x p8) p9]
theorem ini_ok {P : Program} {w : World} {K : PySem.W.Frag} {mg : Str → Option Value} {base : Heap} {CX : CXT} {k : Nat} {C fI cda cc : Addr} {qual : Str} {params : Arguments} {scope : Scope} {fd : FuncData} {fl x : Str} {p0 p1 p2 p3 p4 p5 p6 p7 p8 p9 : Pos}
    (Y : IniAt P K C fI cda cc qual params (iniBody fl x p0 p1 p2 p3 p4 p5 p6 p7 p8 p9) scope fd fl) (S : NScope [("self" : Str), x, ("__class__" : Str)] [("self" : Str), x] [("__class__" : Str)] scope)
    (hp : (params.posonlyargs ++ params.args).head?.map (·.arg) = some ("self" : Str)) (hks : scope.names.lookup ("super" : Str) = some .globalImplicit)
    (hd : (x == ("__debug__" : Str)) = false) (hcd : (x == ("__classdict__" : Str)) = false) (hcall : SuperCall x p0 p1 p2 p3 p4) :
    FnOk P w K mg base CX k fI fd [("self" : Str), x] (spIni C fl) := by
  refine ⟨fun vs H Q E ⟨a, v, e, _⟩ => by rw [e]; rfl, fun A outer s H args us vs Q E hr e0 hb r hsp => ?_⟩
  obtain ⟨a, v, rfl, ea, q⟩ := hsp
  have Y0 := Y
  obtain ⟨oc, od, osl, lk⟩ := Y.look
  obtain ⟨name, dV, kV, doc, pm, an, ct, rfl⟩ := Y.fdq
  obtain ⟨cl2, cld, csl2, lkcc⟩ := Y.cell
  have kin : K.In s.heap := e0.mod.kin.keeps fun b o e => (e0.bs b o e).1
  have lim : s.heap.NoLimit := e0.mod.nolimit.keeps fun b o e => (e0.bs b o e).1
  refine ks_codeAny_call_defAt (fd := PySem.W.fnX name qual params (iniBody fl x p0 p1 p2 p3 p4 p5 p6 p7 p8 p9) scope [("__class__", cc)] dV kV doc pm an (.ref cda) ct) (body := iniBody fl x p0 p1 p2 p3 p4 p5 p6 p7 p8 p9) hr.depth (kin _ _ lk) rfl lim
    (PySem.W.codeRec_of kin Y.cod) rfl hb S.nocell (fun ⟨n, _⟩ hy => S.par n (List.of_mem_zip hy).1) (fun h₁ hns kp => ?_) S.co S.gen S.kind
  have hl : ([.ref a, v] : List V).length = [("self" : Str), x].length := rfl
  have CA : CellsAt [("__class__", cc)] [("__class__" : Str)] [none] s.heap H := by
    have z := e0.bs _ _ (e0.mod.kin _ _ lkcc)
    have one : ∀ y c, ([(("__class__" : Str), cc)] : List (Str × Addr)).lookup y = some c → y = ("__class__" : Str) ∧ c = cc := fun y c e => by
      have := PySem.mem_of_lookup e
      rw [List.mem_singleton] at this
      cases this
      exact ⟨rfl, rfl⟩
    refine ⟨rfl, fun y c e => ?_, fun y y' c e1 e2 => ?_, fun i y e => ?_⟩
    · obtain ⟨_, rfl⟩ := one y c e
      exact ⟨z.2, _, _, z.1, rfl⟩
    · rw [(one _ _ e1).1, (one _ _ e2).1]
    · cases i with
      | zero =>
        cases e
        exact ⟨cc, rfl, fun v e => by cases e⟩
      | succ i => cases e
  have I : Inv (ncx CX P w K mg base [("self" : Str), x, ("__class__" : Str)] ⟨name, qual, params, iniBody fl x p0 p1 p2 p3 p4 p5 p6 p7 p8 p9, scope, [("__class__", cc)], cda⟩ fI A outer s H E) [] (startF [("self" : Str), x, ("__class__" : Str)] [.ref a, v] [none]) H { s with heap := h₁, toks := s.toks + ([("self" : Str), x].zip us).length } :=
    inv_startN S hr.hd e0 hl r CA hns kp
  refine ks_wpAt_execs_cons ?_
  refine super_stmt Y0 I rfl rfl rfl (L := s.heap.objs.size) (a := a) (v := v) rfl rfl ea hp hks (S.frk _ (List.mem_cons_self ..)) (S.par _ (List.mem_cons_self ..)) (S.par _ (List.mem_cons_of_mem _ (List.mem_cons_self ..))) S.kind hd hcd hcall fun s' J => ?_
  refine wpAt_of_wpAny ?_
  have P2 : PSs (ncx CX P w K mg base [("self" : Str), x, ("__class__" : Str)] ⟨name, qual, params, iniBody fl x p0 p1 p2 p3 p4 p5 p6 p7 p8 p9, scope, [("__class__", cc)], cda⟩ fI A outer s H E) [.Assign [.Attribute (.Name "self" p6) fl p7] (.Name x p8) p9] _ :=
    pss_one (ps_ost (pe_var (i := 0) rfl (.inl (S.par _ (List.mem_cons_self ..)))) (pe_var (i := 1) rfl (.inl (S.par _ (List.mem_cons_of_mem _ (List.mem_cons_self ..)))) hd hcd) rfl)
  refine wpAny_mono (P2.run [] _ _ H { nx := fun _ H' => Q .non H', rt := Q } J ?_) (fun f1 s' hs => ?_) fun e s' hs => hs
  · exact ⟨v, rfl, .ref a, rfl, a, C, rfl, Y.oex, Y.fld, .inl ⟨ea, q⟩⟩
  · have fin : ∀ {σ' : L2.St} {H' : Hp} {v : V} {u : Value}, Inv (ncx CX P w K mg base [("self" : Str), x, ("__class__" : Str)] ⟨name, qual, params, iniBody fl x p0 p1 p2 p3 p4 p5 p6 p7 p8 p9, scope, [("__class__", cc)], cda⟩ fI A outer s H E) [] σ' H' s' → L2.RelV v u → Q v H' → L2.CE outer P w H s Q u s' :=
      fun {σ' H' v u} J rv q => ⟨v, H', J.os, J.bare, J.base, J.hok, rv, q⟩
    cases f1 with
    | ret u =>
      obtain ⟨v, σ', H', J, rv, q⟩ := hs
      exact fin J rv q
    | next =>
      obtain ⟨σ', H', J, q⟩ := hs
      exact fin (v := V.non) (u := Value.none) J rfl q
    | brk =>
      obtain ⟨_, _, _, q⟩ := hs
      exact False.elim q
    | cont =>
      obtain ⟨_, _, _, q⟩ := hs
      exact False.elim q
end DL
set_option Elab.async false
set_option linter.all false
set_option maxRecDepth 100000
set_option maxHeartbeats 2000000
/-! DLF: the head's facts for exceptions with a field; the law's end with them. -/
namespace DL
open PySem PySem.Spec PyProof.Rows L2 NdefX PySem.Calls
def oexB (K : PySem.W.Frag) (C : Addr) : Bool := match K.lookup C with
  | some ⟨.type t, _, .cls cd, sl⟩ => decide (t = "type") && (match cd.mro, sl.toList with
    | .ref C' :: bm, [_, _, _, _, some (.builtin n), _] => C' == C && n == "ValueError.__new__" && !cd.hasDel && cd.hasDict && PySem.HandSPX.refsVE bm
    | _, _ => false)
  | _ => false
theorem oexB_ok {K : PySem.W.Frag} {C : Addr} (q : oexB K C = true) : ∃ nm q N bs bm sn sub ab col dd k0 k1 k2 k3 k5, K.lookup C = some (excClassObj nm q C N bs bm true sn sub ab col dd k0 k1 k2 k3 k5 "ValueError.__new__") ∧ PySem.HandSPX.refsVE bm = true := by
  unfold oexB at q
  split at q
  · rename_i t dd cd sl ho
    rw [Bool.and_eq_true, decide_eq_true_eq] at q
    obtain ⟨rfl, q⟩ := q
    split at q
    · rename_i C' bm k0 k1 k2 k3 n k5 hm hs
      simp only [Bool.and_eq_true, beq_iff_eq, Bool.not_eq_true'] at q
      obtain ⟨⟨⟨⟨rfl, rfl⟩, hdel⟩, hhd⟩, ht⟩ := q
      obtain ⟨nm, bs, mro, ns, qn, hd, sn, sub, ab, col, del⟩ := cd
      dsimp only at hm hdel hhd
      subst hm hdel hhd
      have hsl : sl = #[k0, k1, k2, k3, some (.builtin "ValueError.__new__"), k5] := by
        obtain ⟨l⟩ := sl
        simp only at hs
        rw [hs]
      subst hsl
      exact ⟨nm, qn, ns, bs, bm, sn, sub, ab, col, dd, k0, k1, k2, k3, k5, ho, ht⟩
    · cases q
  · cases q
/-- an exception class with a field: its name, the field, the parameter, the def -/
structure IniD where
  cn : Str
  fl : Str
  x : Str
  qual : Str
  params : Arguments
  body : List Stmt
  scope : Scope
abbrev IniW : Type := Option (Str × Str × Arguments × FuncBody × Scope × Addr × List Str × Addr)
def iniA (K : PySem.W.Frag) (cn : Str) : Addr := He.ma K (He.ga K cn) "__init__"
def iniW (K : PySem.W.Frag) (cn : Str) : IniW := match K.lookup (iniA K cn) with
  | some ⟨_, _, .func fd, _⟩ => some (fd.name, fd.qualname, fd.params, fd.body, fd.scope, fd.globals, fd.closure.map (·.1), fd.builtins)
  | _ => none
def IniD.val (d : IniD) : IniW := some (("__init__" : Str), d.qual, d.params, FuncBody.stmts d.body, d.scope, mainGlobals, [("__class__" : Str)], builtinsNs)
def codeB (P : Program) (K : PySem.W.Frag) (qual : Str) : Value → Bool
  | .ref c => PySem.W.codeIn K (.ref c) qual && (match K.lookup c with
    | some ⟨_, _, .fields vs, _⟩ => (match vs[2]? with
      | some (Value.str file _) => (P.main.file : Str) == file
      | _ => false)
    | _ => false)
  | _ => false
theorem codeB_ok {P : Program} {K : PySem.W.Frag} {qual : Str} {v : Value} (h : codeB P K qual v = true) : ∃ c, v = .ref c ∧ PySem.W.codeIn K (.ref c) qual = true ∧ ∃ cl d vs sl file tf, K.lookup c = some ⟨cl, d, .fields vs, sl⟩ ∧ vs[2]? = some (.str file tf) ∧ ((P.main.file : Str) == file) = true := by
  cases v with
  | ref c =>
    unfold codeB at h
    rw [Bool.and_eq_true] at h
    obtain ⟨h1, h2⟩ := h
    refine ⟨c, rfl, h1, ?_⟩
    split at h2
    · rename_i cl d vs sl e
      split at h2
      · rename_i file tf e2
        exact ⟨cl, d, vs, sl, file, tf, e, e2, h2⟩
      · cases h2
    · cases h2
  | _ => cases h
def cellB (K : PySem.W.Frag) (C : Addr) : List (Str × Addr) → Bool
  | [(_, cc)] => (match K.lookup cc with
    | some ⟨_, _, .cell (some (.ref D)), _⟩ => decide (D = C)
    | _ => false)
  | _ => false
theorem cellB_ok {K : PySem.W.Frag} {C : Addr} {cl : List (Str × Addr)} (h : cellB K C cl = true) : ∃ y cc, cl = [(y, cc)] ∧ ∃ c d sl, K.lookup cc = some ⟨c, d, .cell (some (.ref C)), sl⟩ := by
  unfold cellB at h
  split at h
  · rename_i y cc
    split at h
    · rename_i c d D sl e
      have := of_decide_eq_true h
      subst this
      exact ⟨y, cc, rfl, c, d, sl, e⟩
    · cases h
  · cases h
def noneB : Value → Bool
  | .none => true
  | _ => false
theorem noneB_ok {v : Value} (h : noneB v = true) : v = .none := by
  cases v <;> first | rfl | cases h
def iniB (P : Program) (K : PySem.W.Frag) (d : IniD) : Bool :=
  let C := He.ga K d.cn
  (match K.lookup (iniA K d.cn) with
    | some ⟨_, _, .func fd, _⟩ => noneB fd.defaults && (codeB P K d.qual fd.code && cellB K C fd.closure)
    | _ => false) &&
  (oexB K C && (He.eqO (PySem.W.findIn K (.ref C) "__init__") (some (some (.ref (iniA K d.cn)))) && (decide (PySem.W.typeIn K (.ref (iniA K d.cn)) = some (.type "function")) &&
  (He.eqO (PySem.W.nsIn K mainGlobals d.cn) (some (some (.ref C))) &&
  (decide (PySem.W.mroIn K C (.ref C) = some true) && (He.eqO (PySem.W.nsIn K mainGlobals "super") (some none) && (He.eqO (PySem.W.nsIn K cStatics "thirdparty.any") (some none) &&
  (He.eqO (PySem.W.ks_superIn K C C "__init__") (some (some (.builtin "ValueError.__init__"))) && (decide (PySem.W.subIn K (.ref C) (.type "ValueError") = some true) && (He.eqO (PySem.W.findIn K (.ref C) d.fl) (some none) &&
  (He.eqO (PySem.W.findIn K (.ref C) "__setattr__") (some (some (.builtin "object.__setattr__"))) && (decide (PySem.W.subIn K (.ref C) (.type "BaseException") = some true) && (decide (PySem.W.typeIn K (.ref C) = some (.type "type")) && PySem.W.keepIn K (.ref C))))))))))))))
/-- what the texts say -/
structure IniD.Good (P : Program) (d : IniD) : Prop where
  body : ∃ p0 p1 p2 p3 p4 p5 p6 p7 p8 p9 : Pos, d.body = iniBody d.fl d.x p0 p1 p2 p3 p4 p5 p6 p7 p8 p9 ∧ SuperCall d.x p0 p1 p2 p3 p4
  sc : NScope [("self" : Str), d.x, ("__class__" : Str)] [("self" : Str), d.x] [("__class__" : Str)] d.scope
  hp : (d.params.posonlyargs ++ d.params.args).head?.map (·.arg) = some ("self" : Str)
  ks : d.scope.names.lookup ("super" : Str) = some .globalImplicit
  nd : (d.x == ("__debug__" : Str)) = false
  ncd : (d.x == ("__classdict__" : Str)) = false
  bd : ∀ (kV doc pm : Value) (an : Option Addr) (cdv ct : Value) (cl : List (Str × Addr)) (us : List Value), us.length = 2 → bindArgs (PySem.W.fnX "__init__" d.qual d.params d.body d.scope cl .none kV doc pm an cdv ct) ⟨us, []⟩ = pure ([("self" : Str), d.x].zip us)
  main : (P.main.scope.names.lookup ("super" : Str)).isSome = false
  db : (d.cn == ("__debug__" : Str)) = false
theorem upd_ini {H : Hp} {a dx C : Addr} {fl : Str} {v : V} (ha : H a = none) (hd : dx ≠ a) : upd (del (upd (upd (upd H a (exo a C none)) dx (exd dx [(fl, v)])) a (exo a C (some dx))) a) dx (.xd [(fl, v)]) = upd H dx (.xd [(fl, v)]) := by
  funext b
  by_cases h : b = dx
  · rw [h, upd_same, upd_same]
  · rw [upd_ne h, upd_ne h]
    by_cases h2 : b = a
    · rw [h2, del_same, ha]
    · rw [del_ne h2, upd_ne h2, upd_ne h, upd_ne h2]
theorem ini_ex {P : Program} {w : World} {base : Heap} {G : Cfg} {d : IniD} (KX : G.K.In base) (Gn : base.Ns mainGlobals G.mg) (gd : d.Good P) (ev : iniW G.K d.cn = d.val) (eb : iniB P G.K d = true) : ExOk P w base G (d.cn, some d.fl) (He.ga G.K d.cn) := by
  obtain ⟨p0, p1, p2, p3, p4, p5, p6, p7, p8, p9, hbody, hcall⟩ := gd.body
  unfold iniB at eb
  obtain ⟨b1, eb⟩ := He.ba eb
  obtain ⟨b2, eb⟩ := He.ba eb
  obtain ⟨b3, eb⟩ := He.ba eb
  obtain ⟨b4, eb⟩ := He.ba eb
  obtain ⟨b5, eb⟩ := He.ba eb
  obtain ⟨b6, eb⟩ := He.ba eb
  obtain ⟨b7, eb⟩ := He.ba eb
  obtain ⟨b8, eb⟩ := He.ba eb
  obtain ⟨b9, eb⟩ := He.ba eb
  obtain ⟨b10, eb⟩ := He.ba eb
  obtain ⟨b11, eb⟩ := He.ba eb
  obtain ⟨b12, eb⟩ := He.ba eb
  obtain ⟨b13, eb⟩ := He.ba eb
  obtain ⟨b14, b15⟩ := He.ba eb
  have T : OexC G.K (He.ga G.K d.cn) := ⟨oexB_ok b2, He.eqO_ok b12, of_decide_eq_true b13, of_decide_eq_true b14, b15⟩
  have hmg : G.mg d.cn = some (.ref (He.ga G.K d.cn)) := PySem.W.mg_of KX Gn (He.eqO_ok b5)
  obtain ⟨cda, cc, fd, Y, hbind⟩ : ∃ cda cc fd, IniAt P G.K (He.ga G.K d.cn) (iniA G.K d.cn) cda cc d.qual d.params d.body d.scope fd d.fl ∧ Binds G.K fd [("self" : Str), d.x] [] := by
    unfold iniW at ev
    cases q : G.K.lookup (iniA G.K d.cn) with
    | none =>
      rw [q] at b1
      cases b1
    | some o =>
      obtain ⟨oc, od, dt, osl⟩ := o
      rw [q] at b1 ev
      cases dt with
      | func fd =>
        obtain ⟨n1, n2, n3, n4, n5, n6, n7, n8, n9, n10, n11, n12, n13, n14, n15⟩ := fd
        have e2 : (some (n1, n2, n3, n4, n5, n6, n7.map (·.1), n15) : IniW) = some (("__init__" : Str), d.qual, d.params, FuncBody.stmts d.body, d.scope, mainGlobals, [("__class__" : Str)], builtinsNs) := ev
        simp only [Option.some.injEq, Prod.mk.injEq] at e2
        obtain ⟨h1, h2, h3, h4, h5, h6, h7, h8⟩ := e2
        have c3 : (noneB n8 && (codeB P G.K d.qual n13 && cellB G.K (He.ga G.K d.cn) n7)) = true := b1
        obtain ⟨c4, c5⟩ := He.ba c3
        obtain ⟨c6, c7⟩ := He.ba c5
        obtain ⟨y, cc, hcl, hcell⟩ := cellB_ok c7
        subst hcl
        have hy : y = ("__class__" : Str) := by
          have := h7
          simp only [List.map_cons, List.map_nil, List.cons.injEq, and_true] at this
          exact this
        subst hy
        obtain ⟨cda, hcd, hci, hfile⟩ := codeB_ok c6
        have n8n := noneB_ok c4
        subst h1 h2 h3 h4 h5 h6 h8 hcd n8n
        refine ⟨cda, cc, _, ⟨⟨oc, od, osl, q⟩, ⟨_, _, _, _, _, _, _, rfl⟩, hci, hfile, hcell, of_decide_eq_true b6, He.eqO_ok b7, He.eqO_ok b8, He.eqO_ok b9, of_decide_eq_true b10, He.eqO_ok b11, T, gd.main⟩, ?_⟩
        exact .all fun us hl => gd.bd _ _ _ _ _ _ _ us hl
      | _ => cases b1
  rw [hbody] at Y
  refine ⟨hmg, b15, of_decide_eq_true b13, of_decide_eq_true b14, (fun z => by cases z), fun f hf X N sc e te p pos e1 e2 e3 C hr hg he hp => ?_⟩
  cases hf
  subst e1 e2 e3
  have F := ini_ok (w := X.w) (mg := G.mg) (base := X.base) (CX := fun _ _ _ _ _ _ => False) (k := 1) Y gd.sc gd.hp gd.ks gd.nd gd.ncd hcall
  rw [← C.eK] at F T b4 b3 hbind hmg
  rw [← C.eM] at F hmg
  rw [← C.eK]
  have he' : PE X e (fun σ H Q => ∃ Q0 : VK, te σ H Q0 ∧ ∀ v H1, Q0 v H1 → Q v H1) := ⟨fun pins s σ H Q I ⟨Q0, h, k⟩ => thn (he.run pins s σ H Q0 I h) fun u s1 ⟨v, H1, I1, r1, q1⟩ => ⟨v, H1, I1, r1, k v H1 q1⟩⟩
  have M := pmk_oex (dvs := []) (ds := []) (p := p) (pos := pos) T (He.eqO_ok b3) (of_decide_eq_true b4) F (hr.mono (by decide)) hbind .nil (fun _ _ _ _ _ _ _ z => z.elim) hg hmg (pa_cons he' pa_nil (star_plain hp _ _)) gd.db (star_plain hp _ _) rfl
  intro pins s σ H Q I h
  refine M pins s σ H Q I ?_
  refine ⟨_, h, fun v H1 q => ⟨(by decide : 1 ≤ 1000), fun a ha => ⟨a, v, rfl, upd_same, fun dx hdx hne => ⟨rfl, dx, [(d.fl, v)], upd_same, ?_, ?_, ?_⟩⟩⟩⟩
  · rw [upd_ne hne, upd_same]
  · rw [upd_ne hne] at hdx; exact hdx
  · rw [upd_ne hne] at hdx
    rw [upd_ini ha hne]
    exact q dx hdx
/-! ### the Hook: defs, facts, a Bool, the exceptions' defs -/
abbrev AlI : Type := (He.AlD × Bool) × List IniW
def obsIK (fa : List He.Fa) (fn : List He.DefD) (ins : List IniD) (ex : PySem.W.Frag → Bool) (K : PySem.W.Frag) : AlI := ((He.obsD fa fn K, ex K), ins.map fun d => iniW K d.cn)
def obsIG (n : Nat) (fa : List He.Fa) (fn : List He.DefD) (ins : List IniD) (ex : PySem.W.Frag → Bool) (g : Addr → Option Obj) : AlI := obsIK fa fn ins ex (He.frG g (cStatics :: He.asD g n))
def hookI (n : Nat) (fa : List He.Fa) (fn : List He.DefD) (ins : List IniD) (ex : PySem.W.Frag → Bool) : PySem.W.Hook where
  α := AlI
  obs := fun s => obsIG n fa fn ins ex s.heap.get?
  val := fun _ => ((He.valD fn, true), ins.map IniD.val)
  says := fun _ h => ∃ K : PySem.W.Frag, K.In h ∧ He.SaysD fa fn K ∧ ex K = true ∧ (ins.map fun d => iniW K d.cn) = ins.map IniD.val
  of := fun _ _ e => ⟨_, He.frG_in, congrArg (fun z : AlI => z.1.1) e, congrArg (fun z : AlI => z.1.2) e, congrArg (fun z : AlI => z.2) e⟩
  keeps := fun _ _ _ ⟨K, hK, c⟩ k => ⟨K, PySem.W.Frag.In.keeps hK k, c⟩
theorem obsIG_eq {n : Nat} {fa : List He.Fa} {fn : List He.DefD} {ins : List IniD} {ex : PySem.W.Frag → Bool} {g : Addr → Option Obj} {s : Shared} (h : ∀ a, g a = s.heap.get? a) : obsIG n fa fn ins ex g = (hookI n fa fn ins ex).obs s := by
  have e : g = s.heap.get? := funext h
  rw [e] <;> rfl
/-- what is asked of the top -/
def exI (cf : Cf) (sub : Nat → Nat → Bool) (P : Program) (ins : List IniD) (K : PySem.W.Frag) : Bool := topB cf sub K && (noLstB K && ins.all fun d => iniB P K d)
theorem law_F2 {fa : List He.Fa} {fn : List He.DefD} {cf : Cf} {sub : Nat → Nat → Bool} {P : Program} {d : He.DefD} {N : List Str} {x : Str} {k : Nat} {sp : SpD} {ms : MSs} {l : List Cal} {ins : List IniD} (i : Nat) (hd : fn[i]? = some d) (hat : d.at_ = (("law" : Str), none)) (hg : He.Fa.glo "law" ∈ fa)
    (D : DefOk cf sub d N [x] k sp ms l) (hcs : ∀ (w : World) (base : Heap) (G : Cfg), LW fa fn cf sub P w base G → ∀ c ∈ l, c.Ok P w G base)
    (good : ∀ d ∈ ins, IniD.Good P d) (hin : ∀ ei ∈ cf.et, ∀ f, ei.2 = some f → ∃ d ∈ ins, ei = (d.cn, some d.fl))
    (hsp : ∀ (M : Mem) (a : Addr) (ns : List Int) (Q : DK) (E : Ex → Mem → Prop), rdL M a = some (ns.map .int) → ns.length ≤ 63 → (∀ N, Q (.bl true) N) → sp [.obj a] M Q E)
    (w : World) (mg : Str → Option Value) (f : Addr) (h : Heap) (Y : ∃ K : PySem.W.Frag, K.In h ∧ He.SaysD fa fn K ∧ exI cf sub P ins K = true ∧ (ins.map fun d => iniW K d.cn) = ins.map IniD.val) (Gn : h.Ns mainGlobals mg) (hmg : mg ("law" : Str) = some (.ref f)) :
    ∃ (K : PySem.W.Frag) (fd : FuncData) (sp : Sp), K.In h ∧ (∀ (s : Shared) (u : Value), BindsTo s fd ⟨[u], []⟩ [(x, u)]) ∧
        (∀ (H : Hp) (a : Addr) (ns : List Int), ns.length ≤ 63 → Only H → SqL K H a (ns.map V.int) → sp [.ref a] H (fun v _ => v = .bl true) fun _ _ _ => False) ∧
        ∀ base : Heap, K.In base → base.Ns mainGlobals mg → FnOk P w K mg base (L2.CX P w) (k + 1) f fd [x] sp := by
  obtain ⟨K, KX, c, ex, ei⟩ := Y
  obtain ⟨ex1, ex2⟩ := He.ba ex
  obtain ⟨ex3, ex4⟩ := He.ba ex2
  obtain ⟨fd, F⟩ := c.def_ i hd
  have e1 : d.dvs K = [] := by unfold He.DefD.dvs; rw [D.dfl.1]; rfl
  have e2 : d.kws K = [] := by unfold He.DefD.kws; rw [D.dfl.2]; rfl
  rw [e1, e2] at F
  have ef : f = He.fAd K d.at_ := by
    have := hmg.symm.trans (He.glo_ok KX Gn (says_mem c hg))
    rw [hat]
    exact Value.ref.inj (Option.some.inj this)
  let G : Cfg := { toCf := cf, K := K, mg := mg, P := P, w := w }
  have b := FunD.bindsA (ps := [x]) F D.bd
  refine ⟨K, fd, liftSp G 1 sp, KX, fun s u => b s [u] rfl, fun H a ns hl hO hS => ?_, fun base KB GB => ?_⟩
  · obtain ⟨M, rm, ra⟩ := law_arg (G := G) ex3 hO hS
    refine ⟨[.obj a], M, fun d _ => d = .bl true, fun _ _ => False, rfl, RepL.one (RepD.obj.mpr rfl), rm, hsp _ _ _ _ _ ra hl (fun _ => rfl), fun d M' H' v e r _ _ => ?_, fun _ _ _ _ _ z => z.elim⟩
    subst e
    exact RepD.bl.mp r
  · have T : TopOk P w base G sub (fdOf cf) := topB_ok (G := G) KB GB ex1 ⟨rfl, rfl⟩ fun ei hei f hf => by
      obtain ⟨d', hd', e⟩ := hin ei hei f hf
      subst e
      have ev : iniW K d'.cn = d'.val := by
        obtain ⟨j, hj, e⟩ := List.mem_iff_getElem.mp hd'
        have e3 : (ins.map fun d => iniW K d.cn)[j]? = (ins.map IniD.val)[j]? := by rw [‹(ins.map fun d => iniW K d.cn) = ins.map IniD.val›]
        rw [List.getElem?_map, List.getElem?_map, List.getElem?_eq_getElem hj, e] at e3
        exact Option.some.inj e3
      exact ini_ex (G := G) KB GB (good d' hd') ev (List.all_eq_true.mp ex4 d' hd')
    have L : LW fa fn cf sub P w base G := ⟨c, KB, GB, rfl, T⟩
    rw [ef]
    exact def_ok (G := G) T F D.sc D.chk (hcs w base G L) D.lev D.three D.sp
end DL
set_option Elab.async false
set_option linter.all false
set_option maxRecDepth 100000
set_option maxHeartbeats 0
namespace H54
open PySem PySem.Spec PyProof.Rows L2 DL
def top (i : Nat) : Stmt := PySem.Challenge.pw_keptlengths_k54_whole_things_as_texts.main.body.getD i (.Pass ⟨0, 0, 0, 0⟩)
def s_is_integer : Stmt := top 5
def d_is_integer : He.DefD := ⟨("is_integer", none), "is_integer", "is_integer", defArgs s_is_integer, defBody s_is_integer, defScope s_is_integer, [], []⟩
def s_is_sign : Stmt := top 13
def d_is_sign : He.DefD := ⟨("is_sign", none), "is_sign", "is_sign", defArgs s_is_sign, defBody s_is_sign, defScope s_is_sign, [], []⟩
def s_is_signs : Stmt := top 14
def d_is_signs : He.DefD := ⟨("is_signs", none), "is_signs", "is_signs", defArgs s_is_signs, defBody s_is_signs, defScope s_is_signs, [], []⟩
def s_is_thing : Stmt := top 15
def d_is_thing : He.DefD := ⟨("is_thing", none), "is_thing", "is_thing", defArgs s_is_thing, defBody s_is_thing, defScope s_is_thing, [], []⟩
def s_raw_packed : Stmt := top 16
def d_raw_packed : He.DefD := ⟨("raw_packed", none), "raw_packed", "raw_packed", defArgs s_raw_packed, defBody s_raw_packed, defScope s_raw_packed, [], []⟩
def s_thing_text : Stmt := top 17
def d_thing_text : He.DefD := ⟨("thing_text", none), "thing_text", "thing_text", defArgs s_thing_text, defBody s_thing_text, defScope s_thing_text, [], []⟩
def s_Reader___init__ : Stmt := inClass (top 18) 0
def d_Reader___init__ : He.DefD := ⟨("Reader", some "__init__"), "__init__", "Reader.__init__", defArgs s_Reader___init__, defBody s_Reader___init__, defScope s_Reader___init__, [], []⟩
def s_Reader_wrong : Stmt := inClass (top 18) 1
def d_Reader_wrong : He.DefD := ⟨("Reader", some "wrong"), "wrong", "Reader.wrong", defArgs s_Reader_wrong, defBody s_Reader_wrong, defScope s_Reader_wrong, [], []⟩
def s_Reader_sign : Stmt := inClass (top 18) 2
def d_Reader_sign : He.DefD := ⟨("Reader", some "sign"), "sign", "Reader.sign", defArgs s_Reader_sign, defBody s_Reader_sign, defScope s_Reader_sign, [], []⟩
def s_Reader_figures : Stmt := inClass (top 18) 3
def d_Reader_figures : He.DefD := ⟨("Reader", some "figures"), "figures", "Reader.figures", defArgs s_Reader_figures, defBody s_Reader_figures, defScope s_Reader_figures, [], []⟩
def s_Reader_integer : Stmt := inClass (top 18) 4
def d_Reader_integer : He.DefD := ⟨("Reader", some "integer"), "integer", "Reader.integer", defArgs s_Reader_integer, defBody s_Reader_integer, defScope s_Reader_integer, [], []⟩
def s_Reader_string : Stmt := inClass (top 18) 5
def d_Reader_string : He.DefD := ⟨("Reader", some "string"), "string", "Reader.string", defArgs s_Reader_string, defBody s_Reader_string, defScope s_Reader_string, [], []⟩
def s_Reader_plain : Stmt := inClass (top 18) 6
def d_Reader_plain : He.DefD := ⟨("Reader", some "plain"), "plain", "Reader.plain", defArgs s_Reader_plain, defBody s_Reader_plain, defScope s_Reader_plain, [], []⟩
def s_Reader_enter_tuples : Stmt := inClass (top 18) 7
def d_Reader_enter_tuples : He.DefD := ⟨("Reader", some "enter_tuples"), "enter_tuples", "Reader.enter_tuples", defArgs s_Reader_enter_tuples, defBody s_Reader_enter_tuples, defScope s_Reader_enter_tuples, [], []⟩
def s_Reader_read : Stmt := inClass (top 18) 8
def d_Reader_read : He.DefD := ⟨("Reader", some "read"), "read", "Reader.read", defArgs s_Reader_read, defBody s_Reader_read, defScope s_Reader_read, [], []⟩
def s_read_thing : Stmt := top 19
def d_read_thing : He.DefD := ⟨("read_thing", none), "read_thing", "read_thing", defArgs s_read_thing, defBody s_read_thing, defScope s_read_thing, [], []⟩
def s__law_hand : Stmt := top 21
def d__law_hand : He.DefD := ⟨("_law_hand", none), "_law_hand", "_law_hand", defArgs s__law_hand, defBody s__law_hand, defScope s__law_hand, [], []⟩
def s__law_draw : Stmt := top 22
def d__law_draw : He.DefD := ⟨("_law_draw", none), "_law_draw", "_law_draw", defArgs s__law_draw, defBody s__law_draw, defScope s__law_draw, [], []⟩
def s__law_any : Stmt := top 23
def d__law_any : He.DefD := ⟨("_law_any", none), "_law_any", "_law_any", defArgs s__law_any, defBody s__law_any, defScope s__law_any, [], []⟩
def s__law_word : Stmt := top 24
def d__law_word : He.DefD := ⟨("_law_word", none), "_law_word", "_law_word", defArgs s__law_word, defBody s__law_word, defScope s__law_word, [], []⟩
def s__law_thing : Stmt := top 25
def d__law_thing : He.DefD := ⟨("_law_thing", none), "_law_thing", "_law_thing", defArgs s__law_thing, defBody s__law_thing, defScope s__law_thing, [], []⟩
def s__law_nested : Stmt := top 26
def d__law_nested : He.DefD := ⟨("_law_nested", none), "_law_nested", "_law_nested", defArgs s__law_nested, defBody s__law_nested, defScope s__law_nested, [], []⟩
def s__law_packed : Stmt := top 27
def d__law_packed : He.DefD := ⟨("_law_packed", none), "_law_packed", "_law_packed", defArgs s__law_packed, defBody s__law_packed, defScope s__law_packed, [], []⟩
def s__law_first_wrong : Stmt := top 28
def d__law_first_wrong : He.DefD := ⟨("_law_first_wrong", none), "_law_first_wrong", "_law_first_wrong", defArgs s__law_first_wrong, defBody s__law_first_wrong, defScope s__law_first_wrong, [], []⟩
def s__law_read_string : Stmt := top 29
def d__law_read_string : He.DefD := ⟨("_law_read_string", none), "_law_read_string", "_law_read_string", defArgs s__law_read_string, defBody s__law_read_string, defScope s__law_read_string, [], []⟩
def s__law_read_integer : Stmt := top 30
def d__law_read_integer : He.DefD := ⟨("_law_read_integer", none), "_law_read_integer", "_law_read_integer", defArgs s__law_read_integer, defBody s__law_read_integer, defScope s__law_read_integer, [], []⟩
def s__law_read_tuple : Stmt := top 31
def d__law_read_tuple : He.DefD := ⟨("_law_read_tuple", none), "_law_read_tuple", "_law_read_tuple", defArgs s__law_read_tuple, defBody s__law_read_tuple, defScope s__law_read_tuple, [], []⟩
def s__law_unpacked : Stmt := top 32
def d__law_unpacked : He.DefD := ⟨("_law_unpacked", none), "_law_unpacked", "_law_unpacked", defArgs s__law_unpacked, defBody s__law_unpacked, defScope s__law_unpacked, [], []⟩
def s__law_changed : Stmt := top 33
def d__law_changed : He.DefD := ⟨("_law_changed", none), "_law_changed", "_law_changed", defArgs s__law_changed, defBody s__law_changed, defScope s__law_changed, [], []⟩
def s__law_deep : Stmt := top 34
def d__law_deep : He.DefD := ⟨("_law_deep", none), "_law_deep", "_law_deep", defArgs s__law_deep, defBody s__law_deep, defScope s__law_deep, [], []⟩
def s__law_told : Stmt := top 35
def d__law_told : He.DefD := ⟨("_law_told", none), "_law_told", "_law_told", defArgs s__law_told, defBody s__law_told, defScope s__law_told, [], []⟩
def s__law_is_none : Stmt := top 36
def d__law_is_none : He.DefD := ⟨("_law_is_none", none), "_law_is_none", "_law_is_none", defArgs s__law_is_none, defBody s__law_is_none, defScope s__law_is_none, [], []⟩
def s__law_is_plain : Stmt := top 37
def d__law_is_plain : He.DefD := ⟨("_law_is_plain", none), "_law_is_plain", "_law_is_plain", defArgs s__law_is_plain, defBody s__law_is_plain, defScope s__law_is_plain, [], []⟩
def s_law : Stmt := top 38
def d_law : He.DefD := ⟨("law", none), "law", "law", defArgs s_law, defBody s_law, defScope s_law, [], []⟩
def fn : List He.DefD := [d_is_integer, d_is_sign, d_is_signs, d_is_thing, d_raw_packed, d_thing_text, d_Reader___init__, d_Reader_wrong, d_Reader_sign, d_Reader_figures, d_Reader_integer, d_Reader_string, d_Reader_plain, d_Reader_enter_tuples, d_Reader_read, d_read_thing, d__law_hand, d__law_draw, d__law_any, d__law_word, d__law_thing, d__law_nested, d__law_packed, d__law_first_wrong, d__law_read_string, d__law_read_integer, d__law_read_tuple, d__law_unpacked, d__law_changed, d__law_deep, d__law_told, d__law_is_none, d__law_is_plain, d_law]
def fa : List He.Fa := [.glo "is_integer", .glo "is_sign", .glo "is_signs", .glo "is_thing", .glo "raw_packed", .glo "thing_text", .glo "Reader", .cls "Reader", .mkr "Reader", .meth "Reader" "wrong", .meth "Reader" "sign", .meth "Reader" "figures", .meth "Reader" "integer", .meth "Reader" "string", .meth "Reader" "plain", .meth "Reader" "enter_tuples", .meth "Reader" "read", .glo "read_thing", .glo "_law_hand", .glo "_law_draw", .glo "_law_any", .glo "_law_word", .glo "_law_thing", .glo "_law_nested", .glo "_law_packed", .glo "_law_first_wrong", .glo "_law_read_string", .glo "_law_read_integer", .glo "_law_read_tuple", .glo "_law_unpacked", .glo "_law_changed", .glo "_law_deep", .glo "_law_told", .glo "_law_is_none", .glo "_law_is_plain", .glo "law"]
def names0 : List Str := ["LengthError", "NoThing", "BadText", "is_integer", "MOST_DEEP", "MOST_DIGITS", "GREATEST", "FIGURES", "QUOTE", "ESCAPE", "is_sign", "is_signs", "is_thing", "raw_packed", "thing_text", "Reader", "read_thing", "_law_hand", "_law_draw", "_law_any", "_law_word", "_law_thing", "_law_nested", "_law_packed", "_law_first_wrong", "_law_read_string", "_law_read_integer", "_law_read_tuple", "_law_unpacked", "_law_changed"]
def names1 : List Str := ["_law_deep", "_law_told", "_law_is_none", "_law_is_plain"]
def names : List Str := names0 ++ names1
def cf : Cf where
  ct := [("Reader", ["text", "place", "levels"])]
  et := [("LengthError", none), ("NoThing", none), ("BadText", some "place")]
  fb := ["ValueError", "abs", "all", "bool", "int", "isinstance", "len", "range", "str", "super", "tuple"]
  gl := [("MOST_DEEP", .int 30), ("MOST_DIGITS", .int 30), ("GREATEST", .int 999999999999999999999999999999), ("FIGURES", .str [48, 49, 50, 51, 52, 53, 54, 55, 56, 57]), ("QUOTE", .str [39]), ("ESCAPE", .str [126])]
def subL : List (List Bool) := [[true, false, false], [true, true, false], [true, false, true]]
def sub (a b : Nat) : Bool := ((subL[a]?.getD [])[b]?).getD false
abbrev R : PySem.W.OpenRow := PySem.W.OpenLaw.row PySem.Challenge.rw_keptlengths_k54_whole_things_as_texts
abbrev hk : PySem.W.Hook := hookE 4 fa fn (topB cf sub)
def ob (s : PySem.W.SharedT) : He.AlD × Bool := obsEG 4 fa fn (topB cf sub) (HandSHeadRun.getT s)
theorem ob_eq (s : PySem.W.SharedT) : ob s = hk.obs s.abs := obsEG_eq (HandSHeadRun.getT_eq s)
def ilaw : Nat := 38
abbrev C_is_integer (k : Nat) (sp : SpD) : Cal := ⟨.fn, "is_integer", 1, k, sp⟩
abbrev C_is_sign (k : Nat) (sp : SpD) : Cal := ⟨.fn, "is_sign", 1, k, sp⟩
abbrev C_is_signs (k : Nat) (sp : SpD) : Cal := ⟨.fn, "is_signs", 1, k, sp⟩
abbrev C_is_thing (k : Nat) (sp : SpD) : Cal := ⟨.fn, "is_thing", 2, k, sp⟩
abbrev C_raw_packed (k : Nat) (sp : SpD) : Cal := ⟨.fn, "raw_packed", 1, k, sp⟩
abbrev C_thing_text (k : Nat) (sp : SpD) : Cal := ⟨.fn, "thing_text", 1, k, sp⟩
abbrev C_Reader___init__ (k : Nat) (sp : SpD) : Cal := ⟨(.mk 0), "Reader", 2, k, sp⟩
abbrev C_Reader_wrong (k : Nat) (sp : SpD) : Cal := ⟨(.me 0), "wrong", 1, k, sp⟩
abbrev C_Reader_sign (k : Nat) (sp : SpD) : Cal := ⟨(.me 0), "sign", 1, k, sp⟩
abbrev C_Reader_figures (k : Nat) (sp : SpD) : Cal := ⟨(.me 0), "figures", 1, k, sp⟩
abbrev C_Reader_integer (k : Nat) (sp : SpD) : Cal := ⟨(.me 0), "integer", 1, k, sp⟩
abbrev C_Reader_string (k : Nat) (sp : SpD) : Cal := ⟨(.me 0), "string", 1, k, sp⟩
abbrev C_Reader_plain (k : Nat) (sp : SpD) : Cal := ⟨(.me 0), "plain", 1, k, sp⟩
abbrev C_Reader_enter_tuples (k : Nat) (sp : SpD) : Cal := ⟨(.me 0), "enter_tuples", 1, k, sp⟩
abbrev C_Reader_read (k : Nat) (sp : SpD) : Cal := ⟨(.me 0), "read", 1, k, sp⟩
abbrev C_read_thing (k : Nat) (sp : SpD) : Cal := ⟨.fn, "read_thing", 1, k, sp⟩
abbrev C__law_hand (k : Nat) (sp : SpD) : Cal := ⟨.fn, "_law_hand", 1, k, sp⟩
abbrev C__law_draw (k : Nat) (sp : SpD) : Cal := ⟨.fn, "_law_draw", 2, k, sp⟩
abbrev C__law_any (k : Nat) (sp : SpD) : Cal := ⟨.fn, "_law_any", 2, k, sp⟩
abbrev C__law_word (k : Nat) (sp : SpD) : Cal := ⟨.fn, "_law_word", 1, k, sp⟩
abbrev C__law_thing (k : Nat) (sp : SpD) : Cal := ⟨.fn, "_law_thing", 2, k, sp⟩
abbrev C__law_nested (k : Nat) (sp : SpD) : Cal := ⟨.fn, "_law_nested", 2, k, sp⟩
abbrev C__law_packed (k : Nat) (sp : SpD) : Cal := ⟨.fn, "_law_packed", 1, k, sp⟩
abbrev C__law_first_wrong (k : Nat) (sp : SpD) : Cal := ⟨.fn, "_law_first_wrong", 3, k, sp⟩
abbrev C__law_read_string (k : Nat) (sp : SpD) : Cal := ⟨.fn, "_law_read_string", 2, k, sp⟩
abbrev C__law_read_integer (k : Nat) (sp : SpD) : Cal := ⟨.fn, "_law_read_integer", 2, k, sp⟩
abbrev C__law_read_tuple (k : Nat) (sp : SpD) : Cal := ⟨.fn, "_law_read_tuple", 3, k, sp⟩
abbrev C__law_unpacked (k : Nat) (sp : SpD) : Cal := ⟨.fn, "_law_unpacked", 1, k, sp⟩
abbrev C__law_changed (k : Nat) (sp : SpD) : Cal := ⟨.fn, "_law_changed", 2, k, sp⟩
abbrev C__law_deep (k : Nat) (sp : SpD) : Cal := ⟨.fn, "_law_deep", 1, k, sp⟩
abbrev C__law_told (k : Nat) (sp : SpD) : Cal := ⟨.fn, "_law_told", 1, k, sp⟩
abbrev C__law_is_none (k : Nat) (sp : SpD) : Cal := ⟨.fn, "_law_is_none", 1, k, sp⟩
abbrev C__law_is_plain (k : Nat) (sp : SpD) : Cal := ⟨.fn, "_law_is_plain", 1, k, sp⟩
abbrev C_law (k : Nat) (sp : SpD) : Cal := ⟨.fn, "law", 1, k, sp⟩
def N_is_integer : List Str := ["thing"]
def m_is_integer : MSs := (.cons (.ret (.bo true (.cons (.isi (.var 0) "int") (.cons (.not (.isi (.var 0) "bool")) .nil))))
  .nil)
theorem k_is_integer : chkSs m_is_integer ⟨cf, ⟨[], sub, fdOf cf⟩, N_is_integer, d_is_integer.scope, fun _ => true, false⟩ d_is_integer.body = true := by kernel_rfl
def N_is_sign : List Str := ["sign"]
def m_is_sign : MSs := (.cons (.ret (.chn .LtE .LtE (.lit (.str [32])) (.var 0) (.lit (.str [126]))))
  .nil)
theorem k_is_sign : chkSs m_is_sign ⟨cf, ⟨[], sub, fdOf cf⟩, N_is_sign, d_is_sign.scope, fun _ => true, false⟩ d_is_sign.body = true := by kernel_rfl
def N_is_signs : List Str := ["thing", "sign"]
def m_is_signs : MSs := (.cons (.ret (.bo true (.cons (.isi (.var 0) "str") (.cons (.bi .all (.cons (.lc (.call 0 (.cons (.var 1) .nil)) (.name 1) (.of (.var 0)) .nil [("sign", 1)]) .nil)) .nil))))
  .nil)
theorem k_is_signs (k0 : Nat) (p0 : SpD) : chkSs m_is_signs ⟨cf, ⟨[C_is_sign k0 p0], sub, fdOf cf⟩, N_is_signs, d_is_signs.scope, fun _ => true, false⟩ d_is_signs.body = true := by kernel_rfl
def N_is_thing : List Str := ["thing", "deep", "item"]
def m_is_thing : MSs := (.cons (.ifS (.val (.isi (.var 0) "tuple")) (.cons (.ret (.bo true (.cons (.cmp .Gt (.var 1) (.lit (.int 0))) (.cons (.bi .all (.cons (.lc (.call 0 (.cons (.var 2) (.cons (.bin .Sub (.var 1) (.lit (.int 1))) .nil))) (.name 2) (.of (.var 0)) .nil [("item", 2)]) .nil)) .nil))))
  .nil) .nil)
  (.cons (.ifS (.val (.call 1 (.cons (.var 0) .nil))) (.cons (.ret (.chn .LtE .LtE (.neg (.glb 2 (.int 999999999999999999999999999999))) (.var 0) (.glb 2 (.int 999999999999999999999999999999))))
  .nil) .nil)
  (.cons (.ret (.bo false (.cons (.cmp .Is (.var 0) (.lit .non)) (.cons (.call 2 (.cons (.var 0) .nil)) .nil))))
  .nil)))
theorem k_is_thing (k0 k1 k2 : Nat) (p0 p1 p2 : SpD) : chkSs m_is_thing ⟨cf, ⟨[C_is_thing k0 p0, C_is_integer k1 p1, C_is_signs k2 p2], sub, fdOf cf⟩, N_is_thing, d_is_thing.scope, fun _ => true, false⟩ d_is_thing.body = true := by kernel_rfl
def N_raw_packed : List Str := ["thing", "sign", "item"]
def m_raw_packed : MSs := (.cons (.ifS (.cmp .Is (.var 0) (.lit .non)) (.cons (.ret (.lit (.str [46])))
  .nil) .nil)
  (.cons (.ifS (.val (.isi (.var 0) "str")) (.cons (.ret (.bin .Add (.bin .Add (.glb 4 (.str [39])) (.bm .join (.lit (.str [])) (.cons (.lc (.ite (.cmp .In (.var 1) (.tup (.cons (.glb 4 (.str [39])) (.cons (.glb 5 (.str [126])) .nil)))) (.bin .Add (.glb 5 (.str [126])) (.var 1)) (.var 1)) (.name 1) (.of (.var 0)) .nil [("sign", 1)]) .nil))) (.glb 4 (.str [39]))))
  .nil) .nil)
  (.cons (.ifS (.val (.isi (.var 0) "tuple")) (.cons (.ret (.bin .Add (.bin .Add (.lit (.str [40])) (.bm .join (.lit (.str [44])) (.cons (.lc (.call 0 (.cons (.var 2) .nil)) (.name 2) (.of (.var 0)) .nil [("item", 2)]) .nil))) (.lit (.str [41]))))
  .nil) .nil)
  (.cons (.ret (.bi .str (.cons (.var 0) .nil)))
  .nil))))
theorem k_raw_packed (k0 : Nat) (p0 : SpD) : chkSs m_raw_packed ⟨cf, ⟨[C_raw_packed k0 p0], sub, fdOf cf⟩, N_raw_packed, d_raw_packed.scope, fun _ => true, false⟩ d_raw_packed.body = true := by kernel_rfl
def N_thing_text : List Str := ["thing"]
def m_thing_text : MSs := (.cons (.ifS (.not (.val (.call 0 (.cons (.var 0) (.cons (.glb 0 (.int 30)) .nil))))) (.cons (.rse 1 .nil)
  .nil) .nil)
  (.cons (.ret (.call 1 (.cons (.var 0) .nil)))
  .nil))
theorem k_thing_text (k0 k1 : Nat) (p0 p1 : SpD) : chkSs m_thing_text ⟨cf, ⟨[C_is_thing k0 p0, C_raw_packed k1 p1], sub, fdOf cf⟩, N_thing_text, d_thing_text.scope, fun _ => true, false⟩ d_thing_text.body = true := by kernel_rfl
def N_Reader___init__ : List Str := ["self", "text"]
def m_Reader___init__ : MSs := (.cons (.setF 0 0 (.var 0) (.var 1))
  (.cons (.setF 0 1 (.var 0) (.lit (.int 0)))
  (.cons (.setF 0 2 (.var 0) (.lst .nil))
  .nil)))
theorem k_Reader___init__ : chkSs m_Reader___init__ ⟨cf, ⟨[], sub, fdOf cf⟩, N_Reader___init__, d_Reader___init__.scope, fun _ => true, false⟩ d_Reader___init__.body = true := by kernel_rfl
def N_Reader_wrong : List Str := ["self"]
def m_Reader_wrong : MSs := (.cons (.rse 2 (.cons (.fld 0 1 (.var 0)) .nil))
  .nil)
theorem k_Reader_wrong : chkSs m_Reader_wrong ⟨cf, ⟨[], sub, fdOf cf⟩, N_Reader_wrong, d_Reader_wrong.scope, fun _ => true, false⟩ d_Reader_wrong.body = true := by kernel_rfl
def N_Reader_sign : List Str := ["self"]
def m_Reader_sign : MSs := (.cons (.ret (.slc (.fld 0 0 (.var 0)) (.cons (.fld 0 1 (.var 0)) .nil) (.cons (.bin .Add (.fld 0 1 (.var 0)) (.lit (.int 1))) .nil)))
  .nil)
theorem k_Reader_sign : chkSs m_Reader_sign ⟨cf, ⟨[], sub, fdOf cf⟩, N_Reader_sign, d_Reader_sign.scope, fun _ => true, false⟩ d_Reader_sign.body = true := by kernel_rfl
def N_Reader_figures : List Str := ["self", "begin"]
def m_Reader_figures : MSs := (.cons (.set (.name 1) (.fld 0 1 (.var 0)))
  (.cons (.whl (.bo true (.cons (.cmp .NotEq (.meth 0 (.var 0) .nil) (.lit (.str []))) (.cons (.cmp .In (.meth 0 (.var 0) .nil) (.glb 3 (.str [48, 49, 50, 51, 52, 53, 54, 55, 56, 57]))) (.cons (.cmp .Lt (.bin .Sub (.fld 0 1 (.var 0)) (.var 1)) (.glb 1 (.int 30))) .nil)))) (.cons (.augF 0 1 (.var 0) .Add (.lit (.int 1)))
  (.cons (.ifS (.cmp .Eq (.idx (.fld 0 0 (.var 0)) (.var 1)) (.lit (.str [48]))) (.cons .brk
  .nil) .nil)
  .nil)))
  (.cons (.ret (.slc (.fld 0 0 (.var 0)) (.cons (.var 1) .nil) (.cons (.fld 0 1 (.var 0)) .nil)))
  .nil)))
theorem k_Reader_figures (k0 : Nat) (p0 : SpD) : chkSs m_Reader_figures ⟨cf, ⟨[C_Reader_sign k0 p0], sub, fdOf cf⟩, N_Reader_figures, d_Reader_figures.scope, fun _ => true, false⟩ d_Reader_figures.body = true := by kernel_rfl
def N_Reader_integer : List Str := ["self", "ahead", "told"]
def m_Reader_integer : MSs := (.cons (.set (.name 1) (.lit (.str [])))
  (.cons (.ifS (.cmp .Eq (.meth 0 (.var 0) .nil) (.lit (.str [45]))) (.cons (.set (.name 1) (.lit (.str [45])))
  (.cons (.augF 0 1 (.var 0) .Add (.lit (.int 1)))
  (.cons (.ifS (.cmp .Eq (.meth 0 (.var 0) .nil) (.lit (.str [48]))) (.cons (.ex (.meth 1 (.var 0) .nil))
  .nil) .nil)
  .nil))) .nil)
  (.cons (.set (.name 2) (.meth 2 (.var 0) .nil))
  (.cons (.ifS (.cmp .Eq (.var 2) (.lit (.str []))) (.cons (.ex (.meth 1 (.var 0) .nil))
  .nil) .nil)
  (.cons (.ret (.bi .int (.cons (.bin .Add (.var 1) (.var 2)) .nil)))
  .nil)))))
theorem k_Reader_integer (k0 k1 k2 : Nat) (p0 p1 p2 : SpD) : chkSs m_Reader_integer ⟨cf, ⟨[C_Reader_sign k0 p0, C_Reader_wrong k1 p1, C_Reader_figures k2 p2], sub, fdOf cf⟩, N_Reader_integer, d_Reader_integer.scope, fun _ => true, false⟩ d_Reader_integer.body = true := by kernel_rfl
def N_Reader_string : List Str := ["self", "found"]
def m_Reader_string : MSs := (.cons (.set (.name 1) (.lst .nil))
  (.cons (.whl (.cmp .NotEq (.meth 0 (.var 0) .nil) (.glb 4 (.str [39]))) (.cons (.ifS (.cmp .Eq (.meth 0 (.var 0) .nil) (.glb 5 (.str [126]))) (.cons (.augF 0 1 (.var 0) .Add (.lit (.int 1)))
  (.cons (.ifS (.cmp .NotIn (.meth 0 (.var 0) .nil) (.tup (.cons (.glb 4 (.str [39])) (.cons (.glb 5 (.str [126])) .nil)))) (.cons (.ex (.meth 1 (.var 0) .nil))
  .nil) .nil)
  .nil)) .nil)
  (.cons (.ifS (.bo false (.cons (.cmp .Eq (.meth 0 (.var 0) .nil) (.lit (.str []))) (.cons (.not (.val (.call 2 (.cons (.meth 0 (.var 0) .nil) .nil)))) .nil))) (.cons (.ex (.meth 1 (.var 0) .nil))
  .nil) .nil)
  (.cons (.ex (.bm .append (.var 1) (.cons (.meth 0 (.var 0) .nil) .nil)))
  (.cons (.augF 0 1 (.var 0) .Add (.lit (.int 1)))
  .nil)))))
  (.cons (.augF 0 1 (.var 0) .Add (.lit (.int 1)))
  (.cons (.ret (.bm .join (.lit (.str [])) (.cons (.var 1) .nil)))
  .nil))))
theorem k_Reader_string (k0 k1 k2 : Nat) (p0 p1 p2 : SpD) : chkSs m_Reader_string ⟨cf, ⟨[C_Reader_sign k0 p0, C_Reader_wrong k1 p1, C_is_sign k2 p2], sub, fdOf cf⟩, N_Reader_string, d_Reader_string.scope, fun _ => true, false⟩ d_Reader_string.body = true := by kernel_rfl
def N_Reader_plain : List Str := ["self"]
def m_Reader_plain : MSs := (.cons (.ifS (.cmp .Eq (.meth 0 (.var 0) .nil) (.lit (.str [46]))) (.cons (.augF 0 1 (.var 0) .Add (.lit (.int 1)))
  (.cons (.ret (.lit .non))
  .nil)) .nil)
  (.cons (.ifS (.cmp .Eq (.meth 0 (.var 0) .nil) (.glb 4 (.str [39]))) (.cons (.augF 0 1 (.var 0) .Add (.lit (.int 1)))
  (.cons (.ret (.meth 1 (.var 0) .nil))
  .nil)) .nil)
  (.cons (.ret (.meth 2 (.var 0) .nil))
  .nil)))
theorem k_Reader_plain (k0 k1 k2 : Nat) (p0 p1 p2 : SpD) : chkSs m_Reader_plain ⟨cf, ⟨[C_Reader_sign k0 p0, C_Reader_string k1 p1, C_Reader_integer k2 p2], sub, fdOf cf⟩, N_Reader_plain, d_Reader_plain.scope, fun _ => true, false⟩ d_Reader_plain.body = true := by kernel_rfl
def N_Reader_enter_tuples : List Str := ["self"]
def m_Reader_enter_tuples : MSs := (.cons (.whl (.cmp .Eq (.meth 0 (.var 0) .nil) (.lit (.str [40]))) (.cons (.ifS (.cmp .Eq (.bi .len (.cons (.fld 0 2 (.var 0)) .nil)) (.glb 0 (.int 30))) (.cons (.ex (.meth 1 (.var 0) .nil))
  .nil) .nil)
  (.cons (.ex (.bm .append (.fld 0 2 (.var 0)) (.cons (.lst .nil) .nil)))
  (.cons (.augF 0 1 (.var 0) .Add (.lit (.int 1)))
  (.cons (.ifS (.cmp .Eq (.meth 0 (.var 0) .nil) (.lit (.str [41]))) (.cons (.augF 0 1 (.var 0) .Add (.lit (.int 1)))
  (.cons (.ret (.lit (.bl true)))
  .nil)) .nil)
  .nil)))))
  (.cons (.ret (.lit (.bl false)))
  .nil))
theorem k_Reader_enter_tuples (k0 k1 : Nat) (p0 p1 : SpD) : chkSs m_Reader_enter_tuples ⟨cf, ⟨[C_Reader_sign k0 p0, C_Reader_wrong k1 p1], sub, fdOf cf⟩, N_Reader_enter_tuples, d_Reader_enter_tuples.scope, fun _ => true, false⟩ d_Reader_enter_tuples.body = true := by kernel_rfl
def N_Reader_read : List Str := ["self", "told"]
def m_Reader_read : MSs := (.cons (.whl (.val (.lit (.bl true))) (.cons (.set (.name 1) (.ite (.val (.meth 0 (.var 0) .nil)) (.bi .tuple (.cons (.bm .pop (.fld 0 2 (.var 0)) .nil) .nil)) (.meth 1 (.var 0) .nil)))
  (.cons (.whl (.cmp .Gt (.bi .len (.cons (.fld 0 2 (.var 0)) .nil)) (.lit (.int 0))) (.cons (.ex (.bm .append (.idx (.fld 0 2 (.var 0)) (.neg (.lit (.int 1)))) (.cons (.var 1) .nil)))
  (.cons (.ifS (.cmp .NotEq (.meth 2 (.var 0) .nil) (.lit (.str [41]))) (.cons .brk
  .nil) .nil)
  (.cons (.set (.name 1) (.bi .tuple (.cons (.bm .pop (.fld 0 2 (.var 0)) .nil) .nil)))
  (.cons (.augF 0 1 (.var 0) .Add (.lit (.int 1)))
  .nil)))))
  (.cons (.ifS (.cmp .Eq (.bi .len (.cons (.fld 0 2 (.var 0)) .nil)) (.lit (.int 0))) (.cons (.ifS (.cmp .NotEq (.meth 2 (.var 0) .nil) (.lit (.str []))) (.cons (.ex (.meth 3 (.var 0) .nil))
  .nil) .nil)
  (.cons (.ret (.var 1))
  .nil)) .nil)
  (.cons (.ifS (.cmp .NotEq (.meth 2 (.var 0) .nil) (.lit (.str [44]))) (.cons (.ex (.meth 3 (.var 0) .nil))
  .nil) .nil)
  (.cons (.augF 0 1 (.var 0) .Add (.lit (.int 1)))
  .nil))))))
  .nil)
theorem k_Reader_read (k0 k1 k2 k3 : Nat) (p0 p1 p2 p3 : SpD) : chkSs m_Reader_read ⟨cf, ⟨[C_Reader_enter_tuples k0 p0, C_Reader_plain k1 p1, C_Reader_sign k2 p2, C_Reader_wrong k3 p3], sub, fdOf cf⟩, N_Reader_read, d_Reader_read.scope, fun _ => true, false⟩ d_Reader_read.body = true := by kernel_rfl
def N_read_thing : List Str := ["text"]
def m_read_thing : MSs := (.cons (.ifS (.not (.val (.isi (.var 0) "str"))) (.cons (.rse 2 (.cons (.neg (.lit (.int 1))) .nil))
  .nil) .nil)
  (.cons (.ret (.meth 0 (.make 1 (.cons (.var 0) .nil)) .nil))
  .nil))
theorem k_read_thing (k0 k1 : Nat) (p0 p1 : SpD) : chkSs m_read_thing ⟨cf, ⟨[C_Reader_read k0 p0, C_Reader___init__ k1 p1], sub, fdOf cf⟩, N_read_thing, d_read_thing.scope, fun _ => true, false⟩ d_read_thing.body = true := by kernel_rfl
def N__law_hand : List Str := ["_law_script", "_law_cells", "_law_cell"]
def m__law_hand : MSs := (.cons (.set (.name 1) (.lc (.bi .abs (.cons (.bi .int (.cons (.var 2) .nil)) .nil)) (.name 2) (.of (.slc (.var 0) .nil (.cons (.lit (.int 63)) .nil))) .nil [("_law_cell", 2)]))
  (.cons (.ret (.lst (.cons (.var 1) (.cons (.lit (.int 0)) (.cons (.lit (.int 0)) (.cons (.bin .Add (.lit (.int 1)) (.bi .len (.cons (.var 1) .nil))) (.cons (.lit (.int 0)) .nil)))))))
  .nil))
theorem k__law_hand : chkSs m__law_hand ⟨cf, ⟨[], sub, fdOf cf⟩, N__law_hand, d__law_hand.scope, fun _ => true, false⟩ d__law_hand.body = true := by kernel_rfl
def N__law_draw : List Str := ["_law_hand_here", "_law_many", "_law_cell", "_law_digit", "_law_number"]
def m__law_draw : MSs := (.cons (.ifS (.bo true (.cons (.cmp .Eq (.idx (.var 0) (.lit (.int 2))) (.lit (.int 0))) (.cons (.cmp .Lt (.idx (.var 0) (.lit (.int 1))) (.bi .len (.cons (.idx (.var 0) (.lit (.int 0))) .nil))) .nil))) (.cons (.set (.name 2) (.idx (.idx (.var 0) (.lit (.int 0))) (.idx (.var 0) (.lit (.int 1)))))
  (.cons (.setI (.var 0) (.lit (.int 1)) (.bin .Add (.idx (.var 0) (.lit (.int 1))) (.lit (.int 1))))
  (.cons (.setI (.var 0) (.lit (.int 3)) (.bin .Mod (.bi .int (.cons (.bin .Add (.bin .Add (.bin .Mult (.idx (.var 0) (.lit (.int 3))) (.lit (.int 69621))) (.var 2)) (.lit (.int 11))) .nil)) (.lit (.int 2147483629))))
  (.cons (.ifS (.cmp .GtE (.var 2) (.bin .Pow (.lit (.int 10)) (.lit (.int 18)))) (.cons (.setI (.var 0) (.lit (.int 2)) (.var 2))
  .nil) .nil)
  .nil)))) .nil)
  (.cons (.ifS (.cmp .Gt (.idx (.var 0) (.lit (.int 2))) (.lit (.int 0))) (.cons (.set (.name 3) (.bin .Mod (.bi .int (.cons (.idx (.var 0) (.lit (.int 2))) .nil)) (.var 1)))
  (.cons (.setI (.var 0) (.lit (.int 2)) (.bin .FloorDiv (.idx (.var 0) (.lit (.int 2))) (.var 1)))
  (.cons (.ret (.var 3))
  .nil))) .nil)
  (.cons (.setI (.var 0) (.lit (.int 4)) (.bin .Add (.idx (.var 0) (.lit (.int 4))) (.lit (.int 1))))
  (.cons (.set (.name 4) (.bin .Mod (.bi .int (.cons (.bin .Mult (.bi .int (.cons (.bin .Add (.idx (.var 0) (.lit (.int 3))) (.bin .Mult (.lit (.int 7919)) (.idx (.var 0) (.lit (.int 4))))) .nil)) (.lit (.int 48271))) .nil)) (.lit (.int 2147483647))))
  (.cons (.set (.name 4) (.bin .Mod (.bi .int (.cons (.bin .Mult (.var 4) (.bin .Add (.bin .FloorDiv (.var 4) (.lit (.int 1009))) (.lit (.int 69621)))) .nil)) (.lit (.int 2147483647))))
  (.cons (.set (.name 4) (.bin .Mod (.bi .int (.cons (.bin .Mult (.var 4) (.bin .Add (.bin .FloorDiv (.var 4) (.lit (.int 2003))) (.lit (.int 40692)))) .nil)) (.lit (.int 2147483399))))
  (.cons (.ret (.bin .Mod (.bi .int (.cons (.bin .FloorDiv (.var 4) (.lit (.int 16))) .nil)) (.var 1)))
  .nil)))))))
theorem k__law_draw : chkSs m__law_draw ⟨cf, ⟨[], sub, fdOf cf⟩, N__law_draw, d__law_draw.scope, fun _ => true, false⟩ d__law_draw.body = true := by kernel_rfl
def N__law_any : List Str := ["_law_hand_here", "_law_things"]
def m__law_any : MSs := (.cons (.ret (.idx (.var 1) (.call 0 (.cons (.var 0) (.cons (.bi .len (.cons (.var 1) .nil)) .nil)))))
  .nil)
theorem k__law_any (k0 : Nat) (p0 : SpD) : chkSs m__law_any ⟨cf, ⟨[C__law_draw k0 p0], sub, fdOf cf⟩, N__law_any, d__law_any.scope, fun _ => true, false⟩ d__law_any.body = true := by kernel_rfl
def N__law_word : List Str := ["_law_hand_here", "_law_signs", "_law_k"]
def m__law_word : MSs := (.cons (.set (.name 1) (.lit (.str [97, 98, 39, 126, 40, 41, 32, 44, 35, 46, 45, 48, 49, 50, 57, 126, 39, 122, 33])))
  (.cons (.ret (.bm .join (.lit (.str [])) (.cons (.lc (.call 1 (.cons (.var 0) (.cons (.var 1) .nil))) (.name 2) (.rng (.cons (.call 0 (.cons (.var 0) (.cons (.lit (.int 7)) .nil))) .nil)) .nil [("_law_k", 2)]) .nil)))
  .nil))
theorem k__law_word (k0 k1 : Nat) (p0 p1 : SpD) : chkSs m__law_word ⟨cf, ⟨[C__law_draw k0 p0, C__law_any k1 p1], sub, fdOf cf⟩, N__law_word, d__law_word.scope, fun _ => true, false⟩ d__law_word.body = true := by kernel_rfl
def N__law_thing : List Str := ["_law_hand_here", "_law_deep_here", "_law_kind", "_law_k"]
def m__law_thing : MSs := (.cons (.set (.name 2) (.call 0 (.cons (.var 0) (.cons (.ite (.cmp .Gt (.var 1) (.lit (.int 0))) (.lit (.int 6)) (.lit (.int 4))) .nil))))
  (.cons (.ifS (.cmp .Eq (.var 2) (.lit (.int 0))) (.cons (.ret (.call 1 (.cons (.var 0) (.cons (.lst (.cons (.lit (.int 0)) (.cons (.lit (.int 1)) (.cons (.neg (.lit (.int 1))) (.cons (.lit (.int 7)) (.cons (.lit (.int 10)) (.cons (.neg (.lit (.int 205))) (.cons (.bin .Sub (.bin .Pow (.lit (.int 10)) (.lit (.int 30))) (.lit (.int 1))) (.cons (.bin .Add (.neg (.bin .Pow (.lit (.int 10)) (.lit (.int 30)))) (.lit (.int 1))) (.cons (.lit (.int 99991)) .nil)))))))))) .nil))))
  .nil) .nil)
  (.cons (.ifS (.cmp .Eq (.var 2) (.lit (.int 1))) (.cons (.ret (.lit .non))
  .nil) .nil)
  (.cons (.ifS (.cmp .Lt (.var 2) (.lit (.int 4))) (.cons (.ret (.call 2 (.cons (.var 0) .nil)))
  .nil) .nil)
  (.cons (.ret (.bi .tuple (.cons (.lc (.call 3 (.cons (.var 0) (.cons (.bin .Sub (.var 1) (.lit (.int 1))) .nil))) (.name 3) (.rng (.cons (.call 0 (.cons (.var 0) (.cons (.lit (.int 4)) .nil))) .nil)) .nil [("_law_k", 3)]) .nil)))
  .nil)))))
theorem k__law_thing (k0 k1 k2 k3 : Nat) (p0 p1 p2 p3 : SpD) : chkSs m__law_thing ⟨cf, ⟨[C__law_draw k0 p0, C__law_any k1 p1, C__law_word k2 p2, C__law_thing k3 p3], sub, fdOf cf⟩, N__law_thing, d__law_thing.scope, fun _ => true, false⟩ d__law_thing.body = true := by kernel_rfl
def N__law_nested : List Str := ["_law_hand_here", "_law_many", "_law_found", "_law_k"]
def m__law_nested : MSs := (.cons (.set (.name 2) (.call 0 (.cons (.var 0) (.cons (.lst (.cons (.tup .nil) (.cons (.tup (.cons (.lit (.int 3)) .nil)) (.cons (.tup (.cons (.lit (.str [97])) .nil)) .nil)))) .nil))))
  (.cons (.forS (.name 3) (.rng (.cons (.bin .Sub (.var 1) (.lit (.int 1))) .nil)) (.cons (.set (.name 2) (.ite (.cmp .Gt (.call 1 (.cons (.var 0) (.cons (.lit (.int 3)) .nil))) (.lit (.int 0))) (.tup (.cons (.var 2) .nil)) (.tup (.cons (.lit .non) (.cons (.var 2) .nil)))))
  .nil))
  (.cons (.ret (.var 2))
  .nil)))
theorem k__law_nested (k0 k1 : Nat) (p0 p1 : SpD) : chkSs m__law_nested ⟨cf, ⟨[C__law_any k0 p0, C__law_draw k1 p1], sub, fdOf cf⟩, N__law_nested, d__law_nested.scope, fun _ => true, false⟩ d__law_nested.body = true := by kernel_rfl
def N__law_packed : List Str := ["_law_thing_here", "_law_one", "_law_sign"]
def m__law_packed : MSs := (.cons (.ifS (.cmp .Is (.var 0) (.lit .non)) (.cons (.ret (.lit (.str [46])))
  .nil) .nil)
  (.cons (.ifS (.val (.isi (.var 0) "tuple")) (.cons (.ret (.bin .Add (.bin .Add (.lit (.str [40])) (.bm .join (.lit (.str [44])) (.cons (.lc (.call 0 (.cons (.var 1) .nil)) (.name 1) (.of (.var 0)) .nil [("_law_one", 1)]) .nil))) (.lit (.str [41]))))
  .nil) .nil)
  (.cons (.ifS (.val (.isi (.var 0) "str")) (.cons (.ret (.bin .Add (.bin .Add (.lit (.str [39])) (.bm .join (.lit (.str [])) (.cons (.lc (.ite (.cmp .In (.var 2) (.lit (.str [39, 126]))) (.bin .Add (.lit (.str [126])) (.var 2)) (.var 2)) (.name 2) (.of (.var 0)) .nil [("_law_sign", 2)]) .nil))) (.lit (.str [39]))))
  .nil) .nil)
  (.cons (.ret (.bi .str (.cons (.var 0) .nil)))
  .nil))))
theorem k__law_packed (k0 : Nat) (p0 : SpD) : chkSs m__law_packed ⟨cf, ⟨[C__law_packed k0 p0], sub, fdOf cf⟩, N__law_packed, d__law_packed.scope, fun _ => true, false⟩ d__law_packed.body = true := by kernel_rfl
def N__law_first_wrong : List Str := ["_law_text", "_law_at", "_law_deep_here", "_law_sign"]
def m__law_first_wrong : MSs := (.cons (.ifS (.cmp .GtE (.var 1) (.bi .len (.cons (.var 0) .nil))) (.cons (.ret (.tup (.cons (.lit .non) (.cons (.var 1) (.cons (.lit (.bl true)) .nil)))))
  .nil) .nil)
  (.cons (.set (.name 3) (.idx (.var 0) (.var 1)))
  (.cons (.ifS (.cmp .Eq (.var 3) (.lit (.str [46]))) (.cons (.ret (.tup (.cons (.lit .non) (.cons (.bin .Add (.var 1) (.lit (.int 1))) (.cons (.lit (.bl false)) .nil)))))
  .nil) .nil)
  (.cons (.ifS (.cmp .Eq (.var 3) (.lit (.str [39]))) (.cons (.ret (.call 0 (.cons (.var 0) (.cons (.bin .Add (.var 1) (.lit (.int 1))) .nil))))
  .nil) .nil)
  (.cons (.ifS (.cmp .Eq (.var 3) (.lit (.str [40]))) (.cons (.ret (.ite (.cmp .Lt (.var 2) (.lit (.int 30))) (.call 1 (.cons (.var 0) (.cons (.bin .Add (.var 1) (.lit (.int 1))) (.cons (.bin .Add (.var 2) (.lit (.int 1))) .nil)))) (.tup (.cons (.lit .non) (.cons (.var 1) (.cons (.lit (.bl true)) .nil))))))
  .nil) .nil)
  (.cons (.ret (.call 2 (.cons (.var 0) (.cons (.var 1) .nil))))
  .nil))))))
theorem k__law_first_wrong (k0 k1 k2 : Nat) (p0 p1 p2 : SpD) : chkSs m__law_first_wrong ⟨cf, ⟨[C__law_read_string k0 p0, C__law_read_tuple k1 p1, C__law_read_integer k2 p2], sub, fdOf cf⟩, N__law_first_wrong, d__law_first_wrong.scope, fun _ => true, false⟩ d__law_first_wrong.body = true := by kernel_rfl
def N__law_read_string : List Str := ["_law_text", "_law_at", "_law_found", "_law_sign"]
def m__law_read_string : MSs := (.cons (.set (.name 2) (.lit (.str [])))
  (.cons (.whl (.cmp .Lt (.var 1) (.bi .len (.cons (.var 0) .nil))) (.cons (.set (.name 3) (.idx (.var 0) (.var 1)))
  (.cons (.ifS (.cmp .Eq (.var 3) (.lit (.str [39]))) (.cons (.ret (.tup (.cons (.var 2) (.cons (.bin .Add (.var 1) (.lit (.int 1))) (.cons (.lit (.bl false)) .nil)))))
  .nil) .nil)
  (.cons (.ifS (.not (.chn .LtE .LtE (.lit (.str [32])) (.var 3) (.lit (.str [126])))) (.cons (.ret (.tup (.cons (.lit .non) (.cons (.var 1) (.cons (.lit (.bl true)) .nil)))))
  .nil) .nil)
  (.cons (.ifS (.cmp .Eq (.var 3) (.lit (.str [126]))) (.cons (.set (.name 1) (.bin .Add (.var 1) (.lit (.int 1))))
  (.cons (.ifS (.bo false (.cons (.cmp .Eq (.var 1) (.bi .len (.cons (.var 0) .nil))) (.cons (.cmp .NotIn (.idx (.var 0) (.var 1)) (.lit (.str [39, 126]))) .nil))) (.cons (.ret (.tup (.cons (.lit .non) (.cons (.var 1) (.cons (.lit (.bl true)) .nil)))))
  .nil) .nil)
  (.cons (.set (.name 3) (.idx (.var 0) (.var 1)))
  .nil))) .nil)
  (.cons (.set (.name 2) (.bin .Add (.var 2) (.var 3)))
  (.cons (.set (.name 1) (.bin .Add (.var 1) (.lit (.int 1))))
  .nil)))))))
  (.cons (.ret (.tup (.cons (.lit .non) (.cons (.var 1) (.cons (.lit (.bl true)) .nil)))))
  .nil)))
theorem k__law_read_string : chkSs m__law_read_string ⟨cf, ⟨[], sub, fdOf cf⟩, N__law_read_string, d__law_read_string.scope, fun _ => true, false⟩ d__law_read_string.body = true := by kernel_rfl
def N__law_read_integer : List Str := ["_law_text", "_law_at", "_law_begin", "_law_first"]
def m__law_read_integer : MSs := (.cons (.set (.name 2) (.var 1))
  (.cons (.ifS (.cmp .Eq (.idx (.var 0) (.var 1)) (.lit (.str [45]))) (.cons (.set (.name 1) (.bin .Add (.var 1) (.lit (.int 1))))
  .nil) .nil)
  (.cons (.set (.name 3) (.var 1))
  (.cons (.whl (.bo true (.cons (.cmp .Lt (.var 1) (.bi .len (.cons (.var 0) .nil))) (.cons (.cmp .In (.idx (.var 0) (.var 1)) (.lit (.str [48, 49, 50, 51, 52, 53, 54, 55, 56, 57]))) (.cons (.cmp .Lt (.bin .Sub (.var 1) (.var 3)) (.lit (.int 30))) .nil)))) (.cons (.ifS (.bo true (.cons (.cmp .Eq (.var 1) (.bin .Add (.var 3) (.lit (.int 1)))) (.cons (.cmp .Eq (.idx (.var 0) (.var 3)) (.lit (.str [48]))) .nil))) (.cons (.ret (.tup (.cons (.bi .int (.cons (.slc (.var 0) (.cons (.var 2) .nil) (.cons (.var 1) .nil)) .nil)) (.cons (.var 1) (.cons (.lit (.bl false)) .nil)))))
  .nil) .nil)
  (.cons (.ifS (.bo true (.cons (.cmp .Eq (.var 1) (.var 3)) (.cons (.cmp .Eq (.idx (.var 0) (.var 1)) (.lit (.str [48]))) (.cons (.cmp .Lt (.var 2) (.var 3)) .nil)))) (.cons (.ret (.tup (.cons (.lit .non) (.cons (.var 1) (.cons (.lit (.bl true)) .nil)))))
  .nil) .nil)
  (.cons (.set (.name 1) (.bin .Add (.var 1) (.lit (.int 1))))
  .nil))))
  (.cons (.ifS (.cmp .Eq (.var 1) (.var 3)) (.cons (.ret (.tup (.cons (.lit .non) (.cons (.var 1) (.cons (.lit (.bl true)) .nil)))))
  .nil) .nil)
  (.cons (.ret (.tup (.cons (.bi .int (.cons (.slc (.var 0) (.cons (.var 2) .nil) (.cons (.var 1) .nil)) .nil)) (.cons (.var 1) (.cons (.lit (.bl false)) .nil)))))
  .nil))))))
theorem k__law_read_integer : chkSs m__law_read_integer ⟨cf, ⟨[], sub, fdOf cf⟩, N__law_read_integer, d__law_read_integer.scope, fun _ => true, false⟩ d__law_read_integer.body = true := by kernel_rfl
def N__law_read_tuple : List Str := ["_law_text", "_law_at", "_law_deep_here", "_law_found", "_law_thing_here", "_law_wrong"]
def m__law_read_tuple : MSs := (.cons (.set (.name 3) (.tup .nil))
  (.cons (.ifS (.bo true (.cons (.cmp .Lt (.var 1) (.bi .len (.cons (.var 0) .nil))) (.cons (.cmp .Eq (.idx (.var 0) (.var 1)) (.lit (.str [41]))) .nil))) (.cons (.ret (.tup (.cons (.tup .nil) (.cons (.bin .Add (.var 1) (.lit (.int 1))) (.cons (.lit (.bl false)) .nil)))))
  .nil) .nil)
  (.cons (.whl (.val (.lit (.bl true))) (.cons (.set (.tup (.cons (.name 4) (.cons (.name 1) (.cons (.name 5) .nil)))) (.call 0 (.cons (.var 0) (.cons (.var 1) (.cons (.var 2) .nil)))))
  (.cons (.ifS (.val (.var 5)) (.cons (.ret (.tup (.cons (.lit .non) (.cons (.var 1) (.cons (.lit (.bl true)) .nil)))))
  .nil) .nil)
  (.cons (.set (.name 3) (.bin .Add (.var 3) (.tup (.cons (.var 4) .nil))))
  (.cons (.ifS (.bo true (.cons (.cmp .Lt (.var 1) (.bi .len (.cons (.var 0) .nil))) (.cons (.cmp .Eq (.idx (.var 0) (.var 1)) (.lit (.str [41]))) .nil))) (.cons (.ret (.tup (.cons (.var 3) (.cons (.bin .Add (.var 1) (.lit (.int 1))) (.cons (.lit (.bl false)) .nil)))))
  .nil) .nil)
  (.cons (.ifS (.bo false (.cons (.cmp .Eq (.var 1) (.bi .len (.cons (.var 0) .nil))) (.cons (.cmp .NotEq (.idx (.var 0) (.var 1)) (.lit (.str [44]))) .nil))) (.cons (.ret (.tup (.cons (.lit .non) (.cons (.var 1) (.cons (.lit (.bl true)) .nil)))))
  .nil) .nil)
  (.cons (.set (.name 1) (.bin .Add (.var 1) (.lit (.int 1))))
  .nil)))))))
  .nil)))
theorem k__law_read_tuple (k0 : Nat) (p0 : SpD) : chkSs m__law_read_tuple ⟨cf, ⟨[C__law_first_wrong k0 p0], sub, fdOf cf⟩, N__law_read_tuple, d__law_read_tuple.scope, fun _ => true, false⟩ d__law_read_tuple.body = true := by kernel_rfl
def N__law_unpacked : List Str := ["_law_text", "_law_thing_here", "_law_at", "_law_wrong"]
def m__law_unpacked : MSs := (.cons (.set (.tup (.cons (.name 1) (.cons (.name 2) (.cons (.name 3) .nil)))) (.call 0 (.cons (.var 0) (.cons (.lit (.int 0)) (.cons (.lit (.int 0)) .nil)))))
  (.cons (.ifS (.val (.var 3)) (.cons (.ret (.tup (.cons (.lit (.str [119, 114, 111, 110, 103])) (.cons (.var 2) .nil))))
  .nil) .nil)
  (.cons (.ret (.ite (.cmp .Eq (.var 2) (.bi .len (.cons (.var 0) .nil))) (.tup (.cons (.lit (.str [116, 104, 105, 110, 103])) (.cons (.var 1) .nil))) (.tup (.cons (.lit (.str [119, 114, 111, 110, 103])) (.cons (.var 2) .nil)))))
  .nil)))
theorem k__law_unpacked (k0 : Nat) (p0 : SpD) : chkSs m__law_unpacked ⟨cf, ⟨[C__law_first_wrong k0 p0], sub, fdOf cf⟩, N__law_unpacked, d__law_unpacked.scope, fun _ => true, false⟩ d__law_unpacked.body = true := by kernel_rfl
def N__law_changed : List Str := ["_law_hand_here", "_law_text", "_law_at", "_law_sign", "_law_things"]
def m__law_changed : MSs := (.cons (.set (.name 2) (.call 0 (.cons (.var 0) (.cons (.bin .Add (.bi .len (.cons (.var 1) .nil)) (.lit (.int 1))) .nil))))
  (.cons (.set (.name 3) (.call 1 (.cons (.var 0) (.cons (.lit (.str [97, 98, 39, 126, 40, 41, 44, 46, 35, 45, 48, 49, 50, 57, 32, 10])) .nil))))
  (.cons (.set (.name 4) (.lst (.cons (.bin .Add (.bin .Add (.slc (.var 1) .nil (.cons (.var 2) .nil)) (.var 3)) (.slc (.var 1) (.cons (.var 2) .nil) .nil)) (.cons (.bin .Add (.slc (.var 1) .nil (.cons (.var 2) .nil)) (.slc (.var 1) (.cons (.bin .Add (.var 2) (.lit (.int 1))) .nil) .nil)) (.cons (.bin .Add (.bin .Add (.slc (.var 1) .nil (.cons (.var 2) .nil)) (.var 3)) (.slc (.var 1) (.cons (.bin .Add (.var 2) (.lit (.int 1))) .nil) .nil)) (.cons (.slc (.var 1) .nil (.cons (.var 2) .nil)) .nil))))))
  (.cons (.ex (.bm .extend (.var 4) (.cons (.lst (.cons (.bin .Add (.bin .Add (.slc (.var 1) .nil (.cons (.var 2) .nil)) (.rev (.slc (.var 1) (.cons (.var 2) .nil) (.cons (.bin .Add (.var 2) (.lit (.int 2))) .nil)))) (.slc (.var 1) (.cons (.bin .Add (.var 2) (.lit (.int 2))) .nil) .nil)) (.cons (.bin .Add (.var 1) (.var 3)) (.cons (.bin .Add (.var 1) (.var 1)) (.cons (.slc (.var 1) (.cons (.var 2) .nil) .nil) .nil))))) .nil)))
  (.cons (.ret (.call 1 (.cons (.var 0) (.cons (.var 4) .nil))))
  .nil)))))
theorem k__law_changed (k0 k1 : Nat) (p0 p1 : SpD) : chkSs m__law_changed ⟨cf, ⟨[C__law_draw k0 p0, C__law_any k1 p1], sub, fdOf cf⟩, N__law_changed, d__law_changed.scope, fun _ => true, false⟩ d__law_changed.body = true := by kernel_rfl
def N__law_deep : List Str := ["_law_hand_here", "_law_found", "_law_turn"]
def m__law_deep : MSs := (.cons (.set (.name 1) (.idx (.lst (.cons (.lit .non) (.cons (.tup .nil) (.cons (.lit (.int 0)) .nil)))) (.call 0 (.cons (.var 0) (.cons (.lit (.int 3)) .nil)))))
  (.cons (.forS (.name 2) (.rng (.cons (.bin .Add (.lit (.int 14)) (.call 0 (.cons (.var 0) (.cons (.lit (.int 8)) .nil)))) .nil)) (.cons (.set (.name 1) (.idx (.lst (.cons (.lst (.cons (.var 1) .nil)) (.cons (.tup (.cons (.var 1) .nil)) (.cons (.ddsp (.lit (.int 0)) (.var 1)) .nil)))) (.call 0 (.cons (.var 0) (.cons (.lit (.int 3)) .nil)))))
  .nil))
  (.cons (.ret (.var 1))
  .nil)))
theorem k__law_deep (k0 : Nat) (p0 : SpD) : chkSs m__law_deep ⟨cf, ⟨[C__law_draw k0 p0], sub, fdOf cf⟩, N__law_deep, d__law_deep.scope, fun _ => true, false⟩ d__law_deep.body = true := by kernel_rfl
def N__law_told : List Str := ["_law_text", "_law_told_here", "e"]
def m__law_told : MSs := (.cons (.set (.name 1) (.tup (.cons (.lit (.str [111, 116, 104, 101, 114])) (.cons (.lit .non) .nil))))
  (.cons (.tryS (.cons (.set (.name 1) (.tup (.cons (.lit (.str [116, 104, 105, 110, 103])) (.cons (.call 0 (.cons (.var 0) .nil)) .nil))))
  .nil) (.cons 2 (some 2) (.cons (.set (.name 1) (.tup (.cons (.lit (.str [119, 114, 111, 110, 103])) (.cons (.xfld 2 "place") .nil))))
  .nil) (.cons 0 none (.cons (.set (.name 1) (.tup (.cons (.lit (.str [111, 116, 104, 101, 114])) (.cons (.lit .non) .nil))))
  .nil) .nil)))
  (.cons (.ret (.var 1))
  .nil)))
theorem k__law_told (k0 : Nat) (p0 : SpD) : chkSs m__law_told ⟨cf, ⟨[C_read_thing k0 p0], sub, fdOf cf⟩, N__law_told, d__law_told.scope, fun _ => true, false⟩ d__law_told.body = true := by kernel_rfl
def N__law_is_none : List Str := ["_law_thing_here", "_law_told_here", "e"]
def m__law_is_none : MSs := (.cons (.set (.name 1) (.lit (.bl false)))
  (.cons (.tryS (.cons (.ex (.call 0 (.cons (.var 0) .nil)))
  .nil) (.cons 1 (some 2) (.cons (.set (.name 1) (.xis 2 0))
  .nil) .nil))
  (.cons (.ret (.var 1))
  .nil)))
theorem k__law_is_none (k0 : Nat) (p0 : SpD) : chkSs m__law_is_none ⟨cf, ⟨[C_thing_text k0 p0], sub, fdOf cf⟩, N__law_is_none, d__law_is_none.scope, fun _ => true, false⟩ d__law_is_none.body = true := by kernel_rfl
def N__law_is_plain : List Str := ["_law_thing_here"]
def m__law_is_plain : MSs := (.cons (.whl (.bo true (.cons (.val (.isi (.var 0) "tuple")) (.cons (.cmp .Eq (.bi .len (.cons (.var 0) .nil)) (.lit (.int 1))) .nil))) (.cons (.set (.name 0) (.idx (.var 0) (.lit (.int 0))))
  .nil))
  (.cons (.ret (.bo false (.cons (.cmp .Is (.var 0) (.lit .non)) (.cons (.bo true (.cons (.isi (.var 0) "tuple") (.cons (.cmp .Eq (.var 0) (.tup .nil)) .nil))) (.cons (.bo true (.cons (.not (.isi (.var 0) "bool")) (.cons (.cmp .Eq (.var 0) (.lit (.int 0))) .nil))) .nil)))))
  .nil))
theorem k__law_is_plain : chkSs m__law_is_plain ⟨cf, ⟨[], sub, fdOf cf⟩, N__law_is_plain, d__law_is_plain.scope, fun _ => true, false⟩ d__law_is_plain.body = true := by kernel_rfl
def N_law : List Str := ["_law_script", "_law_hand_here", "_law_turn", "_law_thing_here", "_law_text", "_law_again", "_law_bent", "_law_odd", "_law_wrong", "_law_long"]
def m_law : MSs := (.cons (.set (.name 1) (.call 0 (.cons (.var 0) .nil)))
  (.cons (.forS (.name 2) (.rng (.cons (.lit (.int 3)) .nil)) (.cons (.set (.name 3) (.call 1 (.cons (.var 1) (.cons (.lit (.int 4)) .nil))))
  (.cons (.ifS (.cmp .Eq (.call 2 (.cons (.var 1) (.cons (.lit (.int 6)) .nil))) (.lit (.int 0))) (.cons (.set (.name 3) (.call 3 (.cons (.var 1) (.cons (.idx (.lst (.cons (.lit (.int 2)) (.cons (.lit (.int 29)) (.cons (.lit (.int 30)) .nil)))) (.call 2 (.cons (.var 1) (.cons (.lit (.int 3)) .nil)))) .nil))))
  .nil) .nil)
  (.cons (.set (.name 4) (.call 4 (.cons (.var 3) .nil)))
  (.cons (.ifS (.bo false (.cons (.cmp .NotEq (.call 7 (.cons (.var 3) .nil)) (.var 4)) (.cons (.cmp .NotEq (.call 6 (.cons (.var 4) .nil)) (.tup (.cons (.lit (.str [116, 104, 105, 110, 103])) (.cons (.var 3) .nil)))) (.cons (.cmp .NotEq (.call 5 (.cons (.var 4) .nil)) (.tup (.cons (.lit (.str [116, 104, 105, 110, 103])) (.cons (.var 3) .nil)))) .nil)))) (.cons (.ret (.lit (.bl false)))
  .nil) .nil)
  (.cons (.forS (.name 5) (.rng (.cons (.lit (.int 5)) .nil)) (.cons (.set (.name 6) (.call 8 (.cons (.var 1) (.cons (.var 4) .nil))))
  (.cons (.ifS (.cmp .NotEq (.call 6 (.cons (.var 6) .nil)) (.call 5 (.cons (.var 6) .nil))) (.cons (.ret (.lit (.bl false)))
  .nil) .nil)
  .nil)))
  .nil))))))
  (.cons (.set (.name 7) (.lst (.cons (.lit (.bl true)) (.cons (.lst .nil) (.cons .dnew (.cons (.lit (.str [10])) (.cons (.tup (.cons (.lit (.int 1)) (.cons (.lit (.bl true)) .nil))) (.cons (.tup (.cons (.lst .nil) .nil)) (.cons (.tup (.cons (.lit (.str [97, 10, 98])) .nil)) (.cons (.ddsp (.lit (.int 0)) (.lit (.int 1))) (.cons (.tup (.cons (.tup (.cons (.lit (.bl false)) .nil)) .nil)) (.cons (.call 9 (.cons (.var 1) .nil)) .nil))))))))))))
  (.cons (.set (.name 8) (.idx (.var 7) (.call 2 (.cons (.var 1) (.cons (.lit (.int 10)) .nil)))))
  (.cons (.ifS (.bo true (.cons (.not (.val (.call 11 (.cons (.var 8) .nil)))) (.cons (.not (.val (.call 10 (.cons (.var 8) .nil)))) .nil))) (.cons (.ret (.lit (.bl false)))
  .nil) .nil)
  (.cons (.set (.name 9) (.idx (.lst (.cons (.bin .Add (.bin .Mult (.lit (.str [40])) (.lit (.int 31))) (.bin .Mult (.lit (.str [41])) (.lit (.int 31)))) (.cons (.bin .Mult (.lit (.str [49])) (.lit (.int 31))) (.cons (.bin .Add (.lit (.str [45])) (.bin .Mult (.lit (.str [57])) (.lit (.int 31)))) (.cons (.bin .Mult (.lit (.str [40])) (.lit (.int 40))) (.cons (.bin .Add (.lit (.str [39])) (.bin .Mult (.lit (.str [97])) (.lit (.int 50)))) .nil)))))) (.call 2 (.cons (.var 1) (.cons (.lit (.int 5)) .nil)))))
  (.cons (.ifS (.cmp .NotEq (.call 6 (.cons (.var 9) .nil)) (.call 5 (.cons (.var 9) .nil))) (.cons (.ret (.lit (.bl false)))
  .nil) .nil)
  (.cons (.ret (.cmp .Eq (.call 6 (.cons (.call 12 (.cons (.var 1) (.cons (.lst (.cons (.lit .non) (.cons (.lit (.int 5)) (.cons (.lit (.bl true)) (.cons (.lst (.cons (.lit (.str [46])) .nil)) (.cons (.tup (.cons (.lit (.str [46])) .nil)) (.cons .dnew .nil))))))) .nil))) .nil)) (.tup (.cons (.lit (.str [119, 114, 111, 110, 103])) (.cons (.neg (.lit (.int 1))) .nil)))))
  .nil))))))))
theorem k_law (k0 k1 k2 k3 k4 k5 k6 k7 k8 k9 k10 k11 k12 : Nat) (p0 p1 p2 p3 p4 p5 p6 p7 p8 p9 p10 p11 p12 : SpD) : chkSs m_law ⟨cf, ⟨[C__law_hand k0 p0, C__law_thing k1 p1, C__law_draw k2 p2, C__law_nested k3 p3, C__law_packed k4 p4, C__law_unpacked k5 p5, C__law_told k6 p6, C_thing_text k7 p7, C__law_changed k8 p8, C__law_deep k9 p9, C__law_is_none k10 p10, C__law_is_plain k11 p11, C__law_any k12 p12], sub, fdOf cf⟩, N_law, d_law.scope, fun _ => true, false⟩ d_law.body = true := by kernel_rfl
end H54
set_option Elab.async false
set_option linter.all false
set_option maxRecDepth 100000
set_option maxHeartbeats 1000000
/-! G1: things as texts, plain: what a reader finds. -/
namespace TX
open PySem DL L2 TL
inductive Out where
  | ok (v : D) (j : Nat)
  | bad (j : Nat)
/-- behind a quote -/
inductive St (t : List Nat) : Nat → List Nat → Out → Prop
  | eof {i acc} : t[i]? = none → St t i acc (.bad i)
  | close {i acc} : t[i]? = some 39 → St t i acc (.ok (.str acc) (i + 1))
  | odd {i acc c} : t[i]? = some c → ¬(32 ≤ c ∧ c ≤ 126) → St t i acc (.bad i)
  | esc {i acc e o} : t[i]? = some 126 → t[i + 1]? = some e → (e = 39 ∨ e = 126) → St t (i + 2) (acc ++ [e]) o → St t i acc o
  | escBad {i acc} : t[i]? = some 126 → (∀ e, t[i + 1]? = some e → e ≠ 39 ∧ e ≠ 126) → St t i acc (.bad (i + 1))
  | step {i acc c o} : t[i]? = some c → 32 ≤ c → c < 126 → c ≠ 39 → St t (i + 1) (acc ++ [c]) o → St t i acc o
theorem St.det {t : List Nat} {i : Nat} {acc : List Nat} {o : Out} (h : St t i acc o) : ∀ {o' : Out}, St t i acc o' → o = o' := by
  induction h with
  | eof e =>
    intro o' h'
    cases h' with
    | eof e' => rfl
    | close e' => rw [e] at e'; cases e'
    | odd e' n => first | (rw [e] at e'; cases e'; done) | (rw [e] at e'; done) | simp_all
    | esc e' _ _ _ => rw [e] at e'; cases e'
    | escBad e' _ => rw [e] at e'; cases e'
    | step e' _ _ _ _ => rw [e] at e'; cases e'
  | close e =>
    intro o' h'
    cases h' with
    | eof e' => rw [e] at e'; cases e'
    | close e' => rfl
    | odd e' n => rw [e] at e'; cases e'; omega
    | esc e' _ _ _ => rw [e] at e'; cases e'
    | escBad e' _ => rw [e] at e'; cases e'
    | step e' _ _ n _ => rw [e] at e'; cases e'; exact absurd rfl n
  | odd e n =>
    intro o' h'
    cases h' with
    | eof e' => first | (rw [e] at e'; cases e'; done) | (rw [e] at e'; done) | simp_all
    | close e' => rw [e] at e'; cases e'; omega
    | odd e' _ => rfl
    | esc e' _ _ _ => rw [e] at e'; cases e'; omega
    | escBad e' _ => rw [e] at e'; cases e'; omega
    | step e' a b _ _ => rw [e] at e'; cases e'; omega
  | esc e e1 he hs ih =>
    intro o' h'
    cases h' with
    | eof e' => rw [e] at e'; cases e'
    | close e' => rw [e] at e'; cases e'
    | odd e' n => rw [e] at e'; cases e'; omega
    | esc e' e1' _ hs' => rw [e1] at e1'; cases e1'; exact ih hs'
    | escBad e' hn => have := hn _ e1; omega
    | step e' a b _ _ => rw [e] at e'; cases e'; omega
  | escBad e hn =>
    intro o' h'
    cases h' with
    | eof e' => rw [e] at e'; cases e'
    | close e' => rw [e] at e'; cases e'
    | odd e' n => rw [e] at e'; cases e'; omega
    | esc e' e1' he' hs' => have := hn _ e1'; omega
    | escBad e' hn => rfl
    | step e' a b _ _ => rw [e] at e'; cases e'; omega
  | step e a b n hs ih =>
    intro o' h'
    cases h' with
    | eof e' => rw [e] at e'; cases e'
    | close e' => rw [e] at e'; cases e'; exact absurd rfl n
    | odd e' n' => rw [e] at e'; cases e'; omega
    | esc e' _ _ _ => rw [e] at e'; cases e'; omega
    | escBad e' _ => rw [e] at e'; cases e'; omega
    | step e' _ _ _ hs' => rw [e] at e'; cases e'; exact ih hs'
/-- digits -/
def dig (c : Nat) : Bool := decide (48 ≤ c) && decide (c ≤ 57)
def nd (t : List Nat) (b : Nat) : Nat := min 30 ((t.drop b).takeWhile dig).length
def iv (l : List Nat) : Int := (PySem.intText? (DL.S l)).getD 0
def sl (t : List Nat) (i j : Nat) : List Nat := (t.drop i).take (j - i)
def bgn (t : List Nat) (i : Nat) : Nat := if t[i]? = some 45 then i + 1 else i
def intO (t : List Nat) (i : Nat) : Out :=
  if t[bgn t i]? = some 48 then (if t[i]? = some 45 then .bad (bgn t i) else .ok (.int (iv (sl t i (i + 1)))) (i + 1))
  else if nd t (bgn t i) = 0 then .bad (bgn t i) else .ok (.int (iv (sl t i (bgn t i + nd t (bgn t i))))) (bgn t i + nd t (bgn t i))
inductive Kd where
  | fw
  | it (found : List D)
inductive Rd (t : List Nat) : Kd → Nat → Nat → Out → Prop
  | eof {d i} : t[i]? = none → Rd t .fw d i (.bad i)
  | dot {d i} : t[i]? = some 46 → Rd t .fw d i (.ok .non (i + 1))
  | str {d i o} : t[i]? = some 39 → St t (i + 1) [] o → Rd t .fw d i o
  | deep {d i} : t[i]? = some 40 → ¬ d < 30 → Rd t .fw d i (.bad i)
  | tup0 {d i} : t[i]? = some 40 → d < 30 → t[i + 1]? = some 41 → Rd t .fw d i (.ok (.tup []) (i + 2))
  | tup {d i o} : t[i]? = some 40 → d < 30 → t[i + 1]? ≠ some 41 → Rd t (.it []) (d + 1) (i + 1) o → Rd t .fw d i o
  | int {d i c} : t[i]? = some c → c ≠ 46 → c ≠ 39 → c ≠ 40 → Rd t .fw d i (intO t i)
  | iBad {d i j f} : Rd t .fw d i (.bad j) → Rd t (.it f) d i (.bad j)
  | iEnd {d i j f v} : Rd t .fw d i (.ok v j) → t[j]? = some 41 → Rd t (.it f) d i (.ok (.tup (f ++ [v])) (j + 1))
  | iStop {d i j f v} : Rd t .fw d i (.ok v j) → t[j]? ≠ some 41 → t[j]? ≠ some 44 → Rd t (.it f) d i (.bad j)
  | iMore {d i j f v o} : Rd t .fw d i (.ok v j) → t[j]? = some 44 → Rd t (.it (f ++ [v])) d (j + 1) o → Rd t (.it f) d i o
theorem Rd.det {t : List Nat} {k : Kd} {d i : Nat} {o : Out} (h : Rd t k d i o) : ∀ {o' : Out}, Rd t k d i o' → o = o' := by
  induction h with
  | eof e =>
    intro o' h'
    cases h' with
    | eof _ => rfl
    | dot e' => rw [e] at e'; cases e'
    | str e' _ => rw [e] at e'; cases e'
    | deep e' _ => first | (rw [e] at e'; cases e'; done) | (rw [e] at e'; done) | simp_all
    | tup0 e' _ _ => rw [e] at e'; cases e'
    | tup e' _ _ _ => rw [e] at e'; cases e'
    | int e' _ _ _ => rw [e] at e'; cases e'
  | dot e =>
    intro o' h'
    cases h' with
    | eof e' => rw [e] at e'; cases e'
    | dot e' => rfl
    | str e' _ => rw [e] at e'; cases e'
    | deep e' _ => rw [e] at e'; cases e'
    | tup0 e' _ _ => rw [e] at e'; cases e'
    | tup e' _ _ _ => rw [e] at e'; cases e'
    | int e' n _ _ => rw [e] at e'; cases e'; exact absurd rfl n
  | str e hs =>
    intro o' h'
    cases h' with
    | eof e' => rw [e] at e'; cases e'
    | dot e' => rw [e] at e'; cases e'
    | str _ hs' => exact hs.det hs'
    | deep e' _ => rw [e] at e'; cases e'
    | tup0 e' _ _ => rw [e] at e'; cases e'
    | tup e' _ _ _ => rw [e] at e'; cases e'
    | int e' _ n _ => rw [e] at e'; cases e'; exact absurd rfl n
  | deep e hd =>
    intro o' h'
    cases h' with
    | eof e' => first | (rw [e] at e'; cases e'; done) | (rw [e] at e'; done) | simp_all
    | dot e' => rw [e] at e'; cases e'
    | str e' _ => rw [e] at e'; cases e'
    | deep e' _ => rfl
    | tup0 e' a _ => exact absurd a hd
    | tup e' a _ _ => exact absurd a hd
    | int e' _ _ n => rw [e] at e'; cases e'; exact absurd rfl n
  | tup0 e hd e1 =>
    intro o' h'
    cases h' with
    | eof e' => rw [e] at e'; cases e'
    | dot e' => rw [e] at e'; cases e'
    | str e' _ => rw [e] at e'; cases e'
    | deep e' a => exact absurd hd a
    | tup0 e' a _ => rfl
    | tup e' a n _ => exact absurd e1 n
    | int e' _ _ n => rw [e] at e'; cases e'; exact absurd rfl n
  | tup e hd e1 _ ih =>
    intro o' h'
    cases h' with
    | eof e' => rw [e] at e'; cases e'
    | dot e' => rw [e] at e'; cases e'
    | str e' _ => rw [e] at e'; cases e'
    | deep e' a => exact absurd hd a
    | tup0 e' a n => exact absurd n e1
    | tup e' a n r => exact ih r
    | int e' _ _ n => rw [e] at e'; cases e'; exact absurd rfl n
  | int e n1 n2 n3 =>
    intro o' h'
    cases h' with
    | eof e' => rw [e] at e'; cases e'
    | dot e' => rw [e] at e'; cases e'; exact absurd rfl n1
    | str e' _ => rw [e] at e'; cases e'; exact absurd rfl n2
    | deep e' a => rw [e] at e'; cases e'; exact absurd rfl n3
    | tup0 e' a n => rw [e] at e'; cases e'; exact absurd rfl n3
    | tup e' a n r => rw [e] at e'; cases e'; exact absurd rfl n3
    | int e' _ _ n => rfl
  | iBad _ ih =>
    intro o' h'
    cases h' with
    | iBad r => exact ih r
    | iEnd r _ => have := ih r; cases this
    | iStop r _ _ => have := ih r; cases this
    | iMore r _ _ => have := ih r; cases this
  | iEnd _ e ih =>
    intro o' h'
    cases h' with
    | iBad r => have := ih r; cases this
    | iEnd r _ => have := ih r; cases this; rfl
    | iStop r n _ => have := ih r; cases this; exact absurd e n
    | iMore r e' _ => have := ih r; cases this; rw [e] at e'; cases e'
  | iStop _ n1 n2 ih =>
    intro o' h'
    cases h' with
    | iBad r => have := ih r; cases this
    | iEnd r e => have := ih r; cases this; exact absurd e n1
    | iStop r n _ => have := ih r; cases this; rfl
    | iMore r e' _ => have := ih r; cases this; exact absurd e' n2
  | iMore _ e _ ih ih2 =>
    intro o' h'
    cases h' with
    | iBad r => have := ih r; cases this
    | iEnd r e' => have := ih r; cases this; rw [e] at e'; cases e'
    | iStop r _ n => have := ih r; cases this; exact absurd e n
    | iMore r e' r2 => have := ih r; cases this; exact ih2 r2
/-! ### the stack -/
/-- what becomes of the whole, an item read -/
def After (t : List Nat) : List (List D) → Out → Out → Prop
  | _, .bad j, o => o = .bad j
  | [], .ok v j, o => o = .ok v j
  | acc :: s, .ok v j, o => if t[j]? = some 41 then After t s (.ok (.tup (acc ++ [v])) (j + 1)) o else if t[j]? = some 44 then ∃ o1, Rd t (.it (acc ++ [v])) (s.length + 1) (j + 1) o1 ∧ After t s o1 o else o = .bad j
/-- .. an item being asked for -/
def Fin (t : List Nat) : List (List D) → Nat → Out → Prop
  | [], i, o => Rd t .fw 0 i o
  | acc :: s, i, o => ∃ o1, Rd t (.it acc) (s.length + 1) i o1 ∧ After t s o1 o
theorem After.bad {t : List Nat} {s : List (List D)} {j : Nat} {o : Out} : After t s (.bad j) o ↔ o = .bad j := by
  cases s <;> simp [After]
theorem fin_of {t : List Nat} {s : List (List D)} {i : Nat} {o1 o : Out} (h : Rd t .fw s.length i o1) (a : After t s o1 o) : Fin t s i o := by
  cases s with
  | nil =>
    cases o1 with
    | ok v j => have : o = .ok v j := by simpa [After] using a
                rw [this]; exact h
    | bad j => have : o = .bad j := After.bad.mp a
               rw [this]; exact h
  | cons acc s =>
    cases o1 with
    | bad j => have : o = .bad j := After.bad.mp a
               exact ⟨.bad j, .iBad h, After.bad.mpr this⟩
    | ok v j =>
      simp only [After] at a
      split at a
      · rename_i e
        exact ⟨_, .iEnd h e, a⟩
      · rename_i n1
        split at a
        · rename_i e
          obtain ⟨o1, r, a⟩ := a
          exact ⟨o1, .iMore h e r, a⟩
        · rename_i n2
          exact ⟨_, .iStop h n1 n2, After.bad.mpr a⟩
end TX
set_option Elab.async false
set_option linter.all false
set_option maxRecDepth 100000
set_option maxHeartbeats 1000000
/-! G2: things as texts, plain: what is packed is read again. -/
namespace TX
open PySem DL L2 TL
def escL (l : List Nat) : List Nat := l.flatMap fun c => if c = 39 ∨ c = 126 then [126, c] else [c]
mutual
def pk : D → List Nat
  | .non => [46]
  | .int i => icodes i
  | .str l => [39] ++ escL l ++ [39]
  | .tup xs => [40] ++ joinC [44] (pks xs) ++ [41]
  | _ => []
def pks : List D → List (List Nat)
  | [] => []
  | x :: xs => pk x :: pks xs
end
def great : Int := 999999999999999999999999999999
def isTh : Nat → D → Bool
  | _, .non => true
  | _, .int i => decide (-great ≤ i) && decide (i ≤ great)
  | _, .str l => l.all fun c => decide (32 ≤ c) && decide (c ≤ 126)
  | n + 1, .tup xs => xs.all (isTh n)
  | _, _ => false
def noDig (p : List Nat) : Prop := ∀ c r, p = c :: r → dig c = false
theorem noDig_cons {c : Nat} {r : List Nat} (h : dig c = false) : noDig (c :: r) := fun _ _ e => by cases e; exact h
theorem at_app {a b : List Nat} {c : Nat} : (a ++ (c :: b))[a.length]? = some c := by simp
theorem at_app1 {a b : List Nat} {c d : Nat} : (a ++ (c :: d :: b))[a.length + 1]? = some d := by
  rw [List.getElem?_append_right (by omega)]; simp
theorem St.pack : ∀ (l acc pre post : List Nat), (l.all fun c => decide (32 ≤ c) && decide (c ≤ 126)) = true → St (pre ++ (escL l ++ (39 :: post))) pre.length acc (.ok (.str (acc ++ l)) (pre.length + (escL l).length + 1))
  | [], acc, pre, post, _ => by
    have : escL [] = [] := rfl
    rw [this, List.nil_append, List.append_nil]
    exact .close at_app
  | c :: l, acc, pre, post, h => by
    rw [List.all_cons, Bool.and_eq_true, Bool.and_eq_true, decide_eq_true_eq, decide_eq_true_eq] at h
    by_cases hc : c = 39 ∨ c = 126
    · have e : escL (c :: l) = 126 :: c :: escL l := by simp [escL, hc]
      rw [e]
      have ih := St.pack l (acc ++ [c]) (pre ++ [126, c]) post h.2
      have e2 : (pre ++ [126, c]) ++ (escL l ++ (39 :: post)) = pre ++ ((126 :: c :: escL l) ++ (39 :: post)) := by simp
      have e3 : (pre ++ [126, c]).length = pre.length + 2 := by simp
      rw [e2, e3] at ih
      have e4 : pre.length + (126 :: c :: escL l).length + 1 = pre.length + 2 + (escL l).length + 1 := by simp; omega
      have e5 : acc ++ c :: l = acc ++ [c] ++ l := by simp
      rw [e4, e5]
      exact .esc at_app at_app1 hc ih
    · have e : escL (c :: l) = c :: escL l := by simp [escL, hc]
      rw [e]
      have ih := St.pack l (acc ++ [c]) (pre ++ [c]) post h.2
      have e2 : (pre ++ [c]) ++ (escL l ++ (39 :: post)) = pre ++ ((c :: escL l) ++ (39 :: post)) := by simp
      have e3 : (pre ++ [c]).length = pre.length + 1 := by simp
      rw [e2, e3] at ih
      have e4 : pre.length + (c :: escL l).length + 1 = pre.length + 1 + (escL l).length + 1 := by simp; omega
      have e5 : acc ++ c :: l = acc ++ [c] ++ l := by simp
      rw [e4, e5]
      exact .step at_app h.1.1 (by omega) (by omega) ih
/-! ### ints -/
theorem icodes_nat (n : Nat) : icodes (n : Int) = numL n := tl_num n
theorem icodes_neg (n : Nat) : icodes (-((n + 1 : Nat) : Int)) = 45 :: numL (n + 1) := by
  have e : (-((n + 1 : Nat) : Int)) = Int.negSucc n := rfl
  unfold icodes
  rw [e]
  have e2 : (toString (Int.negSucc n)) = "-" ++ toString (n + 1) := rfl
  have e3 : ∀ s : String, (PySem.Str.ofString s).cps.toList = s.toList.map Char.toNat := fun s => PyProof.Rows.signs_ofString s
  rw [e3, e2, String.toList_append, List.map_append]
  have e4 : (toString (n + 1)).toList.map Char.toNat = numL (n + 1) := by
    show (Nat.repr (n + 1)).toList.map Char.toNat = _
    rw [Nat.toList_repr]; rfl
  rw [e4]; rfl
theorem numL_head : ∀ (n : Nat), 0 < n → ∃ c r, numL n = c :: r ∧ 49 ≤ c ∧ c ≤ 57 := by
  intro n
  induction n using Nat.strongRecOn with
  | _ n ih =>
    intro h
    by_cases h10 : n < 10
    · exact ⟨48 + n, [], numL_lt h10, by omega, by omega⟩
    · obtain ⟨c, r, e, h1, h2⟩ := ih (n / 10) (by omega) (by omega)
      rw [numL_step (by omega), e]
      exact ⟨c, _, rfl, h1, h2⟩
theorem dig_all {l : List Nat} (h : NumText.AllDigits l) : ∀ c ∈ l, dig c = true := fun c hc => by
  have := h c hc
  simp [dig, this]
theorem takeWhile_app {l p : List Nat} (h : ∀ c ∈ l, dig c = true) (n : noDig p) : (l ++ p).takeWhile dig = l := by
  induction l with
  | nil =>
    cases p with
    | nil => rfl
    | cons c r => simp [List.takeWhile_cons, n c r rfl]
  | cons c l ih =>
    rw [List.cons_append, List.takeWhile_cons, h c (List.mem_cons_self ..)]
    simp only [if_true]
    rw [ih fun c hc => h c (List.mem_cons_of_mem _ hc)]
theorem sl_app {pre l post : List Nat} : sl (pre ++ (l ++ post)) pre.length (pre.length + l.length) = l := by
  unfold sl
  rw [List.drop_left, Nat.add_sub_cancel_left, List.take_left]
theorem iv_nat {n : Nat} (h : (numL n).length ≤ 30) : iv (numL n) = n := by
  unfold iv
  have := intText_digits (x := DL.S (numL n)) (by rw [S_cps]; exact numL_digits n) (by rw [S_cps]; exact numL_ne n) (by rw [S_len]; omega)
  have e : PySem.intText? (DL.S (numL n)) = some (n : Int) := by rw [S_cps, numL_val] at this; exact this
  rw [e]; rfl
theorem iv_neg {n : Nat} (h : (numL n).length ≤ 30) : iv (45 :: numL n) = -(n : Int) := by
  unfold iv
  have := intText_neg (x := DL.S (45 :: numL n)) (cs := numL n) (by rw [S_cps]) (numL_digits n) (numL_ne n) (by rw [S_len, List.length_cons]; omega)
  have e : PySem.intText? (DL.S (45 :: numL n)) = some (-(n : Int)) := by rw [numL_val] at this; exact this
  rw [e]; rfl
theorem intO_pack {n : Int} (h : -great ≤ n ∧ n ≤ great) (pre post : List Nat) (hp : noDig post) : intO (pre ++ (icodes n ++ post)) pre.length = .ok (.int n) (pre.length + (icodes n).length) := by
  unfold great at h
  have len : ∀ m : Nat, (m : Int) ≤ 999999999999999999999999999999 → (numL m).length ≤ 30 := fun m hm => numL_len (by decide) (by omega)
  by_cases h0 : 0 ≤ n
  · obtain ⟨m, rfl⟩ := Int.eq_ofNat_of_zero_le h0
    rw [icodes_nat m]
    have hl := len m h.2
    by_cases hm : m = 0
    · subst hm
      have e : numL 0 = [48] := numL_lt (by decide)
      have e45 : (pre ++ ([48] ++ post))[pre.length]? = some 48 := at_app
      unfold intO bgn
      rw [e, e45]
      simp only [show (some 48 = some 45) = False by simp, if_false, e45, if_true]
      have : sl (pre ++ ([48] ++ post)) pre.length (pre.length + 1) = [48] := sl_app (l := [48])
      rw [this]
      have iv0 : iv [48] = 0 := by rw [← e]; exact iv_nat (by rw [e]; decide)
      rw [iv0]; rfl
    · obtain ⟨c, r, e, h1, h2⟩ := numL_head m (by omega)
      have ec : (pre ++ (numL m ++ post))[pre.length]? = some c := by rw [e]; exact at_app
      have eb : bgn (pre ++ (numL m ++ post)) pre.length = pre.length := by
        unfold bgn
        rw [ec, if_neg (by intro z; cases z; omega)]
      have en : nd (pre ++ (numL m ++ post)) pre.length = (numL m).length := by
        unfold nd
        rw [List.drop_left, takeWhile_app (dig_all (numL_digits m)) hp]
        omega
      unfold intO
      rw [eb, ec, if_neg (by intro z; cases z; omega), en, if_neg (by rw [e]; simp), sl_app, iv_nat hl]
  · obtain ⟨m, rfl⟩ : ∃ m : Nat, n = -((m + 1 : Nat) : Int) := ⟨(-n - 1).toNat, by omega⟩
    rw [icodes_neg]
    have hl := len (m + 1) (by omega)
    obtain ⟨c, r, e, h1, h2⟩ := numL_head (m + 1) (by omega)
    have e45 : (pre ++ ((45 :: numL (m + 1)) ++ post))[pre.length]? = some 45 := at_app
    have ec : (pre ++ ((45 :: numL (m + 1)) ++ post))[pre.length + 1]? = some c := by rw [e]; exact at_app1
    have eb : bgn (pre ++ ((45 :: numL (m + 1)) ++ post)) pre.length = pre.length + 1 := by
      unfold bgn
      rw [e45, if_pos rfl]
    have en : nd (pre ++ ((45 :: numL (m + 1)) ++ post)) (pre.length + 1) = (numL (m + 1)).length := by
      unfold nd
      have e2 : pre ++ ((45 :: numL (m + 1)) ++ post) = (pre ++ [45]) ++ (numL (m + 1) ++ post) := by simp
      have e3 : pre.length + 1 = (pre ++ [45]).length := by simp
      rw [e2, e3, List.drop_left, takeWhile_app (dig_all (numL_digits _)) hp]
      omega
    unfold intO
    rw [eb, ec, if_neg (by intro z; cases z; omega), en, if_neg (by rw [e]; simp)]
    have es : sl (pre ++ ((45 :: numL (m + 1)) ++ post)) pre.length (pre.length + 1 + (numL (m + 1)).length) = 45 :: numL (m + 1) := by
      have := sl_app (pre := pre) (l := 45 :: numL (m + 1)) (post := post)
      rw [List.length_cons] at this
      rw [show pre.length + 1 + (numL (m + 1)).length = pre.length + ((numL (m + 1)).length + 1) by omega]
      exact this
    rw [es, iv_neg hl, List.length_cons, show pre.length + 1 + (numL (m + 1)).length = pre.length + ((numL (m + 1)).length + 1) by omega]
/-! ### things -/
theorem icodes_head {n : Int} : ∃ c r, icodes n = c :: r ∧ (c = 45 ∨ dig c = true) := by
  by_cases h0 : 0 ≤ n
  · obtain ⟨m, rfl⟩ := Int.eq_ofNat_of_zero_le h0
    rw [icodes_nat m]
    have := numL_digits m
    cases e : numL m with
    | nil => exact absurd e (numL_ne m)
    | cons c r => rw [e] at this; exact ⟨c, r, rfl, .inr (dig_all this c (List.mem_cons_self ..))⟩
  · obtain ⟨m, rfl⟩ : ∃ m : Nat, n = -((m + 1 : Nat) : Int) := ⟨(-n - 1).toNat, by omega⟩
    rw [icodes_neg]
    exact ⟨45, _, rfl, .inl rfl⟩
theorem pk_head {n : Nat} {v : D} (h : isTh n v = true) : ∃ c r, pk v = c :: r ∧ c ≠ 41 := by
  cases v with
  | non => exact ⟨46, [], rfl, by decide⟩
  | int i =>
    obtain ⟨c, r, e, hc⟩ := icodes_head (n := i)
    refine ⟨c, r, e, ?_⟩
    rcases hc with rfl | hc
    · decide
    · intro z; subst z; cases hc
  | str l => exact ⟨39, _, rfl, by decide⟩
  | tup xs => exact ⟨40, _, rfl, by decide⟩
  | bl b => cases n <;> cases h
  | obj a => cases n <;> cases h
theorem Rd.items {n d : Nat} (ih : ∀ v, isTh n v = true → ∀ pre post, noDig post → Rd (pre ++ (pk v ++ post)) .fw d pre.length (.ok v (pre.length + (pk v).length))) :
    ∀ (x : D) (xs acc : List D) (pre post : List Nat), isTh n x = true → xs.all (isTh n) = true → Rd (pre ++ (joinC [44] (pk x :: pks xs) ++ (41 :: post))) (.it acc) d pre.length (.ok (.tup (acc ++ x :: xs)) (pre.length + (joinC [44] (pk x :: pks xs)).length + 1))
  | x, [], acc, pre, post, hx, _ => by
    have := ih x hx pre (41 :: post) (noDig_cons rfl)
    show Rd (pre ++ (pk x ++ (41 :: post))) _ _ _ (.ok _ (pre.length + (pk x).length + 1))
    refine .iEnd this ?_
    have e : pre ++ (pk x ++ (41 :: post)) = (pre ++ pk x) ++ (41 :: post) := by simp
    have e2 : pre.length + (pk x).length = (pre ++ pk x).length := by simp
    rw [e, e2]; exact at_app
  | x, y :: ys, acc, pre, post, hx, hy => by
    rw [List.all_cons, Bool.and_eq_true] at hy
    have ej : joinC [44] (pk x :: pks (y :: ys)) = pk x ++ (44 :: joinC [44] (pk y :: pks ys)) := by
      show pk x ++ [44] ++ _ = _
      simp [pks]
    rw [ej]
    have h1 := ih x hx pre (44 :: (joinC [44] (pk y :: pks ys) ++ (41 :: post))) (noDig_cons rfl)
    have h2 := Rd.items ih y ys (acc ++ [x]) (pre ++ pk x ++ [44]) post hy.1 hy.2
    have e : pre ++ ((pk x ++ (44 :: joinC [44] (pk y :: pks ys))) ++ (41 :: post)) = pre ++ (pk x ++ (44 :: (joinC [44] (pk y :: pks ys) ++ (41 :: post)))) := by simp
    have e2 : (pre ++ pk x ++ [44]) ++ (joinC [44] (pk y :: pks ys) ++ (41 :: post)) = pre ++ (pk x ++ (44 :: (joinC [44] (pk y :: pks ys) ++ (41 :: post)))) := by simp
    have e3 : (pre ++ pk x ++ [44]).length = pre.length + (pk x).length + 1 := by simp; omega
    rw [e2, e3] at h2
    rw [e]
    refine .iMore h1 ?_ ?_
    · have e4 : pre ++ (pk x ++ (44 :: (joinC [44] (pk y :: pks ys) ++ (41 :: post)))) = (pre ++ pk x) ++ (44 :: (joinC [44] (pk y :: pks ys) ++ (41 :: post))) := by simp
      have e5 : pre.length + (pk x).length = (pre ++ pk x).length := by simp
      rw [e4, e5]; exact at_app
    · have e6 : acc ++ x :: y :: ys = acc ++ [x] ++ y :: ys := by simp
      have e7 : pre.length + (pk x ++ (44 :: joinC [44] (pk y :: pks ys))).length + 1 = pre.length + (pk x).length + 1 + (joinC [44] (pk y :: pks ys)).length + 1 := by simp; omega
      rw [e6, e7]; exact h2
theorem Rd.pack : ∀ (n d : Nat) (v : D), isTh n v = true → d + n ≤ 30 → ∀ pre post, noDig post → Rd (pre ++ (pk v ++ post)) .fw d pre.length (.ok v (pre.length + (pk v).length)) := by
  intro n
  induction n with
  | zero =>
    intro d v h hd pre post hp
    cases v with
    | non => exact .dot at_app
    | int i =>
      show Rd (pre ++ (icodes i ++ post)) _ _ _ (.ok (.int i) (pre.length + (icodes i).length))
      rw [← intO_pack (by simpa [isTh] using h) pre post hp]
      obtain ⟨c, r, e, hc⟩ := icodes_head (n := i)
      have ec : (pre ++ (pk (.int i) ++ post))[pre.length]? = some c := by show (pre ++ (icodes i ++ post))[_]? = _; rw [e]; exact at_app
      refine .int ec ?_ ?_ ?_ <;> (rcases hc with rfl | hc; decide; intro z; subst z; cases hc)
    | str l =>
      have := St.pack l [] (pre ++ [39]) post h
      have e : (pre ++ [39]) ++ (escL l ++ (39 :: post)) = pre ++ (pk (.str l) ++ post) := by simp [pk]
      have e2 : (pre ++ [39]).length = pre.length + 1 := by simp
      rw [e, e2] at this
      have e3 : pre.length + (pk (.str l)).length = pre.length + 1 + (escL l).length + 1 := by simp [pk]; omega
      rw [e3]
      refine .str ?_ this
      show (pre ++ (([39] ++ escL l ++ [39]) ++ post))[_]? = _
      simp
    | tup xs => cases h
    | bl b => cases h
    | obj a => cases h
  | succ n ih =>
    intro d v h hd pre post hp
    cases v with
    | non => exact .dot at_app
    | int i =>
      show Rd (pre ++ (icodes i ++ post)) _ _ _ (.ok (.int i) (pre.length + (icodes i).length))
      rw [← intO_pack (by simpa [isTh] using h) pre post hp]
      obtain ⟨c, r, e, hc⟩ := icodes_head (n := i)
      have ec : (pre ++ (pk (.int i) ++ post))[pre.length]? = some c := by show (pre ++ (icodes i ++ post))[_]? = _; rw [e]; exact at_app
      refine .int ec ?_ ?_ ?_ <;> (rcases hc with rfl | hc; decide; intro z; subst z; cases hc)
    | str l =>
      have := St.pack l [] (pre ++ [39]) post h
      have e : (pre ++ [39]) ++ (escL l ++ (39 :: post)) = pre ++ (pk (.str l) ++ post) := by simp [pk]
      have e2 : (pre ++ [39]).length = pre.length + 1 := by simp
      rw [e, e2] at this
      have e3 : pre.length + (pk (.str l)).length = pre.length + 1 + (escL l).length + 1 := by simp [pk]; omega
      rw [e3]
      refine .str ?_ this
      show (pre ++ (([39] ++ escL l ++ [39]) ++ post))[_]? = _
      simp
    | tup xs =>
      have h' : xs.all (isTh n) = true := h
      cases xs with
      | nil =>
        show Rd (pre ++ (40 :: 41 :: post)) _ _ _ (.ok _ (pre.length + 2))
        exact .tup0 at_app (by omega) at_app1
      | cons x xs =>
        rw [List.all_cons, Bool.and_eq_true] at h'
        have := Rd.items (d := d + 1) (fun v hv => ih (d + 1) v hv (by omega)) x xs [] (pre ++ [40]) post h'.1 h'.2
        have e : (pre ++ [40]) ++ (joinC [44] (pk x :: pks xs) ++ (41 :: post)) = pre ++ (pk (.tup (x :: xs)) ++ post) := by simp [pk, pks]
        have e2 : (pre ++ [40]).length = pre.length + 1 := by simp
        rw [e, e2] at this
        have e3 : pre.length + (pk (.tup (x :: xs))).length = pre.length + 1 + (joinC [44] (pk x :: pks xs)).length + 1 := by simp [pk, pks]; omega
        rw [e3]
        obtain ⟨c, r, ec, nc⟩ := pk_head h'.1
        have eh : ∃ r', joinC [44] (pk x :: pks xs) = c :: r' := by
          cases xs with
          | nil => exact ⟨r, ec⟩
          | cons y ys =>
            refine ⟨r ++ [44] ++ joinC [44] (pk y :: pks ys), ?_⟩
            show pk x ++ [44] ++ joinC [44] (pk y :: pks ys) = _
            rw [ec]; simp
        obtain ⟨r', er⟩ := eh
        refine .tup ?_ (by omega) ?_ this
        · show (pre ++ (([40] ++ joinC [44] (pks (x :: xs)) ++ [41]) ++ post))[_]? = _
          simp
        · show (pre ++ (([40] ++ joinC [44] (pk x :: pks xs) ++ [41]) ++ post))[_]? ≠ _
          rw [er]
          have : pre ++ (([40] ++ (c :: r') ++ [41]) ++ post) = pre ++ (40 :: c :: (r' ++ [41] ++ post)) := by simp
          rw [this, at_app1]
          intro z; cases z; exact nc rfl
    | bl b => cases h
    | obj a => cases h
end TX
set_option Elab.async false
set_option linter.all false
set_option maxRecDepth 100000
set_option maxHeartbeats 1000000
namespace H54
open PySem PySem.Spec PyProof.Rows L2 DL
def sp_is_integer : SpD := fun ds M Q _ => match ds with
  | [d] => kn M d = true ∧ Q (.bl (isI d)) M
  | _ => False
theorem h_is_integer : ∀ ds M Q0 E0, sp_is_integer ds M Q0 E0 → ds.length = 1 ∧ wpSs ⟨[], sub, fdOf cf⟩ (wF E0) none m_is_integer (endsF Q0) (startD N_is_integer.length ds) M := by
  intro ds M Q0 E0 h
  unfold sp_is_integer at h
  split at h
  · rename_i d
    obtain ⟨hT, hq⟩ := h
    refine ⟨rfl, ?_⟩
    unfold m_is_integer
    refine wp_last ?_
    show DL.wpS _ _ _ _ _ [some d] M
    simp only [DL.wpS, DL.wpE, wpBo, List.getElem?_cons_zero, isi_int hT, isi_bool hT, vTru]
    have := rt_of hq Sub.rfl'
    cases d <;> simpa [isI, isB] using this
  · exact h.elim
end H54
set_option Elab.async false
set_option linter.all false
set_option maxRecDepth 100000
set_option maxHeartbeats 1000000
namespace H54
open PySem PySem.Spec PyProof.Rows L2 DL
/-! ### the pot -/
structure Hd where
  idx : Int
  big : Int
  seed : Int
  cnt : Int
structure HdOk (h : Hd) : Prop where
  i0 : 0 ≤ h.idx
  b0 : 0 ≤ h.big
  s0 : 0 ≤ h.seed
  s1 : h.seed < 4294967296
  c0 : 0 ≤ h.cnt
def handL (cl : Addr) (h : Hd) : List D := [.obj cl, .int h.idx, .int h.big, .int h.seed, .int h.cnt]
structure HandAt (M : Mem) (p cl : Addr) (cells : List Int) (h : Hd) : Prop where
  at_ : M p = some (.lst (handL cl h))
  cl_ : rdL M cl = some (cells.map .int)
  ne : cl ≠ p
  pos : ∀ c ∈ cells, 0 ≤ c
  ok : HdOk h
/-- a pot that has been asked at most so often -/
def Hand (M : Mem) (p cl : Addr) (f : Nat) : Prop := ∃ cells h, HandAt M p cl cells h ∧ h.cnt ≤ f
/-- the same but at p -/
def Upd (p : Addr) (M N : Mem) : Prop := ∀ a, a ≠ p → N a = M a
theorem mup_self {M : Mem} {p : Addr} {o : MO} (h : M p = some o) : mup M p o = M := by
  funext a
  unfold mup
  split
  · rename_i e; rw [e, h]
  · rfl
theorem isDct_hand {M : Mem} {p cl : Addr} {h : Hd} : isDct (mup M p (.lst (handL cl h))) (.obj p) = false := by
  unfold isDct; simp only [mup_same]
section
variable {M : Mem} {p cl : Addr} {h : Hd} {Q : DK} {R : Mem → Prop} {v : Int}
abbrev HM (M : Mem) (p cl : Addr) (h : Hd) : Mem := mup M p (.lst (handL cl h))
theorem get0 : vGet (.obj p) (.int 0) (HM M p cl h) = fun Q => Q (.obj cl) (HM M p cl h) := by funext Q; exact vGet_lst (k := 0) rdL_new rfl
theorem get1 : vGet (.obj p) (.int 1) (HM M p cl h) = fun Q => Q (.int h.idx) (HM M p cl h) := by funext Q; exact vGet_lst (k := 1) rdL_new rfl
theorem get2 : vGet (.obj p) (.int 2) (HM M p cl h) = fun Q => Q (.int h.big) (HM M p cl h) := by funext Q; exact vGet_lst (k := 2) rdL_new rfl
theorem get3 : vGet (.obj p) (.int 3) (HM M p cl h) = fun Q => Q (.int h.seed) (HM M p cl h) := by funext Q; exact vGet_lst (k := 3) rdL_new rfl
theorem get4 : vGet (.obj p) (.int 4) (HM M p cl h) = fun Q => Q (.int h.cnt) (HM M p cl h) := by funext Q; exact vGet_lst (k := 4) rdL_new rfl
theorem set_at {k : Int} {j : Nat} {h' : Hd} (e : ixN 5 k = some j) (e2 : (handL cl h).set j (.int v) = handL cl h') : vSetG (.obj p) (.int k) (.int v) (HM M p cl h) = fun R => R (HM M p cl h') := by
  funext R
  unfold vSetG
  rw [isDct_hand]
  simp only [Bool.false_eq_true, if_false, vSetI, mup_same]
  have : (handL cl h).length = 5 := rfl
  rw [this, e]
  simp only [e2, mup_mup]
theorem set1 : vSetG (.obj p) (.int 1) (.int v) (HM M p cl h) = fun R => R (HM M p cl { h with idx := v }) := set_at (j := 1) (by decide +kernel) rfl
theorem set2 : vSetG (.obj p) (.int 2) (.int v) (HM M p cl h) = fun R => R (HM M p cl { h with big := v }) := set_at (j := 2) (by decide +kernel) rfl
theorem set3 : vSetG (.obj p) (.int 3) (.int v) (HM M p cl h) = fun R => R (HM M p cl { h with seed := v }) := set_at (j := 3) (by decide +kernel) rfl
theorem set4 : vSetG (.obj p) (.int 4) (.int v) (HM M p cl h) = fun R => R (HM M p cl { h with cnt := v }) := set_at (j := 4) (by decide +kernel) rfl
end
theorem mulE {M : Mem} {i j : Int} (h : i.natAbs < 2 ^ 100) (h' : j.natAbs < 2 ^ 100) : binS .Mult (.int i) (.int j) M = fun Q => Q (.int (i * j)) M := by
  funext Q; exact vMul_ok h h'
theorem modE {M : Mem} {i j : Int} (h : 0 < j) : binS .Mod (.int i) (.int j) M = fun Q => Q (.int (i % j)) M := by
  funext Q; simp [binS, vMod, vI, h]
theorem divE {M : Mem} {i j : Int} (h : 0 < j) (h' : j < 2 ^ 60) : binS .FloorDiv (.int i) (.int j) M = fun Q => Q (.int (i / j)) M := by
  funext Q
  have : j.natAbs.log2 < 9000 := by
    have : j.natAbs < 2 ^ 60 := by omega
    have := Nat.log2_lt (n := j.natAbs) (k := 60) (by omega)
    omega
  simp [binS, vDiv, vI, h, this]
theorem addE {M : Mem} {i j : Int} : binS .Add (.int i) (.int j) M = fun Q => Q (.int (i + j)) M := by funext Q; rfl
theorem subE {M : Mem} {i j : Int} : binS .Sub (.int i) (.int j) M = fun Q => Q (.int (i - j)) M := by funext Q; exact binS_sub
theorem powE {M : Mem} : binS .Pow (.int 10) (.int 18) M = fun Q => Q (.int 1000000000000000000) M := by
  funext Q
  have : (10 : Int) ^ (18 : Int).toNat = 1000000000000000000 := by decide
  simp [binS, vPow, vI]
theorem intE {M : Mem} {i : Int} : biS .int [.int i] M = fun Q => Q (.int i) M := by funext Q; rfl
theorem wp_at {cs : Pk} {W : WD} {xo : XO} {s : MS} {D0 : EndsD} {ρ : En} {M N : Mem} (e : N = M) (h : DL.wpS cs W xo s D0 ρ N) : DL.wpS cs W xo s D0 ρ M := e ▸ h
def sp_draw : SpD := fun ds M Q _ => match ds with
  | [.obj p, .int many] => ∃ (cl : Addr) (f : Nat), Hand M p cl f ∧ f < 2 ^ 60 ∧ 0 < many ∧ many < 2 ^ 60 ∧ ∀ N r, Upd p M N → Hand N p cl (f + 1) → 0 ≤ r → r < many → Q (.int r) N
  | _ => False
theorem h__law_draw : ∀ ds M Q0 E0, sp_draw ds M Q0 E0 → ds.length = 2 ∧ wpSs ⟨[], sub, fdOf cf⟩ (wF E0) none m__law_draw (endsF Q0) (startD N__law_draw.length ds) M := by
  intro ds M Q0 E0 hh
  unfold sp_draw at hh
  split at hh
  · rename_i p many
    obtain ⟨cl, f, ⟨cells, h, hA, hf⟩, hf60, hm0, hm60, hq⟩ := hh
    refine ⟨rfl, ?_⟩
    unfold m__law_draw
    have eM : HM M p cl h = M := mup_self hA.at_
    have hcl : ∀ o, rdL (mup M p o) cl = some (cells.map .int) := fun o => by
      have := hA.cl_
      unfold rdL at this ⊢
      rw [mup_ne hA.ne]; exact this
    -- every end of it
    have fin : ∀ h' : Hd, HdOk h' → h'.cnt ≤ h.cnt + 1 → ∀ r, 0 ≤ r → r < many → (endsF Q0).rt (.int r) (HM M p cl h') := fun h' ok' hc r r0 r1 => by
      refine rt_of (hq (HM M p cl h') r (fun a ha => mup_ne ha) ⟨cells, h', ⟨mup_same, hcl _, hA.ne, hA.pos, ok'⟩, by omega⟩ r0 r1) Sub.rfl'
    refine wp_cut (fun ρ' M' => ∃ h' x2, ρ' = [some (.obj p), some (.int many), x2, none, none] ∧ M' = HM M p cl h' ∧ HdOk h' ∧ h'.cnt = h.cnt) ?_ ?_
    · show DL.wpS _ _ _ _ _ [some (.obj p), some (.int many), none, none, none] M
      refine wp_at eM ?_
      have nxt0 : ∃ h' x2, [some (D.obj p), some (D.int many), none, none, none] = [some (D.obj p), some (D.int many), x2, none, none] ∧ HM M p cl h = HM M p cl h' ∧ HdOk h' ∧ h'.cnt = h.cnt := ⟨h, none, rfl, rfl, hA.ok, rfl⟩
      simp only [DL.wpS, wpT, wpTs, DL.wpE, DL.wpA, List.getElem?_cons_zero, List.getElem?_cons_succ, get2, cmpS, vEqK, vTru]
      by_cases hb : h.big = 0
      · simp only [hb, decide_true, Bool.false_eq_true, if_false, if_true, get1, get0, biS, rdS, hcl, vLt, vOrd, vTru, List.length_map]
        by_cases hi : h.idx < (cells.length : Int)
        · have hi0 := hA.ok.i0
          have hget : cells[h.idx.toNat]? = some cells[h.idx.toNat] := List.getElem?_eq_getElem (by omega)
          have hc0 := hA.pos _ (List.mem_of_getElem? hget)
          generalize cells[h.idx.toNat] = cell at hget hc0
          have gcl : ∀ o, vGet (.obj cl) (.int h.idx) (mup M p o) = fun Q => Q (.int cell) (mup M p o) := fun o => by
            funext Q
            have := vGet_lst (M := mup M p o) (Q := Q) (k := h.idx.toNat) (d := .int cell) (hcl o) (by rw [List.getElem?_map, hget]; rfl)
            rw [show ((h.idx.toNat : Nat) : Int) = h.idx by omega] at this
            exact this
          simp only [hi, decide_true, if_true]
          refine wp_cons ?_
          simp only [DL.wpS, DL.wpE, List.getElem?_cons_zero, List.getElem?_cons_succ, get0, get1, gcl, wpTg, List.set_cons_succ, List.set_cons_zero]
          refine wp_cons ?_
          simp only [DL.wpS, DL.wpE, List.getElem?_cons_zero, List.getElem?_cons_succ, get1, addE, set1]
          refine wp_cons ?_
          have hs0 := hA.ok.s0
          have hs1 := hA.ok.s1
          simp only [DL.wpS, DL.wpE, DL.wpA, List.getElem?_cons_zero, List.getElem?_cons_succ, get3, addE]
          rw [mulE (by omega) (by decide)]
          simp only [addE, intE, modE (show (0 : Int) < 2147483629 by decide), set3]
          have a1 := Int.emod_nonneg (h.seed * 69621 + cell + 11) (show (2147483629 : Int) ≠ 0 by decide)
          have a2 := Int.emod_lt_of_pos (h.seed * 69621 + cell + 11) (show (0 : Int) < 2147483629 by decide)
          generalize (h.seed * 69621 + cell + 11) % 2147483629 = sd at a1 a2 ⊢
          refine wp_last ?_
          simp only [DL.wpS, wpT, DL.wpE, List.getElem?_cons_zero, List.getElem?_cons_succ, powE, cmpS, vGe, vOrd, vTru]
          have ok1 : HdOk { idx := h.idx + 1, big := h.big, seed := sd, cnt := h.cnt } := ⟨by show 0 ≤ h.idx + 1; omega, hA.ok.b0, a1, by show sd < 4294967296; omega, hA.ok.c0⟩
          by_cases hbig : (1000000000000000000 : Int) ≤ cell
          · simp only [hbig, decide_true, if_true]
            refine wp_last ?_
            simp only [DL.wpS, DL.wpE, List.getElem?_cons_zero, List.getElem?_cons_succ, set2]
            exact ⟨{ idx := h.idx + 1, big := cell, seed := sd, cnt := h.cnt }, _, rfl, rfl, ⟨ok1.i0, hc0, ok1.s0, ok1.s1, ok1.c0⟩, rfl⟩
          · simp only [hbig, decide_false, Bool.false_eq_true, if_false]
            exact wp_nil ⟨_, _, rfl, rfl, ok1, rfl⟩
        · simp only [hi, decide_false, Bool.false_eq_true, if_false]
          exact wp_nil nxt0
      · simp only [hb, decide_false, Bool.false_eq_true, if_false, Bool.not_true]
        exact wp_nil nxt0
    · rintro ρ' M' ⟨h', x2, rfl, rfl, ok', hc⟩
      refine ⟨_, Sub.rfl', wp_cons ?_⟩
      simp only [DL.wpS, wpT, DL.wpE, List.getElem?_cons_zero, List.getElem?_cons_succ, get2, cmpS, vGt, vOrd, vTru]
      by_cases hb : (0 : Int) < h'.big
      · simp only [hb, decide_true, if_true]
        refine wp_cons ?_
        simp only [DL.wpS, DL.wpE, DL.wpA, List.getElem?_cons_zero, List.getElem?_cons_succ, get2, intE, modE hm0, wpTg, List.set_cons_succ, List.set_cons_zero]
        refine wp_cons ?_
        simp only [DL.wpS, DL.wpE, List.getElem?_cons_zero, List.getElem?_cons_succ, get2, divE hm0 hm60, set2]
        refine wp_last ?_
        simp only [DL.wpS, DL.wpE, List.getElem?_cons_zero, List.getElem?_cons_succ]
        exact fin { h' with big := h'.big / many } ⟨ok'.i0, Int.ediv_nonneg ok'.b0 (by omega), ok'.s0, ok'.s1, ok'.c0⟩ (by show h'.cnt ≤ h.cnt + 1; omega) _ (Int.emod_nonneg _ (by omega)) (Int.emod_lt_of_pos _ hm0)
      · simp only [hb, decide_false, Bool.false_eq_true, if_false]
        refine wp_nil ?_
        refine wp_cons ?_
        simp only [DL.wpS, DL.wpE, List.getElem?_cons_zero, List.getElem?_cons_succ, get4, addE, set4]
        have hs0 := ok'.s0
        have hs1 := ok'.s1
        have hc0 := ok'.c0
        refine wp_cons ?_
        simp only [DL.wpS, DL.wpE, DL.wpA, List.getElem?_cons_zero, List.getElem?_cons_succ, get3, get4]
        rw [mulE (by decide) (by omega)]
        simp only [addE, intE]
        rw [mulE (by omega) (by decide)]
        simp only [intE, modE (show (0 : Int) < 2147483647 by decide), wpTg, List.set_cons_succ, List.set_cons_zero]
        have a1 := Int.emod_nonneg ((h'.seed + 7919 * (h'.cnt + 1)) * 48271) (show (2147483647 : Int) ≠ 0 by decide)
        have a2 := Int.emod_lt_of_pos ((h'.seed + 7919 * (h'.cnt + 1)) * 48271) (show (0 : Int) < 2147483647 by decide)
        generalize ((h'.seed + 7919 * (h'.cnt + 1)) * 48271) % 2147483647 = n1 at a1 a2 ⊢
        refine wp_cons ?_
        simp only [DL.wpS, DL.wpE, DL.wpA, List.getElem?_cons_zero, List.getElem?_cons_succ, divE (show (0 : Int) < 1009 by decide) (by decide), addE]
        rw [mulE (by omega) (by omega)]
        simp only [intE, modE (show (0 : Int) < 2147483647 by decide), wpTg, List.set_cons_succ, List.set_cons_zero]
        have b1 := Int.emod_nonneg (n1 * (n1 / 1009 + 69621)) (show (2147483647 : Int) ≠ 0 by decide)
        have b2 := Int.emod_lt_of_pos (n1 * (n1 / 1009 + 69621)) (show (0 : Int) < 2147483647 by decide)
        generalize (n1 * (n1 / 1009 + 69621)) % 2147483647 = n2 at b1 b2 ⊢
        refine wp_cons ?_
        simp only [DL.wpS, DL.wpE, DL.wpA, List.getElem?_cons_zero, List.getElem?_cons_succ, divE (show (0 : Int) < 2003 by decide) (by decide), addE]
        rw [mulE (by omega) (by omega)]
        simp only [intE, modE (show (0 : Int) < 2147483399 by decide), wpTg, List.set_cons_succ, List.set_cons_zero]
        generalize (n2 * (n2 / 2003 + 40692)) % 2147483399 = n3
        refine wp_last ?_
        simp only [DL.wpS, DL.wpE, DL.wpA, List.getElem?_cons_zero, List.getElem?_cons_succ, divE (show (0 : Int) < 16 by decide) (by decide), intE, modE hm0]
        exact fin { h' with cnt := h'.cnt + 1 } ⟨ok'.i0, ok'.b0, ok'.s0, ok'.s1, by show 0 ≤ h'.cnt + 1; omega⟩ (by show h'.cnt + 1 ≤ h.cnt + 1; omega) _ (Int.emod_nonneg _ (by omega)) (Int.emod_lt_of_pos _ hm0)
  · exact hh.elim
end H54
set_option Elab.async false
set_option linter.all false
set_option maxRecDepth 100000
set_option maxHeartbeats 1000000
namespace H54
open PySem PySem.Spec PyProof.Rows L2 DL
def iabs (i : Int) : Int := if i < 0 then -i else i
def sp_pot : SpD := fun ds M Q _ => match ds with
  | [.obj a] => ∃ ns : List Int, rdL M a = some (ns.map .int) ∧ ns.length ≤ 63 ∧ ∀ N p cl, Sub M N → M p = none → M cl = none → Hand N p cl 0 → Q (.obj p) N
  | _ => False
theorem h__law_hand : ∀ ds M Q0 E0, sp_pot ds M Q0 E0 → ds.length = 1 ∧ wpSs ⟨[], sub, fdOf cf⟩ (wF E0) none m__law_hand (endsF Q0) (startD N__law_hand.length ds) M := by
  intro ds M Q0 E0 hh
  unfold sp_pot at hh
  split at hh
  · rename_i a
    obtain ⟨ns, ha, hl, hq⟩ := hh
    refine ⟨rfl, ?_⟩
    unfold m__law_hand
    refine wp_cons ?_
    show DL.wpS _ _ _ _ _ [some (.obj a), none, none] M
    have ecut : cut (ns.map D.int) none (some 63) = ns.map D.int := by
      unfold cut
      rw [HT.sIx_none, show (63 : Int) = ((63 : Nat) : Int) from rfl, HT.sIx_nat, List.drop_zero, Nat.sub_zero]
      exact List.take_of_length_le (by rw [List.length_map]; omega)
    simp only [DL.wpS, DL.wpE, DL.wpA, DL.wpI, optI, List.getElem?_cons_zero, List.getElem?_cons_succ, vSlc, ha, ecut]
    intro p1 hp1
    simp only [itsOf, rdL_new]
    refine lc_map (fun x => match x with | .int i => .int (iabs i) | _ => .non) rdL_new _ _ (by rw [List.length_map]; exact Nat.le_trans hl (by decide)) (fun x hx K1 h1 => ?_) fun p2 hp2 => ?_
    · obtain ⟨i, _, rfl⟩ := List.mem_map.mp hx
      simp only [wpTg, wipeD, List.map_cons, List.map_nil, List.set_cons_succ, List.set_cons_zero, DL.wpE, DL.wpA, List.getElem?_cons_zero, List.getElem?_cons_succ, intE]
      exact h1
    · simp only [wpTg, List.set_cons_succ, List.set_cons_zero]
      refine wp_last ?_
      simp only [DL.wpS, DL.wpE, DL.wpA, List.getElem?_cons_zero, List.getElem?_cons_succ, biS, rdS, rdL_new, addE]
      intro p3 hp3
      obtain ⟨n32, hp3'⟩ := mup_none hp3
      obtain ⟨n21, hp2'⟩ := mup_none hp2
      have ecells : (ns.map D.int).map (fun x => match x with | .int i => .int (iabs i) | _ => .non) = (ns.map iabs).map D.int := by
        rw [List.map_map, List.map_map]; rfl
      refine rt_of (hq _ p3 p2 (((Sub.new hp1).trans (Sub.new hp2)).trans (Sub.new hp3)) (mup_none hp3').2 hp2' ⟨ns.map iabs, ⟨0, 0, 1 + (ns.length : Int), 0⟩, ⟨?_, ?_, Ne.symm n32, fun c hc => ?_, ?_⟩, ?_⟩) Sub.rfl'
      · rw [mup_same]
        simp [handL]
      · unfold rdL
        rw [mup_ne (Ne.symm n32), mup_same, ecells]
      · obtain ⟨i, _, rfl⟩ := List.mem_map.mp hc
        unfold iabs
        split <;> omega
      · exact ⟨Int.le_refl 0, Int.le_refl 0, by show (0 : Int) ≤ 1 + ns.length; omega, by show (1 : Int) + ns.length < 4294967296; omega, Int.le_refl 0⟩
      · exact Int.le_refl 0
  · exact hh.elim
def sp_any : SpD := fun ds M Q _ => match ds with
  | [.obj p, d] => ∃ (cl : Addr) (f : Nat) (xs : List D), Hand M p cl f ∧ f < 2 ^ 60 ∧ (d = .tup xs ∨ ∃ a, d = .obj a ∧ a ≠ p ∧ rdL M a = some xs) ∧ xs ≠ [] ∧ xs.length < 1000000 ∧ ∀ N x, Upd p M N → Hand N p cl (f + 1) → x ∈ xs → Q x N
  | _ => False
theorem h__law_any (k : Nat) : ∀ ds M Q0 E0, sp_any ds M Q0 E0 → ds.length = 2 ∧ wpSs ⟨[C__law_draw k sp_draw], sub, fdOf cf⟩ (wF E0) none m__law_any (endsF Q0) (startD N__law_any.length ds) M := by
  intro ds M Q0 E0 hh
  unfold sp_any at hh
  split at hh
  · rename_i p d
    obtain ⟨cl, f, xs, hH, hf, hd, hne, hlen, hq⟩ := hh
    refine ⟨rfl, ?_⟩
    unfold m__law_any
    refine wp_last ?_
    show DL.wpS _ _ _ _ _ [some (.obj p), some d] M
    have hpos : 0 < xs.length := List.length_pos_iff.mpr hne
    have hrd : rdS M d = some xs := by
      rcases hd with rfl | ⟨a, rfl, _, h⟩
      · rfl
      · exact h
    have elen : ∀ Q, biS .len [d] M Q = Q (.int xs.length) M := fun Q => by
      rcases hd with rfl | ⟨a, rfl, _, h⟩
      · rfl
      · simp only [biS, rdS, h]
    simp only [DL.wpS, DL.wpE, DL.wpA, List.getElem?_cons_zero, List.getElem?_cons_succ, elen]
    refine ⟨cl, f, hH, hf, by omega, by omega, fun N r hU hN r0 r1 => ?_⟩
    have hr : xs[r.toNat]? = some xs[r.toNat] := List.getElem?_eq_getElem (by omega)
    have hg : vGet d (.int r) N (endsF Q0).rt = (endsF Q0).rt xs[r.toNat] N := by
      rcases hd with rfl | ⟨a, rfl, hap, h⟩
      · have := vGet_tup (M := N) (Q := (endsF Q0).rt) hr
        rw [show ((r.toNat : Nat) : Int) = r by omega] at this
        exact this
      · have h' : rdL N a = some xs := by unfold rdL at h ⊢; rw [hU a hap]; exact h
        have := vGet_lst (M := N) (Q := (endsF Q0).rt) h' hr
        rw [show ((r.toNat : Nat) : Int) = r by omega] at this
        exact this
    show vGet d (.int r) N (endsF Q0).rt
    rw [hg]
    exact rt_of (hq N _ hU hN (List.mem_of_getElem? hr)) Sub.rfl'
  · exact hh.elim
end H54
set_option Elab.async false
set_option linter.all false
set_option maxRecDepth 100000
set_option maxHeartbeats 1000000
namespace H54
open PySem PySem.Spec PyProof.Rows L2 DL
theorem Hand.mono {M : Mem} {p cl : Addr} {f g : Nat} (h : Hand M p cl f) (l : f ≤ g) : Hand M p cl g := by
  obtain ⟨cells, h', a, b⟩ := h
  exact ⟨cells, h', a, by omega⟩
theorem Hand.ne {M : Mem} {p cl : Addr} {f : Nat} (h : Hand M p cl f) : M p ≠ none := by
  obtain ⟨cells, h', a, b⟩ := h
  rw [a.at_]; exact fun z => nomatch z
theorem Hand.fresh {M : Mem} {p cl q : Addr} {f : Nat} (h : Hand M p cl f) (e : M q = none) : q ≠ p := fun z => h.ne (z ▸ e)
theorem Hand.kn {M : Mem} {p cl : Addr} {f : Nat} (h : Hand M p cl f) : DL.kn M (.obj p) = true := by
  obtain ⟨cells, h', a, b⟩ := h
  show (match M p with | some (.lst _) => some "list" | some (.ro _) => some "list" | some (.dct _) => some "dict" | _ => (none : Option String)).isSome = true
  rw [a.at_]; rfl
theorem Hand.up {M N : Mem} {p cl : Addr} {f : Nat} (h : Hand M p cl f) (e : N p = M p) (s : ∀ xs, rdL M cl = some xs → rdL N cl = some xs) : Hand N p cl f := by
  obtain ⟨cells, h', a, b⟩ := h
  exact ⟨cells, h', ⟨by rw [e]; exact a.at_, s _ a.cl_, a.ne, a.pos, a.ok⟩, b⟩
theorem Hand.new {M : Mem} {p cl q : Addr} {f : Nat} {o : MO} (h : Hand M p cl f) (e : M q = none) : Hand (mup M q o) p cl f := by
  refine h.up (mup_ne (Ne.symm (h.fresh e))) fun xs hx => ?_
  rw [rdL_up (Upd_none hx e)]; exact hx
/-- what stands beside the pot and its cells may change -/
theorem Hand.put {M : Mem} {p cl q : Addr} {f : Nat} {o : MO} (h : Hand M p cl f) (e : q ≠ p) (e2 : q ≠ cl) : Hand (mup M q o) p cl f := by
  refine h.up (mup_ne (Ne.symm e)) fun xs hx => ?_
  rw [rdL_up (Ne.symm e2)]; exact hx
theorem Hand.cell {M : Mem} {p cl : Addr} {f : Nat} (h : Hand M p cl f) : ∃ xs, rdL M cl = some xs ∧ cl ≠ p := by
  obtain ⟨cells, h', a, b⟩ := h
  exact ⟨_, a.cl_, a.ne⟩
theorem Upd.upx {p : Addr} {M N : Mem} (h : Upd p M N) : UpX p M N := fun a o ne e => by rw [h a ne]; exact e
theorem Upd.get {p q : Addr} {M N : Mem} {o : MO} (h : Upd p M N) (ne : q ≠ p) (e : M q = some o) : N q = some o := by rw [h q ne]; exact e
end H54
set_option Elab.async false
set_option linter.all false
set_option maxRecDepth 100000
set_option maxHeartbeats 1000000
namespace H54
open PySem PySem.Spec PyProof.Rows L2 DL TX
/-! ### checks -/
def sg (c : Nat) : Bool := decide (32 ≤ c) && decide (c ≤ 126)
theorem le1 {a b : Nat} : (!decide (([b] : List Nat) < [a])) = decide (a ≤ b) := by
  have : (([b] : List Nat) < [a]) ↔ b < a := by rw [List.cons_lt_cons_iff]; simp [List.not_lt_nil]
  by_cases h : b < a <;> simp [this, h] <;> omega
def sp_is_sign : SpD := fun ds M Q _ => match ds with
  | [.str [c]] => Q (.bl (sg c)) M
  | _ => False
theorem h_is_sign : ∀ ds M Q0 E0, sp_is_sign ds M Q0 E0 → ds.length = 1 ∧ wpSs ⟨[], sub, fdOf cf⟩ (wF E0) none m_is_sign (endsF Q0) (startD N_is_sign.length ds) M := by
  intro ds M Q0 E0 h
  unfold sp_is_sign at h
  split at h
  · rename_i c
    refine ⟨rfl, ?_⟩
    unfold m_is_sign
    refine wp_last ?_
    show DL.wpS _ _ _ _ _ [some (.str [c])] M
    (try simp only [DL.wpS, DL.wpE, DL.wpA, wpT, wpTs, wpBo, DL.wpI, wpIf, wpTg, wpTgs, optI, List.getElem?_cons_zero, List.getElem?_cons_succ, List.set_cons_succ, List.set_cons_zero, vTru, cmpS, vIsK, vLt, vLe, vGt, vGe, vOrd, DL.isNon, addE, subE, biS, rdS, rdL_new, Bool.not_true, Bool.not_false, if_true, if_false, Bool.false_eq_true, Bool.true_eq_false, reduceIte, true_and, and_true, decide_true, decide_false, vGet_0, vGet_1, slcT, addT, le1])
    unfold sg at h
    by_cases h1 : 32 ≤ c
    · simp only [h1, decide_true, Bool.true_and] at h ⊢
      exact rt_of h Sub.rfl'
    · simp only [h1, decide_false, Bool.false_and] at h ⊢
      exact rt_of h Sub.rfl'
  · exact h.elim
def sgs : D → Bool | .str l => l.all sg | _ => false
def sp_is_signs : SpD := fun ds M Q _ => match ds with
  | [d] => kn M d = true ∧ (∀ l, d = .str l → l.length ≤ 1048576) ∧ Q (.bl (sgs d)) M
  | _ => False
theorem h_is_signs (k : Nat) : ∀ ds M Q0 E0, sp_is_signs ds M Q0 E0 → ds.length = 1 ∧ wpSs ⟨[C_is_sign k sp_is_sign], sub, fdOf cf⟩ (wF E0) none m_is_signs (endsF Q0) (startD N_is_signs.length ds) M := by
  intro ds M Q0 E0 h
  unfold sp_is_signs at h
  split at h
  · rename_i d
    obtain ⟨hT, hl, hq⟩ := h
    refine ⟨rfl, ?_⟩
    unfold m_is_signs
    refine wp_last ?_
    show DL.wpS _ _ _ _ _ [some d, none] M
    (try simp only [DL.wpS, DL.wpE, DL.wpA, wpT, wpTs, wpBo, DL.wpI, wpIf, wpTg, wpTgs, optI, List.getElem?_cons_zero, List.getElem?_cons_succ, List.set_cons_succ, List.set_cons_zero, vTru, cmpS, vIsK, vLt, vLe, vGt, vGe, vOrd, DL.isNon, addE, subE, biS, rdS, rdL_new, Bool.not_true, Bool.not_false, if_true, if_false, Bool.false_eq_true, Bool.true_eq_false, reduceIte, true_and, and_true, decide_true, decide_false, vGet_0, vGet_1, slcT, addT, isi_str hT])
    cases d with
    | str l =>
      have := hl l rfl
      (try simp only [DL.wpS, DL.wpE, DL.wpA, wpT, wpTs, wpBo, DL.wpI, wpIf, wpTg, wpTgs, optI, List.getElem?_cons_zero, List.getElem?_cons_succ, List.set_cons_succ, List.set_cons_zero, vTru, cmpS, vIsK, vLt, vLe, vGt, vGe, vOrd, DL.isNon, addE, subE, biS, rdS, rdL_new, Bool.not_true, Bool.not_false, if_true, if_false, Bool.false_eq_true, Bool.true_eq_false, reduceIte, true_and, and_true, decide_true, decide_false, vGet_0, vGet_1, slcT, addT, isS, itsOf])
      refine lc_map (fun x => match x with | .str [c] => .bl (sg c) | _ => .non) trivial _ _ (by rw [List.length_map]; unfold big; omega) (fun x hx K1 h1 => ?_) fun p hp => ?_
      · obtain ⟨c, _, rfl⟩ := List.mem_map.mp hx
        (try simp only [DL.wpS, DL.wpE, DL.wpA, wpT, wpTs, wpBo, DL.wpI, wpIf, wpTg, wpTgs, optI, List.getElem?_cons_zero, List.getElem?_cons_succ, List.set_cons_succ, List.set_cons_zero, vTru, cmpS, vIsK, vLt, vLe, vGt, vGe, vOrd, DL.isNon, addE, subE, biS, rdS, rdL_new, Bool.not_true, Bool.not_false, if_true, if_false, Bool.false_eq_true, Bool.true_eq_false, reduceIte, true_and, and_true, decide_true, decide_false, vGet_0, vGet_1, slcT, addT, wipeD, List.map_cons, List.map_nil])
        exact h1
      · have e : (l.map fun c => D.str [c]).map (fun x => match x with | .str [c] => .bl (sg c) | _ => .non) = l.map fun c => D.bl (sg c) := by rw [List.map_map]; rfl
        rw [e]
        (try simp only [DL.wpS, DL.wpE, DL.wpA, wpT, wpTs, wpBo, DL.wpI, wpIf, wpTg, wpTgs, optI, List.getElem?_cons_zero, List.getElem?_cons_succ, List.set_cons_succ, List.set_cons_zero, vTru, cmpS, vIsK, vLt, vLe, vGt, vGe, vOrd, DL.isNon, addE, subE, biS, rdS, rdL_new, Bool.not_true, Bool.not_false, if_true, if_false, Bool.false_eq_true, Bool.true_eq_false, reduceIte, true_and, and_true, decide_true, decide_false, vGet_0, vGet_1, slcT, addT])
        have e2 : (l.map fun c => D.bl (sg c)).mapM asBl = some (l.map sg) := by
          have := asBl_map (l.map sg)
          rw [List.map_map] at this
          exact this
        simp only [e2]
        have e3 : (l.map sg).all id = l.all sg := by rw [List.all_map]; rfl
        rw [e3]
        exact rt_of hq (Sub.new hp)
    | _ => (try simp only [DL.wpS, DL.wpE, DL.wpA, wpT, wpTs, wpBo, DL.wpI, wpIf, wpTg, wpTgs, optI, List.getElem?_cons_zero, List.getElem?_cons_succ, List.set_cons_succ, List.set_cons_zero, vTru, cmpS, vIsK, vLt, vLe, vGt, vGe, vOrd, DL.isNon, addE, subE, biS, rdS, rdL_new, Bool.not_true, Bool.not_false, if_true, if_false, Bool.false_eq_true, Bool.true_eq_false, reduceIte, true_and, and_true, decide_true, decide_false, vGet_0, vGet_1, slcT, addT, isS]); exact rt_of hq Sub.rfl'
  · exact h.elim
theorem isTh_tup {n : Nat} {xs : List D} : isTh n (.tup xs) = (decide (0 < n) && xs.all (isTh (n - 1))) := by
  cases n <;> simp [isTh]
theorem isTh_str {n : Nat} {l : List Nat} : isTh n (.str l) = l.all sg := by cases n <;> rfl
theorem isTh_int {n : Nat} {i : Int} : isTh n (.int i) = (decide (-great ≤ i) && decide (i ≤ great)) := by cases n <;> rfl
theorem isTh_non {n : Nat} : isTh n .non = true := by cases n <;> rfl
theorem isTh_bl {n : Nat} {b : Bool} : isTh n (.bl b) = false := by cases n <;> rfl
theorem isTh_obj {n : Nat} {a : Addr} : isTh n (.obj a) = false := by cases n <;> rfl
def sp_thg (j : Nat) : SpD := fun ds M Q _ => match ds with
  | [d, .int n] => 0 ≤ n ∧ n < j ∧ Kw M d ∧ Q (.bl (isTh n.toNat d)) M
  | _ => False
theorem h_is_thing (k1 k2 k3 j : Nat) : ∀ ds M Q0 E0, sp_thg (j + 1) ds M Q0 E0 → ds.length = 2 ∧ wpSs ⟨[C_is_thing k1 (sp_thg j), C_is_integer k2 sp_is_integer, C_is_signs k3 sp_is_signs], sub, fdOf cf⟩ (wF E0) none m_is_thing (endsF Q0) (startD N_is_thing.length ds) M := by
  intro ds M Q0 E0 h
  unfold sp_thg at h
  split at h
  · rename_i d n
    obtain ⟨n0, nj, hw, hq⟩ := h
    have hk := hw.kn
    have rt : ∀ {b : Bool} {N : Mem}, isTh n.toNat d = b → Sub M N → (endsF Q0).rt (.bl b) N := fun e s => by rw [e] at hq; exact rt_of hq s
    refine ⟨rfl, ?_⟩
    unfold m_is_thing
    refine wp_cons ?_
    show DL.wpS _ _ _ _ _ [some d, some (.int n), none] M
    (try simp only [DL.wpS, DL.wpE, DL.wpA, wpT, wpTs, wpBo, DL.wpI, wpIf, wpTg, wpTgs, optI, List.getElem?_cons_zero, List.getElem?_cons_succ, List.set_cons_succ, List.set_cons_zero, vTru, cmpS, vIsK, vLt, vLe, vGt, vGe, vOrd, DL.isNon, addE, subE, biS, rdS, rdL_new, Bool.not_true, Bool.not_false, if_true, if_false, Bool.false_eq_true, Bool.true_eq_false, reduceIte, true_and, and_true, decide_true, decide_false, vGet_0, vGet_1, slcT, addT, isi_tup hk])
    cases d with
    | tup xs =>
      obtain ⟨hl, hx⟩ := hw.tup'
      (try simp only [DL.wpS, DL.wpE, DL.wpA, wpT, wpTs, wpBo, DL.wpI, wpIf, wpTg, wpTgs, optI, List.getElem?_cons_zero, List.getElem?_cons_succ, List.set_cons_succ, List.set_cons_zero, vTru, cmpS, vIsK, vLt, vLe, vGt, vGe, vOrd, DL.isNon, addE, subE, biS, rdS, rdL_new, Bool.not_true, Bool.not_false, if_true, if_false, Bool.false_eq_true, Bool.true_eq_false, reduceIte, true_and, and_true, decide_true, decide_false, vGet_0, vGet_1, slcT, addT, isTp])
      refine wp_last ?_
      by_cases hn : 0 < n
      · (try simp only [DL.wpS, DL.wpE, DL.wpA, wpT, wpTs, wpBo, DL.wpI, wpIf, wpTg, wpTgs, optI, List.getElem?_cons_zero, List.getElem?_cons_succ, List.set_cons_succ, List.set_cons_zero, vTru, cmpS, vIsK, vLt, vLe, vGt, vGe, vOrd, DL.isNon, addE, subE, biS, rdS, rdL_new, Bool.not_true, Bool.not_false, if_true, if_false, Bool.false_eq_true, Bool.true_eq_false, reduceIte, true_and, and_true, decide_true, decide_false, vGet_0, vGet_1, slcT, addT, hn])
        (try simp only [DL.wpS, DL.wpE, DL.wpA, wpT, wpTs, wpBo, DL.wpI, wpIf, wpTg, wpTgs, optI, List.getElem?_cons_zero, List.getElem?_cons_succ, List.set_cons_succ, List.set_cons_zero, vTru, cmpS, vIsK, vLt, vLe, vGt, vGe, vOrd, DL.isNon, addE, subE, biS, rdS, rdL_new, Bool.not_true, Bool.not_false, if_true, if_false, Bool.false_eq_true, Bool.true_eq_false, reduceIte, true_and, and_true, decide_true, decide_false, vGet_0, vGet_1, slcT, addT, itsOf])
        refine lc_map (fun x => .bl (isTh (n - 1).toNat x)) trivial _ _ (by unfold big; omega) (fun x hx' K1 h1 => ?_) fun p hp => ?_
        · (try simp only [DL.wpS, DL.wpE, DL.wpA, wpT, wpTs, wpBo, DL.wpI, wpIf, wpTg, wpTgs, optI, List.getElem?_cons_zero, List.getElem?_cons_succ, List.set_cons_succ, List.set_cons_zero, vTru, cmpS, vIsK, vLt, vLe, vGt, vGe, vOrd, DL.isNon, addE, subE, biS, rdS, rdL_new, Bool.not_true, Bool.not_false, if_true, if_false, Bool.false_eq_true, Bool.true_eq_false, reduceIte, true_and, and_true, decide_true, decide_false, vGet_0, vGet_1, slcT, addT, wipeD, List.map_cons, List.map_nil])
          exact ⟨by omega, by omega, hx x hx', h1⟩
        · (try simp only [DL.wpS, DL.wpE, DL.wpA, wpT, wpTs, wpBo, DL.wpI, wpIf, wpTg, wpTgs, optI, List.getElem?_cons_zero, List.getElem?_cons_succ, List.set_cons_succ, List.set_cons_zero, vTru, cmpS, vIsK, vLt, vLe, vGt, vGe, vOrd, DL.isNon, addE, subE, biS, rdS, rdL_new, Bool.not_true, Bool.not_false, if_true, if_false, Bool.false_eq_true, Bool.true_eq_false, reduceIte, true_and, and_true, decide_true, decide_false, vGet_0, vGet_1, slcT, addT])
          rw [mapM_asBl xs]
          refine rt ?_ (Sub.new hp)
          rw [isTh_tup, show (n - 1).toNat = n.toNat - 1 by omega, List.all_map]
          simp [show 0 < n.toNat by omega]
          try rfl
      · (try simp only [DL.wpS, DL.wpE, DL.wpA, wpT, wpTs, wpBo, DL.wpI, wpIf, wpTg, wpTgs, optI, List.getElem?_cons_zero, List.getElem?_cons_succ, List.set_cons_succ, List.set_cons_zero, vTru, cmpS, vIsK, vLt, vLe, vGt, vGe, vOrd, DL.isNon, addE, subE, biS, rdS, rdL_new, Bool.not_true, Bool.not_false, if_true, if_false, Bool.false_eq_true, Bool.true_eq_false, reduceIte, true_and, and_true, decide_true, decide_false, vGet_0, vGet_1, slcT, addT, hn])
        exact rt (by rw [isTh_tup]; simp; omega) Sub.rfl'
    | int i =>
      (try simp only [DL.wpS, DL.wpE, DL.wpA, wpT, wpTs, wpBo, DL.wpI, wpIf, wpTg, wpTgs, optI, List.getElem?_cons_zero, List.getElem?_cons_succ, List.set_cons_succ, List.set_cons_zero, vTru, cmpS, vIsK, vLt, vLe, vGt, vGe, vOrd, DL.isNon, addE, subE, biS, rdS, rdL_new, Bool.not_true, Bool.not_false, if_true, if_false, Bool.false_eq_true, Bool.true_eq_false, reduceIte, true_and, and_true, decide_true, decide_false, vGet_0, vGet_1, slcT, addT, isTp])
      refine wp_nil ?_
      refine wp_cons ?_
      (try simp only [DL.wpS, DL.wpE, DL.wpA, wpT, wpTs, wpBo, DL.wpI, wpIf, wpTg, wpTgs, optI, List.getElem?_cons_zero, List.getElem?_cons_succ, List.set_cons_succ, List.set_cons_zero, vTru, cmpS, vIsK, vLt, vLe, vGt, vGe, vOrd, DL.isNon, addE, subE, biS, rdS, rdL_new, Bool.not_true, Bool.not_false, if_true, if_false, Bool.false_eq_true, Bool.true_eq_false, reduceIte, true_and, and_true, decide_true, decide_false, vGet_0, vGet_1, slcT, addT])
      refine ⟨rfl, ?_⟩
      (try simp only [DL.wpS, DL.wpE, DL.wpA, wpT, wpTs, wpBo, DL.wpI, wpIf, wpTg, wpTgs, optI, List.getElem?_cons_zero, List.getElem?_cons_succ, List.set_cons_succ, List.set_cons_zero, vTru, cmpS, vIsK, vLt, vLe, vGt, vGe, vOrd, DL.isNon, addE, subE, biS, rdS, rdL_new, Bool.not_true, Bool.not_false, if_true, if_false, Bool.false_eq_true, Bool.true_eq_false, reduceIte, true_and, and_true, decide_true, decide_false, vGet_0, vGet_1, slcT, addT, isI])
      refine wp_last ?_
      (try simp only [DL.wpS, DL.wpE, DL.wpA, wpT, wpTs, wpBo, DL.wpI, wpIf, wpTg, wpTgs, optI, List.getElem?_cons_zero, List.getElem?_cons_succ, List.set_cons_succ, List.set_cons_zero, vTru, cmpS, vIsK, vLt, vLe, vGt, vGe, vOrd, DL.isNon, addE, subE, biS, rdS, rdL_new, Bool.not_true, Bool.not_false, if_true, if_false, Bool.false_eq_true, Bool.true_eq_false, reduceIte, true_and, and_true, decide_true, decide_false, vGet_0, vGet_1, slcT, addT])
      by_cases h1 : -999999999999999999999999999999 ≤ i
      · (try simp only [DL.wpS, DL.wpE, DL.wpA, wpT, wpTs, wpBo, DL.wpI, wpIf, wpTg, wpTgs, optI, List.getElem?_cons_zero, List.getElem?_cons_succ, List.set_cons_succ, List.set_cons_zero, vTru, cmpS, vIsK, vLt, vLe, vGt, vGe, vOrd, DL.isNon, addE, subE, biS, rdS, rdL_new, Bool.not_true, Bool.not_false, if_true, if_false, Bool.false_eq_true, Bool.true_eq_false, reduceIte, true_and, and_true, decide_true, decide_false, vGet_0, vGet_1, slcT, addT, h1])
        exact rt (by rw [isTh_int]; unfold great; simp [h1]) Sub.rfl'
      · (try simp only [DL.wpS, DL.wpE, DL.wpA, wpT, wpTs, wpBo, DL.wpI, wpIf, wpTg, wpTgs, optI, List.getElem?_cons_zero, List.getElem?_cons_succ, List.set_cons_succ, List.set_cons_zero, vTru, cmpS, vIsK, vLt, vLe, vGt, vGe, vOrd, DL.isNon, addE, subE, biS, rdS, rdL_new, Bool.not_true, Bool.not_false, if_true, if_false, Bool.false_eq_true, Bool.true_eq_false, reduceIte, true_and, and_true, decide_true, decide_false, vGet_0, vGet_1, slcT, addT, h1])
        exact rt (by rw [isTh_int]; unfold great; simp [h1]) Sub.rfl'
    | non =>
      (try simp only [DL.wpS, DL.wpE, DL.wpA, wpT, wpTs, wpBo, DL.wpI, wpIf, wpTg, wpTgs, optI, List.getElem?_cons_zero, List.getElem?_cons_succ, List.set_cons_succ, List.set_cons_zero, vTru, cmpS, vIsK, vLt, vLe, vGt, vGe, vOrd, DL.isNon, addE, subE, biS, rdS, rdL_new, Bool.not_true, Bool.not_false, if_true, if_false, Bool.false_eq_true, Bool.true_eq_false, reduceIte, true_and, and_true, decide_true, decide_false, vGet_0, vGet_1, slcT, addT, isTp])
      refine wp_nil ?_
      refine wp_cons ?_
      (try simp only [DL.wpS, DL.wpE, DL.wpA, wpT, wpTs, wpBo, DL.wpI, wpIf, wpTg, wpTgs, optI, List.getElem?_cons_zero, List.getElem?_cons_succ, List.set_cons_succ, List.set_cons_zero, vTru, cmpS, vIsK, vLt, vLe, vGt, vGe, vOrd, DL.isNon, addE, subE, biS, rdS, rdL_new, Bool.not_true, Bool.not_false, if_true, if_false, Bool.false_eq_true, Bool.true_eq_false, reduceIte, true_and, and_true, decide_true, decide_false, vGet_0, vGet_1, slcT, addT])
      refine ⟨rfl, ?_⟩
      (try simp only [DL.wpS, DL.wpE, DL.wpA, wpT, wpTs, wpBo, DL.wpI, wpIf, wpTg, wpTgs, optI, List.getElem?_cons_zero, List.getElem?_cons_succ, List.set_cons_succ, List.set_cons_zero, vTru, cmpS, vIsK, vLt, vLe, vGt, vGe, vOrd, DL.isNon, addE, subE, biS, rdS, rdL_new, Bool.not_true, Bool.not_false, if_true, if_false, Bool.false_eq_true, Bool.true_eq_false, reduceIte, true_and, and_true, decide_true, decide_false, vGet_0, vGet_1, slcT, addT, isI])
      refine wp_nil ?_
      refine wp_last ?_
      (try simp only [DL.wpS, DL.wpE, DL.wpA, wpT, wpTs, wpBo, DL.wpI, wpIf, wpTg, wpTgs, optI, List.getElem?_cons_zero, List.getElem?_cons_succ, List.set_cons_succ, List.set_cons_zero, vTru, cmpS, vIsK, vLt, vLe, vGt, vGe, vOrd, DL.isNon, addE, subE, biS, rdS, rdL_new, Bool.not_true, Bool.not_false, if_true, if_false, Bool.false_eq_true, Bool.true_eq_false, reduceIte, true_and, and_true, decide_true, decide_false, vGet_0, vGet_1, slcT, addT])
      exact rt isTh_non Sub.rfl'
    | bl b =>
      (try simp only [DL.wpS, DL.wpE, DL.wpA, wpT, wpTs, wpBo, DL.wpI, wpIf, wpTg, wpTgs, optI, List.getElem?_cons_zero, List.getElem?_cons_succ, List.set_cons_succ, List.set_cons_zero, vTru, cmpS, vIsK, vLt, vLe, vGt, vGe, vOrd, DL.isNon, addE, subE, biS, rdS, rdL_new, Bool.not_true, Bool.not_false, if_true, if_false, Bool.false_eq_true, Bool.true_eq_false, reduceIte, true_and, and_true, decide_true, decide_false, vGet_0, vGet_1, slcT, addT, isTp])
      refine wp_nil ?_
      refine wp_cons ?_
      (try simp only [DL.wpS, DL.wpE, DL.wpA, wpT, wpTs, wpBo, DL.wpI, wpIf, wpTg, wpTgs, optI, List.getElem?_cons_zero, List.getElem?_cons_succ, List.set_cons_succ, List.set_cons_zero, vTru, cmpS, vIsK, vLt, vLe, vGt, vGe, vOrd, DL.isNon, addE, subE, biS, rdS, rdL_new, Bool.not_true, Bool.not_false, if_true, if_false, Bool.false_eq_true, Bool.true_eq_false, reduceIte, true_and, and_true, decide_true, decide_false, vGet_0, vGet_1, slcT, addT])
      refine ⟨rfl, ?_⟩
      (try simp only [DL.wpS, DL.wpE, DL.wpA, wpT, wpTs, wpBo, DL.wpI, wpIf, wpTg, wpTgs, optI, List.getElem?_cons_zero, List.getElem?_cons_succ, List.set_cons_succ, List.set_cons_zero, vTru, cmpS, vIsK, vLt, vLe, vGt, vGe, vOrd, DL.isNon, addE, subE, biS, rdS, rdL_new, Bool.not_true, Bool.not_false, if_true, if_false, Bool.false_eq_true, Bool.true_eq_false, reduceIte, true_and, and_true, decide_true, decide_false, vGet_0, vGet_1, slcT, addT, isI])
      refine wp_nil ?_
      refine wp_last ?_
      (try simp only [DL.wpS, DL.wpE, DL.wpA, wpT, wpTs, wpBo, DL.wpI, wpIf, wpTg, wpTgs, optI, List.getElem?_cons_zero, List.getElem?_cons_succ, List.set_cons_succ, List.set_cons_zero, vTru, cmpS, vIsK, vLt, vLe, vGt, vGe, vOrd, DL.isNon, addE, subE, biS, rdS, rdL_new, Bool.not_true, Bool.not_false, if_true, if_false, Bool.false_eq_true, Bool.true_eq_false, reduceIte, true_and, and_true, decide_true, decide_false, vGet_0, vGet_1, slcT, addT])
      exact ⟨rfl, (fun l e => nomatch e), rt isTh_bl Sub.rfl'⟩
    | str l =>
      have hl : l.length ≤ 1048576 := by cases hw; assumption
      (try simp only [DL.wpS, DL.wpE, DL.wpA, wpT, wpTs, wpBo, DL.wpI, wpIf, wpTg, wpTgs, optI, List.getElem?_cons_zero, List.getElem?_cons_succ, List.set_cons_succ, List.set_cons_zero, vTru, cmpS, vIsK, vLt, vLe, vGt, vGe, vOrd, DL.isNon, addE, subE, biS, rdS, rdL_new, Bool.not_true, Bool.not_false, if_true, if_false, Bool.false_eq_true, Bool.true_eq_false, reduceIte, true_and, and_true, decide_true, decide_false, vGet_0, vGet_1, slcT, addT, isTp])
      refine wp_nil ?_
      refine wp_cons ?_
      (try simp only [DL.wpS, DL.wpE, DL.wpA, wpT, wpTs, wpBo, DL.wpI, wpIf, wpTg, wpTgs, optI, List.getElem?_cons_zero, List.getElem?_cons_succ, List.set_cons_succ, List.set_cons_zero, vTru, cmpS, vIsK, vLt, vLe, vGt, vGe, vOrd, DL.isNon, addE, subE, biS, rdS, rdL_new, Bool.not_true, Bool.not_false, if_true, if_false, Bool.false_eq_true, Bool.true_eq_false, reduceIte, true_and, and_true, decide_true, decide_false, vGet_0, vGet_1, slcT, addT])
      refine ⟨rfl, ?_⟩
      (try simp only [DL.wpS, DL.wpE, DL.wpA, wpT, wpTs, wpBo, DL.wpI, wpIf, wpTg, wpTgs, optI, List.getElem?_cons_zero, List.getElem?_cons_succ, List.set_cons_succ, List.set_cons_zero, vTru, cmpS, vIsK, vLt, vLe, vGt, vGe, vOrd, DL.isNon, addE, subE, biS, rdS, rdL_new, Bool.not_true, Bool.not_false, if_true, if_false, Bool.false_eq_true, Bool.true_eq_false, reduceIte, true_and, and_true, decide_true, decide_false, vGet_0, vGet_1, slcT, addT, isI])
      refine wp_nil ?_
      refine wp_last ?_
      (try simp only [DL.wpS, DL.wpE, DL.wpA, wpT, wpTs, wpBo, DL.wpI, wpIf, wpTg, wpTgs, optI, List.getElem?_cons_zero, List.getElem?_cons_succ, List.set_cons_succ, List.set_cons_zero, vTru, cmpS, vIsK, vLt, vLe, vGt, vGe, vOrd, DL.isNon, addE, subE, biS, rdS, rdL_new, Bool.not_true, Bool.not_false, if_true, if_false, Bool.false_eq_true, Bool.true_eq_false, reduceIte, true_and, and_true, decide_true, decide_false, vGet_0, vGet_1, slcT, addT])
      exact ⟨rfl, (fun l' e => by cases e; exact hl), rt isTh_str Sub.rfl'⟩
    | obj a =>
      (try simp only [DL.wpS, DL.wpE, DL.wpA, wpT, wpTs, wpBo, DL.wpI, wpIf, wpTg, wpTgs, optI, List.getElem?_cons_zero, List.getElem?_cons_succ, List.set_cons_succ, List.set_cons_zero, vTru, cmpS, vIsK, vLt, vLe, vGt, vGe, vOrd, DL.isNon, addE, subE, biS, rdS, rdL_new, Bool.not_true, Bool.not_false, if_true, if_false, Bool.false_eq_true, Bool.true_eq_false, reduceIte, true_and, and_true, decide_true, decide_false, vGet_0, vGet_1, slcT, addT, isTp])
      refine wp_nil ?_
      refine wp_cons ?_
      (try simp only [DL.wpS, DL.wpE, DL.wpA, wpT, wpTs, wpBo, DL.wpI, wpIf, wpTg, wpTgs, optI, List.getElem?_cons_zero, List.getElem?_cons_succ, List.set_cons_succ, List.set_cons_zero, vTru, cmpS, vIsK, vLt, vLe, vGt, vGe, vOrd, DL.isNon, addE, subE, biS, rdS, rdL_new, Bool.not_true, Bool.not_false, if_true, if_false, Bool.false_eq_true, Bool.true_eq_false, reduceIte, true_and, and_true, decide_true, decide_false, vGet_0, vGet_1, slcT, addT])
      refine ⟨hk, ?_⟩
      (try simp only [DL.wpS, DL.wpE, DL.wpA, wpT, wpTs, wpBo, DL.wpI, wpIf, wpTg, wpTgs, optI, List.getElem?_cons_zero, List.getElem?_cons_succ, List.set_cons_succ, List.set_cons_zero, vTru, cmpS, vIsK, vLt, vLe, vGt, vGe, vOrd, DL.isNon, addE, subE, biS, rdS, rdL_new, Bool.not_true, Bool.not_false, if_true, if_false, Bool.false_eq_true, Bool.true_eq_false, reduceIte, true_and, and_true, decide_true, decide_false, vGet_0, vGet_1, slcT, addT, isI])
      refine wp_nil ?_
      refine wp_last ?_
      (try simp only [DL.wpS, DL.wpE, DL.wpA, wpT, wpTs, wpBo, DL.wpI, wpIf, wpTg, wpTgs, optI, List.getElem?_cons_zero, List.getElem?_cons_succ, List.set_cons_succ, List.set_cons_zero, vTru, cmpS, vIsK, vLt, vLe, vGt, vGe, vOrd, DL.isNon, addE, subE, biS, rdS, rdL_new, Bool.not_true, Bool.not_false, if_true, if_false, Bool.false_eq_true, Bool.true_eq_false, reduceIte, true_and, and_true, decide_true, decide_false, vGet_0, vGet_1, slcT, addT])
      exact ⟨hk, (fun l e => nomatch e), rt isTh_obj Sub.rfl'⟩
  · exact h.elim
theorem no_thg : ∀ ds M Q E, sp_thg 0 ds M Q E → False := fun ds M Q E h => by
  unfold sp_thg at h
  split at h
  · omega
  · exact h
end H54
set_option Elab.async false
set_option linter.all false
set_option maxRecDepth 100000
set_option maxHeartbeats 1000000
namespace H54
open PySem PySem.Spec PyProof.Rows L2 DL TX
/-! ### packing -/
theorem joinC_nil : ∀ ys : List (List Nat), joinC [] ys = ys.flatten
  | [] => rfl
  | [x] => by simp [joinC]
  | x :: y :: r => by
    have := joinC_nil (y :: r)
    show x ++ [] ++ joinC [] (y :: r) = _
    rw [this]; simp
theorem joinC_len (c : Nat) : ∀ ys : List (List Nat), ys ≠ [] → (joinC [c] ys).length + 1 = (ys.map (·.length)).sum + ys.length
  | [], h => absurd rfl h
  | [x], _ => by simp [joinC]
  | x :: y :: r, _ => by
    have := joinC_len c (y :: r) (by simp)
    show (x ++ [c] ++ joinC [c] (y :: r)).length + 1 = _
    simp only [List.length_append, List.map_cons, List.sum_cons, List.length_cons, List.length_nil] at this ⊢
    omega
theorem joinC_le (c : Nat) (ys : List (List Nat)) : (ys.map (·.length)).sum + ys.length ≤ (joinC [c] ys).length + 1 := by
  cases ys with
  | nil => simp [joinC]
  | cons y ys => rw [joinC_len c (y :: ys) (by simp)]; exact Nat.le_refl _
def q1 (c : Nat) : List Nat := if c = 39 ∨ c = 126 then [126, c] else [c]
theorem escL_eq (l : List Nat) : escL l = (l.map q1).flatten := by
  unfold escL
  rw [List.flatMap_def]; rfl
theorem pks_eq : ∀ xs : List D, pks xs = xs.map pk
  | [] => rfl
  | x :: xs => by rw [List.map_cons, ← pks_eq xs]; rfl
theorem mapM_asStr {α : Type} (f : α → List Nat) (xs : List α) : (xs.map fun x => D.str (f x)).mapM asStr = some (xs.map f) := by
  induction xs with
  | nil => rfl
  | cons x xs ih => rw [List.map_cons, List.mapM_cons, ih]; rfl
theorem in_tup {neg : Bool} {c : Nat} {M : Mem} : vInG neg (.str [c]) (.tup [.str [39], .str [126]]) M = fun Q => Q (.bl (if neg then !decide (c = 39 ∨ c = 126) else decide (c = 39 ∨ c = 126))) M := by
  funext Q
  have e : ([D.str [39], D.str [126]].any fun y => eqF y (.str [c])) = decide (c = 39 ∨ c = 126) := by
    simp only [List.any_cons, List.any_nil, eqF, Bool.or_false]
    by_cases h1 : c = 39
    · subst h1; simp
    · by_cases h2 : c = 126
      · subst h2; simp
      · have a : ¬ (39 = c) := fun z => h1 z.symm
        have b : ¬ (126 = c) := fun z => h2 z.symm
        simp [h1, h2, a, b]
  unfold vInG
  have d : isDct M (.tup [.str [39], .str [126]]) = false := rfl
  rw [d]
  simp only [Bool.false_eq_true, if_false, vInK]
  rw [e]
  simp [isFlat]
theorem in_str {neg : Bool} {c : Nat} {M : Mem} : vInG neg (.str [c]) (.str [39, 126]) M = fun Q => Q (.bl (if neg then !decide (c = 39 ∨ c = 126) else decide (c = 39 ∨ c = 126))) M := by
  funext Q
  have e : decide (c ∈ [39, 126]) = decide (c = 39 ∨ c = 126) := by simp
  unfold vInG
  have d : isDct M (.str [39, 126]) = false := rfl
  rw [d]
  simp only [Bool.false_eq_true, if_false, vInK]
  rw [e]
theorem sumlen (l : List Nat) : ((l.map q1).map (·.length)).sum = (escL l).length := by
  rw [escL_eq, List.length_flatten]
theorem pk_log {n : Nat} {i : Int} (h : isTh n (.int i) = true) : i.natAbs.log2 < 1920 := by
  rw [isTh_int] at h
  rw [Bool.and_eq_true, decide_eq_true_eq, decide_eq_true_eq] at h
  unfold great at h
  by_cases h0 : i.natAbs = 0
  · rw [h0]; decide
  · have : i.natAbs < 2 ^ 100 := by omega
    have := (Nat.log2_lt (n := i.natAbs) (k := 100) h0).mpr this
    omega
def sp_pk (j : Nat) : SpD := fun ds M Q _ => match ds with
  | [d] => ∃ n, isTh n d = true ∧ n < j ∧ (pk d).length ≤ 10000000 ∧ Q (.str (pk d)) M
  | _ => False
theorem no_pk : ∀ ds M Q E, sp_pk 0 ds M Q E → False := fun ds M Q E h => by
  unfold sp_pk at h
  split at h
  · obtain ⟨n, _, h, _⟩ := h; omega
  · exact h
theorem le_sum : ∀ {l : List Nat} {a : Nat}, a ∈ l → a ≤ l.sum
  | b :: l, a, h => by
    rw [List.sum_cons]
    rcases List.mem_cons.mp h with rfl | h
    · omega
    · have := le_sum h; omega
theorem pk_items {xs : List D} (h : (pk (.tup xs)).length ≤ 10000000) : (∀ x ∈ xs, (pk x).length ≤ 10000000) ∧ ((xs.map pk).map (·.length)).sum + xs.length ≤ 10000000 ∧ xs.length ≤ 10000000 := by
  have e : (pk (.tup xs)).length = (joinC [44] (pks xs)).length + 2 := by simp [pk] <;> omega
  have := joinC_le 44 (pks xs)
  rw [pks_eq] at this e
  rw [List.length_map] at this
  refine ⟨fun x hx => ?_, by omega, by omega⟩
  have : (pk x).length ≤ ((xs.map pk).map (·.length)).sum := le_sum (List.mem_map.mpr ⟨pk x, List.mem_map_of_mem hx, rfl⟩)
  omega
theorem h_raw_packed (k1 j : Nat) : ∀ ds M Q0 E0, sp_pk (j + 1) ds M Q0 E0 → ds.length = 1 ∧ wpSs ⟨[C_raw_packed k1 (sp_pk j)], sub, fdOf cf⟩ (wF E0) none m_raw_packed (endsF Q0) (startD N_raw_packed.length ds) M := by
  intro ds M Q0 E0 h
  unfold sp_pk at h
  split at h
  · rename_i d
    obtain ⟨n, ht, hn, hl, hq⟩ := h
    refine ⟨rfl, ?_⟩
    unfold m_raw_packed
    refine wp_cons ?_
    show DL.wpS _ _ _ _ _ [some d, none, none] M
    cases d with
    | non =>
      (try simp only [DL.wpS, DL.wpE, DL.wpA, wpT, wpTs, wpBo, DL.wpI, wpIf, wpTg, wpTgs, optI, List.getElem?_cons_zero, List.getElem?_cons_succ, List.set_cons_succ, List.set_cons_zero, vTru, cmpS, vIsK, vLt, vLe, vGt, vGe, vOrd, DL.isNon, addE, subE, biS, rdS, rdL_new, Bool.not_true, Bool.not_false, if_true, if_false, Bool.false_eq_true, Bool.true_eq_false, reduceIte, true_and, and_true, decide_true, decide_false, vGet_0, vGet_1, slcT, addT])
      refine wp_last ?_
      (try simp only [DL.wpS, DL.wpE, DL.wpA, wpT, wpTs, wpBo, DL.wpI, wpIf, wpTg, wpTgs, optI, List.getElem?_cons_zero, List.getElem?_cons_succ, List.set_cons_succ, List.set_cons_zero, vTru, cmpS, vIsK, vLt, vLe, vGt, vGe, vOrd, DL.isNon, addE, subE, biS, rdS, rdL_new, Bool.not_true, Bool.not_false, if_true, if_false, Bool.false_eq_true, Bool.true_eq_false, reduceIte, true_and, and_true, decide_true, decide_false, vGet_0, vGet_1, slcT, addT])
      exact rt_of hq Sub.rfl'
    | str l =>
      (try simp only [DL.wpS, DL.wpE, DL.wpA, wpT, wpTs, wpBo, DL.wpI, wpIf, wpTg, wpTgs, optI, List.getElem?_cons_zero, List.getElem?_cons_succ, List.set_cons_succ, List.set_cons_zero, vTru, cmpS, vIsK, vLt, vLe, vGt, vGe, vOrd, DL.isNon, addE, subE, biS, rdS, rdL_new, Bool.not_true, Bool.not_false, if_true, if_false, Bool.false_eq_true, Bool.true_eq_false, reduceIte, true_and, and_true, decide_true, decide_false, vGet_0, vGet_1, slcT, addT])
      refine wp_nil ?_
      refine wp_cons ?_
      have e : ∀ Q, vIsi "str" (.str l) M Q = Q (.bl true) M := fun Q => isi_str (d := .str l) rfl
      (try simp only [DL.wpS, DL.wpE, DL.wpA, wpT, wpTs, wpBo, DL.wpI, wpIf, wpTg, wpTgs, optI, List.getElem?_cons_zero, List.getElem?_cons_succ, List.set_cons_succ, List.set_cons_zero, vTru, cmpS, vIsK, vLt, vLe, vGt, vGe, vOrd, DL.isNon, addE, subE, biS, rdS, rdL_new, Bool.not_true, Bool.not_false, if_true, if_false, Bool.false_eq_true, Bool.true_eq_false, reduceIte, true_and, and_true, decide_true, decide_false, vGet_0, vGet_1, slcT, addT, e])
      refine wp_last ?_
      have hl2 : (escL l).length + 2 ≤ 10000000 := by
        have : (pk (.str l)).length = (escL l).length + 2 := by simp [pk] <;> omega
        omega
      have hll : l.length ≤ (escL l).length := by
        rw [escL_eq, List.length_flatten, List.map_map]
        have : ∀ l : List Nat, l.length ≤ (l.map ((fun x => x.length) ∘ q1)).sum := by
          intro l
          induction l with
          | nil => simp
          | cons c l ih =>
            rw [List.map_cons, List.sum_cons, List.length_cons]
            have : 1 ≤ (q1 c).length := by unfold q1; split <;> simp
            simp only [Function.comp]
            omega
        exact this l
      (try simp only [DL.wpS, DL.wpE, DL.wpA, wpT, wpTs, wpBo, DL.wpI, wpIf, wpTg, wpTgs, optI, List.getElem?_cons_zero, List.getElem?_cons_succ, List.set_cons_succ, List.set_cons_zero, vTru, cmpS, vIsK, vLt, vLe, vGt, vGe, vOrd, DL.isNon, addE, subE, biS, rdS, rdL_new, Bool.not_true, Bool.not_false, if_true, if_false, Bool.false_eq_true, Bool.true_eq_false, reduceIte, true_and, and_true, decide_true, decide_false, vGet_0, vGet_1, slcT, addT, recv, BM.ty, itsOf])
      refine lc_map (fun x => match x with | .str [c] => .str (q1 c) | _ => .non) trivial _ _ (by rw [List.length_map]; unfold big; omega) (fun x hx K1 h1 => ?_) fun p hp => ?_
      · obtain ⟨c, _, rfl⟩ := List.mem_map.mp hx
        (try simp only [DL.wpS, DL.wpE, DL.wpA, wpT, wpTs, wpBo, DL.wpI, wpIf, wpTg, wpTgs, optI, List.getElem?_cons_zero, List.getElem?_cons_succ, List.set_cons_succ, List.set_cons_zero, vTru, cmpS, vIsK, vLt, vLe, vGt, vGe, vOrd, DL.isNon, addE, subE, biS, rdS, rdL_new, Bool.not_true, Bool.not_false, if_true, if_false, Bool.false_eq_true, Bool.true_eq_false, reduceIte, true_and, and_true, decide_true, decide_false, vGet_0, vGet_1, slcT, addT, wipeD, List.map_cons, List.map_nil, in_tup])
        simp only [q1] at h1
        by_cases hc : c = 39 ∨ c = 126
        · simp only [hc, if_true, decide_true] at h1 ⊢
          refine ⟨by simp [big], h1⟩
        · simp only [hc, if_false, decide_false, Bool.false_eq_true] at h1 ⊢
          exact h1
      · have e : (l.map fun c => D.str [c]).map (fun x => match x with | .str [c] => .str (q1 c) | _ => .non) = l.map fun c => D.str (q1 c) := by rw [List.map_map]; rfl
        rw [e]
        (try simp only [DL.wpS, DL.wpE, DL.wpA, wpT, wpTs, wpBo, DL.wpI, wpIf, wpTg, wpTgs, optI, List.getElem?_cons_zero, List.getElem?_cons_succ, List.set_cons_succ, List.set_cons_zero, vTru, cmpS, vIsK, vLt, vLe, vGt, vGe, vOrd, DL.isNon, addE, subE, biS, rdS, rdL_new, Bool.not_true, Bool.not_false, if_true, if_false, Bool.false_eq_true, Bool.true_eq_false, reduceIte, true_and, and_true, decide_true, decide_false, vGet_0, vGet_1, slcT, addT, bmS, mapM_asStr])
        refine ⟨?_, ?_⟩
        · rw [sumlen]; simp; omega
        · simp only [vAdd, joinC_nil, ← escL_eq, List.length_append, List.length_cons, List.length_nil, binS]
          refine ⟨by unfold big; omega, by unfold big; omega, ?_⟩
          exact rt_of hq (Sub.new hp)
    | tup xs =>
      (try simp only [DL.wpS, DL.wpE, DL.wpA, wpT, wpTs, wpBo, DL.wpI, wpIf, wpTg, wpTgs, optI, List.getElem?_cons_zero, List.getElem?_cons_succ, List.set_cons_succ, List.set_cons_zero, vTru, cmpS, vIsK, vLt, vLe, vGt, vGe, vOrd, DL.isNon, addE, subE, biS, rdS, rdL_new, Bool.not_true, Bool.not_false, if_true, if_false, Bool.false_eq_true, Bool.true_eq_false, reduceIte, true_and, and_true, decide_true, decide_false, vGet_0, vGet_1, slcT, addT])
      refine wp_nil ?_
      refine wp_cons ?_
      have e : ∀ Q, vIsi "str" (.tup xs) M Q = Q (.bl false) M := fun Q => isi_str (d := .tup xs) rfl
      have e' : ∀ Q, vIsi "tuple" (.tup xs) M Q = Q (.bl true) M := fun Q => isi_tup (d := .tup xs) rfl
      (try simp only [DL.wpS, DL.wpE, DL.wpA, wpT, wpTs, wpBo, DL.wpI, wpIf, wpTg, wpTgs, optI, List.getElem?_cons_zero, List.getElem?_cons_succ, List.set_cons_succ, List.set_cons_zero, vTru, cmpS, vIsK, vLt, vLe, vGt, vGe, vOrd, DL.isNon, addE, subE, biS, rdS, rdL_new, Bool.not_true, Bool.not_false, if_true, if_false, Bool.false_eq_true, Bool.true_eq_false, reduceIte, true_and, and_true, decide_true, decide_false, vGet_0, vGet_1, slcT, addT, e])
      refine wp_nil ?_
      refine wp_cons ?_
      (try simp only [DL.wpS, DL.wpE, DL.wpA, wpT, wpTs, wpBo, DL.wpI, wpIf, wpTg, wpTgs, optI, List.getElem?_cons_zero, List.getElem?_cons_succ, List.set_cons_succ, List.set_cons_zero, vTru, cmpS, vIsK, vLt, vLe, vGt, vGe, vOrd, DL.isNon, addE, subE, biS, rdS, rdL_new, Bool.not_true, Bool.not_false, if_true, if_false, Bool.false_eq_true, Bool.true_eq_false, reduceIte, true_and, and_true, decide_true, decide_false, vGet_0, vGet_1, slcT, addT, e'])
      refine wp_last ?_
      obtain ⟨g1, g2, g3⟩ := pk_items hl
      rw [isTh_tup, Bool.and_eq_true, decide_eq_true_eq] at ht
      (try simp only [DL.wpS, DL.wpE, DL.wpA, wpT, wpTs, wpBo, DL.wpI, wpIf, wpTg, wpTgs, optI, List.getElem?_cons_zero, List.getElem?_cons_succ, List.set_cons_succ, List.set_cons_zero, vTru, cmpS, vIsK, vLt, vLe, vGt, vGe, vOrd, DL.isNon, addE, subE, biS, rdS, rdL_new, Bool.not_true, Bool.not_false, if_true, if_false, Bool.false_eq_true, Bool.true_eq_false, reduceIte, true_and, and_true, decide_true, decide_false, vGet_0, vGet_1, slcT, addT, recv, BM.ty, itsOf])
      refine lc_map (fun x => .str (pk x)) trivial _ _ (by unfold big; omega) (fun x hx K1 h1 => ?_) fun p hp => ?_
      · (try simp only [DL.wpS, DL.wpE, DL.wpA, wpT, wpTs, wpBo, DL.wpI, wpIf, wpTg, wpTgs, optI, List.getElem?_cons_zero, List.getElem?_cons_succ, List.set_cons_succ, List.set_cons_zero, vTru, cmpS, vIsK, vLt, vLe, vGt, vGe, vOrd, DL.isNon, addE, subE, biS, rdS, rdL_new, Bool.not_true, Bool.not_false, if_true, if_false, Bool.false_eq_true, Bool.true_eq_false, reduceIte, true_and, and_true, decide_true, decide_false, vGet_0, vGet_1, slcT, addT, wipeD, List.map_cons, List.map_nil])
        exact ⟨n - 1, List.all_eq_true.mp ht.2 x hx, by omega, g1 x hx, h1⟩
      · (try simp only [DL.wpS, DL.wpE, DL.wpA, wpT, wpTs, wpBo, DL.wpI, wpIf, wpTg, wpTgs, optI, List.getElem?_cons_zero, List.getElem?_cons_succ, List.set_cons_succ, List.set_cons_zero, vTru, cmpS, vIsK, vLt, vLe, vGt, vGe, vOrd, DL.isNon, addE, subE, biS, rdS, rdL_new, Bool.not_true, Bool.not_false, if_true, if_false, Bool.false_eq_true, Bool.true_eq_false, reduceIte, true_and, and_true, decide_true, decide_false, vGet_0, vGet_1, slcT, addT, bmS, mapM_asStr])
        have el : (pk (.tup xs)).length = (joinC [44] (xs.map pk)).length + 2 := by simp [pk, pks_eq] <;> omega
        refine ⟨?_, ?_⟩
        · rw [List.length_map]; simp only [List.length_cons, List.length_nil]; omega
        · simp only [vAdd, List.length_append, List.length_cons, List.length_nil, binS]
          refine ⟨by unfold big; omega, by unfold big; omega, ?_⟩
          refine rt_of (M' := M) ?_ (Sub.new hp)
          have ep : pk (.tup xs) = [40] ++ joinC [44] (xs.map pk) ++ [41] := by simp [pk, pks_eq]
          rw [← ep]
          exact hq
    | int i =>
      (try simp only [DL.wpS, DL.wpE, DL.wpA, wpT, wpTs, wpBo, DL.wpI, wpIf, wpTg, wpTgs, optI, List.getElem?_cons_zero, List.getElem?_cons_succ, List.set_cons_succ, List.set_cons_zero, vTru, cmpS, vIsK, vLt, vLe, vGt, vGe, vOrd, DL.isNon, addE, subE, biS, rdS, rdL_new, Bool.not_true, Bool.not_false, if_true, if_false, Bool.false_eq_true, Bool.true_eq_false, reduceIte, true_and, and_true, decide_true, decide_false, vGet_0, vGet_1, slcT, addT])
      refine wp_nil ?_
      refine wp_cons ?_
      have e : ∀ Q, vIsi "str" (.int i) M Q = Q (.bl false) M := fun Q => isi_str (d := .int i) rfl
      have e' : ∀ Q, vIsi "tuple" (.int i) M Q = Q (.bl false) M := fun Q => isi_tup (d := .int i) rfl
      (try simp only [DL.wpS, DL.wpE, DL.wpA, wpT, wpTs, wpBo, DL.wpI, wpIf, wpTg, wpTgs, optI, List.getElem?_cons_zero, List.getElem?_cons_succ, List.set_cons_succ, List.set_cons_zero, vTru, cmpS, vIsK, vLt, vLe, vGt, vGe, vOrd, DL.isNon, addE, subE, biS, rdS, rdL_new, Bool.not_true, Bool.not_false, if_true, if_false, Bool.false_eq_true, Bool.true_eq_false, reduceIte, true_and, and_true, decide_true, decide_false, vGet_0, vGet_1, slcT, addT, e])
      refine wp_nil ?_
      refine wp_cons ?_
      (try simp only [DL.wpS, DL.wpE, DL.wpA, wpT, wpTs, wpBo, DL.wpI, wpIf, wpTg, wpTgs, optI, List.getElem?_cons_zero, List.getElem?_cons_succ, List.set_cons_succ, List.set_cons_zero, vTru, cmpS, vIsK, vLt, vLe, vGt, vGe, vOrd, DL.isNon, addE, subE, biS, rdS, rdL_new, Bool.not_true, Bool.not_false, if_true, if_false, Bool.false_eq_true, Bool.true_eq_false, reduceIte, true_and, and_true, decide_true, decide_false, vGet_0, vGet_1, slcT, addT, e'])
      refine wp_nil ?_
      refine wp_last ?_
      (try simp only [DL.wpS, DL.wpE, DL.wpA, wpT, wpTs, wpBo, DL.wpI, wpIf, wpTg, wpTgs, optI, List.getElem?_cons_zero, List.getElem?_cons_succ, List.set_cons_succ, List.set_cons_zero, vTru, cmpS, vIsK, vLt, vLe, vGt, vGe, vOrd, DL.isNon, addE, subE, biS, rdS, rdL_new, Bool.not_true, Bool.not_false, if_true, if_false, Bool.false_eq_true, Bool.true_eq_false, reduceIte, true_and, and_true, decide_true, decide_false, vGet_0, vGet_1, slcT, addT])
      exact ⟨pk_log ht, rt_of hq Sub.rfl'⟩
    | bl b => rw [isTh_bl] at ht; cases ht
    | obj a => rw [isTh_obj] at ht; cases ht
  · exact h.elim
def sp_thing_text : SpD := fun ds M Q E => match ds with
  | [d] => Kw M d ∧ (isTh 30 d = true → (pk d).length ≤ 10000000 ∧ Q (.str (pk d)) M) ∧ (isTh 30 d = false → E ⟨1, []⟩ M)
  | _ => False
theorem h_thing_text (k1 k2 : Nat) : ∀ ds M Q0 E0, sp_thing_text ds M Q0 E0 → ds.length = 1 ∧ wpSs ⟨[C_is_thing k1 (sp_thg 31), C_raw_packed k2 (sp_pk 31)], sub, fdOf cf⟩ (wF E0) none m_thing_text (endsF Q0) (startD N_thing_text.length ds) M := by
  intro ds M Q0 E0 h
  unfold sp_thing_text at h
  split at h
  · rename_i d
    obtain ⟨hw, h1, h2⟩ := h
    refine ⟨rfl, ?_⟩
    unfold m_thing_text
    refine wp_cons ?_
    show DL.wpS _ _ _ _ _ [some d] M
    (try simp only [DL.wpS, DL.wpE, DL.wpA, wpT, wpTs, wpBo, DL.wpI, wpIf, wpTg, wpTgs, optI, List.getElem?_cons_zero, List.getElem?_cons_succ, List.set_cons_succ, List.set_cons_zero, vTru, cmpS, vIsK, vLt, vLe, vGt, vGe, vOrd, DL.isNon, addE, subE, biS, rdS, rdL_new, Bool.not_true, Bool.not_false, if_true, if_false, Bool.false_eq_true, Bool.true_eq_false, reduceIte, true_and, and_true, decide_true, decide_false, vGet_0, vGet_1, slcT, addT])
    refine ⟨by decide, by decide, hw, ?_⟩
    (try simp only [DL.wpS, DL.wpE, DL.wpA, wpT, wpTs, wpBo, DL.wpI, wpIf, wpTg, wpTgs, optI, List.getElem?_cons_zero, List.getElem?_cons_succ, List.set_cons_succ, List.set_cons_zero, vTru, cmpS, vIsK, vLt, vLe, vGt, vGe, vOrd, DL.isNon, addE, subE, biS, rdS, rdL_new, Bool.not_true, Bool.not_false, if_true, if_false, Bool.false_eq_true, Bool.true_eq_false, reduceIte, true_and, and_true, decide_true, decide_false, vGet_0, vGet_1, slcT, addT])
    show if (!isTh 30 d) = true then _ else _
    cases ht : isTh 30 d with
    | true =>
      simp only [Bool.not_true, Bool.false_eq_true, if_false]
      refine wp_nil ?_
      refine wp_last ?_
      (try simp only [DL.wpS, DL.wpE, DL.wpA, wpT, wpTs, wpBo, DL.wpI, wpIf, wpTg, wpTgs, optI, List.getElem?_cons_zero, List.getElem?_cons_succ, List.set_cons_succ, List.set_cons_zero, vTru, cmpS, vIsK, vLt, vLe, vGt, vGe, vOrd, DL.isNon, addE, subE, biS, rdS, rdL_new, Bool.not_true, Bool.not_false, if_true, if_false, Bool.false_eq_true, Bool.true_eq_false, reduceIte, true_and, and_true, decide_true, decide_false, vGet_0, vGet_1, slcT, addT])
      obtain ⟨a, b⟩ := h1 ht
      exact ⟨30, ht, by omega, a, rt_of b Sub.rfl'⟩
    | false =>
      simp only [Bool.not_false, if_true]
      refine wp_last ?_
      (try simp only [DL.wpS, DL.wpE, DL.wpA, wpT, wpTs, wpBo, DL.wpI, wpIf, wpTg, wpTgs, optI, List.getElem?_cons_zero, List.getElem?_cons_succ, List.set_cons_succ, List.set_cons_zero, vTru, cmpS, vIsK, vLt, vLe, vGt, vGe, vOrd, DL.isNon, addE, subE, biS, rdS, rdL_new, Bool.not_true, Bool.not_false, if_true, if_false, Bool.false_eq_true, Bool.true_eq_false, reduceIte, true_and, and_true, decide_true, decide_false, vGet_0, vGet_1, slcT, addT])
      exact ⟨M, Sub.rfl', h2 ht⟩
  · exact h.elim
/-- the law's own packing -/
theorem h__law_packed (k1 j : Nat) : ∀ ds M Q0 E0, sp_pk (j + 1) ds M Q0 E0 → ds.length = 1 ∧ wpSs ⟨[C__law_packed k1 (sp_pk j)], sub, fdOf cf⟩ (wF E0) none m__law_packed (endsF Q0) (startD N__law_packed.length ds) M := by
  intro ds M Q0 E0 h
  unfold sp_pk at h
  split at h
  · rename_i d
    obtain ⟨n, ht, hn, hl, hq⟩ := h
    refine ⟨rfl, ?_⟩
    unfold m__law_packed
    refine wp_cons ?_
    show DL.wpS _ _ _ _ _ [some d, none, none] M
    cases d with
    | non =>
      (try simp only [DL.wpS, DL.wpE, DL.wpA, wpT, wpTs, wpBo, DL.wpI, wpIf, wpTg, wpTgs, optI, List.getElem?_cons_zero, List.getElem?_cons_succ, List.set_cons_succ, List.set_cons_zero, vTru, cmpS, vIsK, vLt, vLe, vGt, vGe, vOrd, DL.isNon, addE, subE, biS, rdS, rdL_new, Bool.not_true, Bool.not_false, if_true, if_false, Bool.false_eq_true, Bool.true_eq_false, reduceIte, true_and, and_true, decide_true, decide_false, vGet_0, vGet_1, slcT, addT])
      refine wp_last ?_
      (try simp only [DL.wpS, DL.wpE, DL.wpA, wpT, wpTs, wpBo, DL.wpI, wpIf, wpTg, wpTgs, optI, List.getElem?_cons_zero, List.getElem?_cons_succ, List.set_cons_succ, List.set_cons_zero, vTru, cmpS, vIsK, vLt, vLe, vGt, vGe, vOrd, DL.isNon, addE, subE, biS, rdS, rdL_new, Bool.not_true, Bool.not_false, if_true, if_false, Bool.false_eq_true, Bool.true_eq_false, reduceIte, true_and, and_true, decide_true, decide_false, vGet_0, vGet_1, slcT, addT])
      exact rt_of hq Sub.rfl'
    | str l =>
      have e : ∀ Q, vIsi "str" (.str l) M Q = Q (.bl true) M := fun Q => isi_str (d := .str l) rfl
      have e' : ∀ Q, vIsi "tuple" (.str l) M Q = Q (.bl false) M := fun Q => isi_tup (d := .str l) rfl
      (try simp only [DL.wpS, DL.wpE, DL.wpA, wpT, wpTs, wpBo, DL.wpI, wpIf, wpTg, wpTgs, optI, List.getElem?_cons_zero, List.getElem?_cons_succ, List.set_cons_succ, List.set_cons_zero, vTru, cmpS, vIsK, vLt, vLe, vGt, vGe, vOrd, DL.isNon, addE, subE, biS, rdS, rdL_new, Bool.not_true, Bool.not_false, if_true, if_false, Bool.false_eq_true, Bool.true_eq_false, reduceIte, true_and, and_true, decide_true, decide_false, vGet_0, vGet_1, slcT, addT])
      refine wp_nil ?_
      refine wp_cons ?_
      (try simp only [DL.wpS, DL.wpE, DL.wpA, wpT, wpTs, wpBo, DL.wpI, wpIf, wpTg, wpTgs, optI, List.getElem?_cons_zero, List.getElem?_cons_succ, List.set_cons_succ, List.set_cons_zero, vTru, cmpS, vIsK, vLt, vLe, vGt, vGe, vOrd, DL.isNon, addE, subE, biS, rdS, rdL_new, Bool.not_true, Bool.not_false, if_true, if_false, Bool.false_eq_true, Bool.true_eq_false, reduceIte, true_and, and_true, decide_true, decide_false, vGet_0, vGet_1, slcT, addT, e'])
      refine wp_nil ?_
      refine wp_cons ?_
      (try simp only [DL.wpS, DL.wpE, DL.wpA, wpT, wpTs, wpBo, DL.wpI, wpIf, wpTg, wpTgs, optI, List.getElem?_cons_zero, List.getElem?_cons_succ, List.set_cons_succ, List.set_cons_zero, vTru, cmpS, vIsK, vLt, vLe, vGt, vGe, vOrd, DL.isNon, addE, subE, biS, rdS, rdL_new, Bool.not_true, Bool.not_false, if_true, if_false, Bool.false_eq_true, Bool.true_eq_false, reduceIte, true_and, and_true, decide_true, decide_false, vGet_0, vGet_1, slcT, addT, e])
      refine wp_last ?_
      have hl2 : (escL l).length + 2 ≤ 10000000 := by
        have : (pk (.str l)).length = (escL l).length + 2 := by simp [pk] <;> omega
        omega
      have hll : l.length ≤ (escL l).length := by
        rw [escL_eq, List.length_flatten, List.map_map]
        have : ∀ l : List Nat, l.length ≤ (l.map ((fun x => x.length) ∘ q1)).sum := by
          intro l
          induction l with
          | nil => simp
          | cons c l ih =>
            rw [List.map_cons, List.sum_cons, List.length_cons]
            have : 1 ≤ (q1 c).length := by unfold q1; split <;> simp
            simp only [Function.comp]
            omega
        exact this l
      (try simp only [DL.wpS, DL.wpE, DL.wpA, wpT, wpTs, wpBo, DL.wpI, wpIf, wpTg, wpTgs, optI, List.getElem?_cons_zero, List.getElem?_cons_succ, List.set_cons_succ, List.set_cons_zero, vTru, cmpS, vIsK, vLt, vLe, vGt, vGe, vOrd, DL.isNon, addE, subE, biS, rdS, rdL_new, Bool.not_true, Bool.not_false, if_true, if_false, Bool.false_eq_true, Bool.true_eq_false, reduceIte, true_and, and_true, decide_true, decide_false, vGet_0, vGet_1, slcT, addT, recv, BM.ty, itsOf])
      refine lc_map (fun x => match x with | .str [c] => .str (q1 c) | _ => .non) trivial _ _ (by rw [List.length_map]; unfold big; omega) (fun x hx K1 h1 => ?_) fun p hp => ?_
      · obtain ⟨c, _, rfl⟩ := List.mem_map.mp hx
        (try simp only [DL.wpS, DL.wpE, DL.wpA, wpT, wpTs, wpBo, DL.wpI, wpIf, wpTg, wpTgs, optI, List.getElem?_cons_zero, List.getElem?_cons_succ, List.set_cons_succ, List.set_cons_zero, vTru, cmpS, vIsK, vLt, vLe, vGt, vGe, vOrd, DL.isNon, addE, subE, biS, rdS, rdL_new, Bool.not_true, Bool.not_false, if_true, if_false, Bool.false_eq_true, Bool.true_eq_false, reduceIte, true_and, and_true, decide_true, decide_false, vGet_0, vGet_1, slcT, addT, wipeD, List.map_cons, List.map_nil, in_str])
        simp only [q1] at h1
        by_cases hc : c = 39 ∨ c = 126
        · simp only [hc, if_true, decide_true] at h1 ⊢
          refine ⟨by simp [big], h1⟩
        · simp only [hc, if_false, decide_false, Bool.false_eq_true] at h1 ⊢
          exact h1
      · have e : (l.map fun c => D.str [c]).map (fun x => match x with | .str [c] => .str (q1 c) | _ => .non) = l.map fun c => D.str (q1 c) := by rw [List.map_map]; rfl
        rw [e]
        (try simp only [DL.wpS, DL.wpE, DL.wpA, wpT, wpTs, wpBo, DL.wpI, wpIf, wpTg, wpTgs, optI, List.getElem?_cons_zero, List.getElem?_cons_succ, List.set_cons_succ, List.set_cons_zero, vTru, cmpS, vIsK, vLt, vLe, vGt, vGe, vOrd, DL.isNon, addE, subE, biS, rdS, rdL_new, Bool.not_true, Bool.not_false, if_true, if_false, Bool.false_eq_true, Bool.true_eq_false, reduceIte, true_and, and_true, decide_true, decide_false, vGet_0, vGet_1, slcT, addT, bmS, mapM_asStr])
        refine ⟨?_, ?_⟩
        · rw [sumlen]; simp; omega
        · simp only [vAdd, joinC_nil, ← escL_eq, List.length_append, List.length_cons, List.length_nil, binS]
          refine ⟨by unfold big; omega, by unfold big; omega, ?_⟩
          exact rt_of hq (Sub.new hp)
    | tup xs =>
      have e' : ∀ Q, vIsi "tuple" (.tup xs) M Q = Q (.bl true) M := fun Q => isi_tup (d := .tup xs) rfl
      (try simp only [DL.wpS, DL.wpE, DL.wpA, wpT, wpTs, wpBo, DL.wpI, wpIf, wpTg, wpTgs, optI, List.getElem?_cons_zero, List.getElem?_cons_succ, List.set_cons_succ, List.set_cons_zero, vTru, cmpS, vIsK, vLt, vLe, vGt, vGe, vOrd, DL.isNon, addE, subE, biS, rdS, rdL_new, Bool.not_true, Bool.not_false, if_true, if_false, Bool.false_eq_true, Bool.true_eq_false, reduceIte, true_and, and_true, decide_true, decide_false, vGet_0, vGet_1, slcT, addT])
      refine wp_nil ?_
      refine wp_cons ?_
      (try simp only [DL.wpS, DL.wpE, DL.wpA, wpT, wpTs, wpBo, DL.wpI, wpIf, wpTg, wpTgs, optI, List.getElem?_cons_zero, List.getElem?_cons_succ, List.set_cons_succ, List.set_cons_zero, vTru, cmpS, vIsK, vLt, vLe, vGt, vGe, vOrd, DL.isNon, addE, subE, biS, rdS, rdL_new, Bool.not_true, Bool.not_false, if_true, if_false, Bool.false_eq_true, Bool.true_eq_false, reduceIte, true_and, and_true, decide_true, decide_false, vGet_0, vGet_1, slcT, addT, e'])
      refine wp_last ?_
      obtain ⟨g1, g2, g3⟩ := pk_items hl
      rw [isTh_tup, Bool.and_eq_true, decide_eq_true_eq] at ht
      (try simp only [DL.wpS, DL.wpE, DL.wpA, wpT, wpTs, wpBo, DL.wpI, wpIf, wpTg, wpTgs, optI, List.getElem?_cons_zero, List.getElem?_cons_succ, List.set_cons_succ, List.set_cons_zero, vTru, cmpS, vIsK, vLt, vLe, vGt, vGe, vOrd, DL.isNon, addE, subE, biS, rdS, rdL_new, Bool.not_true, Bool.not_false, if_true, if_false, Bool.false_eq_true, Bool.true_eq_false, reduceIte, true_and, and_true, decide_true, decide_false, vGet_0, vGet_1, slcT, addT, recv, BM.ty, itsOf])
      refine lc_map (fun x => .str (pk x)) trivial _ _ (by unfold big; omega) (fun x hx K1 h1 => ?_) fun p hp => ?_
      · (try simp only [DL.wpS, DL.wpE, DL.wpA, wpT, wpTs, wpBo, DL.wpI, wpIf, wpTg, wpTgs, optI, List.getElem?_cons_zero, List.getElem?_cons_succ, List.set_cons_succ, List.set_cons_zero, vTru, cmpS, vIsK, vLt, vLe, vGt, vGe, vOrd, DL.isNon, addE, subE, biS, rdS, rdL_new, Bool.not_true, Bool.not_false, if_true, if_false, Bool.false_eq_true, Bool.true_eq_false, reduceIte, true_and, and_true, decide_true, decide_false, vGet_0, vGet_1, slcT, addT, wipeD, List.map_cons, List.map_nil])
        exact ⟨n - 1, List.all_eq_true.mp ht.2 x hx, by omega, g1 x hx, h1⟩
      · (try simp only [DL.wpS, DL.wpE, DL.wpA, wpT, wpTs, wpBo, DL.wpI, wpIf, wpTg, wpTgs, optI, List.getElem?_cons_zero, List.getElem?_cons_succ, List.set_cons_succ, List.set_cons_zero, vTru, cmpS, vIsK, vLt, vLe, vGt, vGe, vOrd, DL.isNon, addE, subE, biS, rdS, rdL_new, Bool.not_true, Bool.not_false, if_true, if_false, Bool.false_eq_true, Bool.true_eq_false, reduceIte, true_and, and_true, decide_true, decide_false, vGet_0, vGet_1, slcT, addT, bmS, mapM_asStr])
        have el : (pk (.tup xs)).length = (joinC [44] (xs.map pk)).length + 2 := by simp [pk, pks_eq] <;> omega
        refine ⟨?_, ?_⟩
        · rw [List.length_map]; simp only [List.length_cons, List.length_nil]; omega
        · simp only [vAdd, List.length_append, List.length_cons, List.length_nil, binS]
          refine ⟨by unfold big; omega, by unfold big; omega, ?_⟩
          refine rt_of (M' := M) ?_ (Sub.new hp)
          have ep : pk (.tup xs) = [40] ++ joinC [44] (xs.map pk) ++ [41] := by simp [pk, pks_eq]
          rw [← ep]
          exact hq
    | int i =>
      (try simp only [DL.wpS, DL.wpE, DL.wpA, wpT, wpTs, wpBo, DL.wpI, wpIf, wpTg, wpTgs, optI, List.getElem?_cons_zero, List.getElem?_cons_succ, List.set_cons_succ, List.set_cons_zero, vTru, cmpS, vIsK, vLt, vLe, vGt, vGe, vOrd, DL.isNon, addE, subE, biS, rdS, rdL_new, Bool.not_true, Bool.not_false, if_true, if_false, Bool.false_eq_true, Bool.true_eq_false, reduceIte, true_and, and_true, decide_true, decide_false, vGet_0, vGet_1, slcT, addT])
      refine wp_nil ?_
      refine wp_cons ?_
      have e : ∀ Q, vIsi "str" (.int i) M Q = Q (.bl false) M := fun Q => isi_str (d := .int i) rfl
      have e' : ∀ Q, vIsi "tuple" (.int i) M Q = Q (.bl false) M := fun Q => isi_tup (d := .int i) rfl
      (try simp only [DL.wpS, DL.wpE, DL.wpA, wpT, wpTs, wpBo, DL.wpI, wpIf, wpTg, wpTgs, optI, List.getElem?_cons_zero, List.getElem?_cons_succ, List.set_cons_succ, List.set_cons_zero, vTru, cmpS, vIsK, vLt, vLe, vGt, vGe, vOrd, DL.isNon, addE, subE, biS, rdS, rdL_new, Bool.not_true, Bool.not_false, if_true, if_false, Bool.false_eq_true, Bool.true_eq_false, reduceIte, true_and, and_true, decide_true, decide_false, vGet_0, vGet_1, slcT, addT, e'])
      refine wp_nil ?_
      refine wp_cons ?_
      (try simp only [DL.wpS, DL.wpE, DL.wpA, wpT, wpTs, wpBo, DL.wpI, wpIf, wpTg, wpTgs, optI, List.getElem?_cons_zero, List.getElem?_cons_succ, List.set_cons_succ, List.set_cons_zero, vTru, cmpS, vIsK, vLt, vLe, vGt, vGe, vOrd, DL.isNon, addE, subE, biS, rdS, rdL_new, Bool.not_true, Bool.not_false, if_true, if_false, Bool.false_eq_true, Bool.true_eq_false, reduceIte, true_and, and_true, decide_true, decide_false, vGet_0, vGet_1, slcT, addT, e])
      refine wp_nil ?_
      refine wp_last ?_
      (try simp only [DL.wpS, DL.wpE, DL.wpA, wpT, wpTs, wpBo, DL.wpI, wpIf, wpTg, wpTgs, optI, List.getElem?_cons_zero, List.getElem?_cons_succ, List.set_cons_succ, List.set_cons_zero, vTru, cmpS, vIsK, vLt, vLe, vGt, vGe, vOrd, DL.isNon, addE, subE, biS, rdS, rdL_new, Bool.not_true, Bool.not_false, if_true, if_false, Bool.false_eq_true, Bool.true_eq_false, reduceIte, true_and, and_true, decide_true, decide_false, vGet_0, vGet_1, slcT, addT])
      exact ⟨pk_log ht, rt_of hq Sub.rfl'⟩
    | bl b => rw [isTh_bl] at ht; cases ht
    | obj a => rw [isTh_obj] at ht; cases ht
  · exact h.elim
end H54
set_option Elab.async false
set_option linter.all false
set_option maxRecDepth 100000
set_option maxHeartbeats 1000000
namespace H54
open PySem PySem.Spec PyProof.Rows L2 DL TX
/-! ### the reader -/
def rdr (t : List Nat) (i : Nat) (q : Addr) : MO := .ins 0 [.str t, .int (i : Nat), .obj q]
def sgn (t : List Nat) (i : Nat) : List Nat := match t[i]? with
  | some c => [c]
  | none => []
theorem cut_sl {t : List Nat} {i j : Nat} (hj : j ≤ t.length) (hij : i ≤ j) : cut t (some (i : Int)) (some (j : Int)) = sl t i j := by
  unfold cut sl
  rw [HT.sIx_nat, HT.sIx_nat, Nat.min_eq_left hj, Nat.min_eq_left (by omega)]
theorem cut_sgn {t : List Nat} {i : Nat} : cut t (some (i : Int)) (some ((i : Int) + 1)) = sgn t i := by
  unfold cut sgn
  rw [show ((i : Int) + 1) = ((i + 1 : Nat) : Int) by omega, HT.sIx_nat, HT.sIx_nat]
  cases h : t[i]? with
  | none =>
    have := List.getElem?_eq_none_iff.mp h
    rw [Nat.min_eq_right this, Nat.min_eq_right (by omega), Nat.sub_self, List.take_zero]
  | some c =>
    have hl := some_lt h
    rw [Nat.min_eq_left (by omega), Nat.min_eq_left (by omega), List.drop_eq_getElem_cons hl, Nat.add_sub_cancel_left]
    have : t[i] = c := by
      have := List.getElem?_eq_getElem hl
      rw [h] at this
      exact (Option.some.inj this).symm
    rw [this]; rfl
theorem sgn_none {t : List Nat} {i : Nat} (h : t[i]? = none) : sgn t i = [] := by unfold sgn; rw [h]
theorem sgn_some {t : List Nat} {i c : Nat} (h : t[i]? = some c) : sgn t i = [c] := by unfold sgn; rw [h]
theorem eq_sgn {t : List Nat} {i c : Nat} : decide (sgn t i = [c]) = decide (t[i]? = some c) := by
  unfold sgn
  cases h : t[i]? with
  | none => simp
  | some b => simp
def sp_init : SpD := fun ds M Q _ => match ds with
  | [.obj p, .str t] => M p = some (.ins 0 []) ∧ ∀ N q, N p = some (rdr t 0 q) → N q = some (.lst []) → q ≠ p → M q = none → (∀ a, a ≠ p → a ≠ q → N a = M a) → Q .non N
  | _ => False
theorem h_Reader___init__ : ∀ ds M Q0 E0, sp_init ds M Q0 E0 → ds.length = 2 ∧ wpSs ⟨[], sub, fdOf cf⟩ (wF E0) none m_Reader___init__ (endsF Q0) (startD N_Reader___init__.length ds) M := by
  intro ds M Q0 E0 h
  unfold sp_init at h
  split at h
  · rename_i p t
    obtain ⟨hM, hq⟩ := h
    refine ⟨rfl, ?_⟩
    unfold m_Reader___init__
    refine wp_cons ?_
    show DL.wpS _ _ _ _ _ [some (.obj p), some (.str t)] M
    (try simp only [DL.wpS, DL.wpE, DL.wpA, wpT, wpTs, wpBo, DL.wpI, wpIf, wpTg, wpTgs, optI, List.getElem?_cons_zero, List.getElem?_cons_succ, List.set_cons_succ, List.set_cons_zero, vTru, cmpS, vIsK, vLt, vLe, vGt, vGe, vOrd, DL.isNon, addE, subE, biS, rdS, rdL_new, Bool.not_true, Bool.not_false, if_true, if_false, Bool.false_eq_true, Bool.true_eq_false, reduceIte, true_and, and_true, decide_true, decide_false, vGet_0, vGet_1, slcT, addT, hM, putFd])
    refine wp_cons ?_
    (try simp only [DL.wpS, DL.wpE, DL.wpA, wpT, wpTs, wpBo, DL.wpI, wpIf, wpTg, wpTgs, optI, List.getElem?_cons_zero, List.getElem?_cons_succ, List.set_cons_succ, List.set_cons_zero, vTru, cmpS, vIsK, vLt, vLe, vGt, vGe, vOrd, DL.isNon, addE, subE, biS, rdS, rdL_new, Bool.not_true, Bool.not_false, if_true, if_false, Bool.false_eq_true, Bool.true_eq_false, reduceIte, true_and, and_true, decide_true, decide_false, vGet_0, vGet_1, slcT, addT, mup_same, putFd])
    refine wp_last ?_
    (try simp only [DL.wpS, DL.wpE, DL.wpA, wpT, wpTs, wpBo, DL.wpI, wpIf, wpTg, wpTgs, optI, List.getElem?_cons_zero, List.getElem?_cons_succ, List.set_cons_succ, List.set_cons_zero, vTru, cmpS, vIsK, vLt, vLe, vGt, vGe, vOrd, DL.isNon, addE, subE, biS, rdS, rdL_new, Bool.not_true, Bool.not_false, if_true, if_false, Bool.false_eq_true, Bool.true_eq_false, reduceIte, true_and, and_true, decide_true, decide_false, vGet_0, vGet_1, slcT, addT])
    intro q hq0
    obtain ⟨n1, e1⟩ := mup_none hq0
    obtain ⟨_, e2⟩ := mup_none e1
    have : mup (mup (mup M p (.ins 0 [.str t])) p (.ins 0 [.str t, .int 0])) q (.lst []) p = some (.ins 0 [.str t, .int 0]) := by rw [mup_ne (Ne.symm n1), mup_same]
    (try simp only [DL.wpS, DL.wpE, DL.wpA, wpT, wpTs, wpBo, DL.wpI, wpIf, wpTg, wpTgs, optI, List.getElem?_cons_zero, List.getElem?_cons_succ, List.set_cons_succ, List.set_cons_zero, vTru, cmpS, vIsK, vLt, vLe, vGt, vGe, vOrd, DL.isNon, addE, subE, biS, rdS, rdL_new, Bool.not_true, Bool.not_false, if_true, if_false, Bool.false_eq_true, Bool.true_eq_false, reduceIte, true_and, and_true, decide_true, decide_false, vGet_0, vGet_1, slcT, addT, List.length_nil, List.length_cons, Nat.lt_irrefl, List.nil_append, this, putFd])
    simp only [List.length_nil, List.length_cons, List.nil_append, List.cons_append, this, putFd, if_true, if_false, Nat.lt_irrefl, true_and, reduceIte, show ¬ (2 < 2) by decide, show ¬(1 < 1) by decide, show ¬ (0 < 0) by decide]
    first
    | exact ⟨_, Sub.rfl', hq _ q (mup_same) (by rw [mup_ne n1, mup_same]) n1 e2 fun a h1 h2 => by rw [mup_ne h1, mup_ne h2, mup_ne h1, mup_ne h1]⟩
    | exact hq _ q (mup_same) (by rw [mup_ne n1, mup_same]) n1 e2 fun a h1 h2 => by rw [mup_ne h1, mup_ne h2, mup_ne h1, mup_ne h1]
  · exact h.elim
def sp_wrong : SpD := fun ds M _ E => match ds with
  | [.obj p] => ∃ t i q, M p = some (rdr t i q) ∧ E ⟨2, [.int (i : Nat)]⟩ M
  | _ => False
theorem h_Reader_wrong : ∀ ds M Q0 E0, sp_wrong ds M Q0 E0 → ds.length = 1 ∧ wpSs ⟨[], sub, fdOf cf⟩ (wF E0) none m_Reader_wrong (endsF Q0) (startD N_Reader_wrong.length ds) M := by
  intro ds M Q0 E0 h
  unfold sp_wrong at h
  split at h
  · rename_i p
    obtain ⟨t, i, q, hM, hE⟩ := h
    refine ⟨rfl, ?_⟩
    unfold m_Reader_wrong
    refine wp_last ?_
    show DL.wpS _ _ _ _ _ [some (.obj p)] M
    (try simp only [DL.wpS, DL.wpE, DL.wpA, wpT, wpTs, wpBo, DL.wpI, wpIf, wpTg, wpTgs, optI, List.getElem?_cons_zero, List.getElem?_cons_succ, List.set_cons_succ, List.set_cons_zero, vTru, cmpS, vIsK, vLt, vLe, vGt, vGe, vOrd, DL.isNon, addE, subE, biS, rdS, rdL_new, Bool.not_true, Bool.not_false, if_true, if_false, Bool.false_eq_true, Bool.true_eq_false, reduceIte, true_and, and_true, decide_true, decide_false, vGet_0, vGet_1, slcT, addT, hM, rdr])
    exact ⟨M, Sub.rfl', hE⟩
  · exact h.elim
def sp_sign : SpD := fun ds M Q _ => match ds with
  | [.obj p] => ∃ t i q, M p = some (rdr t i q) ∧ t.length ≤ 10000000 ∧ Q (.str (sgn t i)) M
  | _ => False
theorem h_Reader_sign : ∀ ds M Q0 E0, sp_sign ds M Q0 E0 → ds.length = 1 ∧ wpSs ⟨[], sub, fdOf cf⟩ (wF E0) none m_Reader_sign (endsF Q0) (startD N_Reader_sign.length ds) M := by
  intro ds M Q0 E0 h
  unfold sp_sign at h
  split at h
  · rename_i p
    obtain ⟨t, i, q, hM, hl, hq⟩ := h
    refine ⟨rfl, ?_⟩
    unfold m_Reader_sign
    refine wp_last ?_
    show DL.wpS _ _ _ _ _ [some (.obj p)] M
    (try simp only [DL.wpS, DL.wpE, DL.wpA, wpT, wpTs, wpBo, DL.wpI, wpIf, wpTg, wpTgs, optI, List.getElem?_cons_zero, List.getElem?_cons_succ, List.set_cons_succ, List.set_cons_zero, vTru, cmpS, vIsK, vLt, vLe, vGt, vGe, vOrd, DL.isNon, addE, subE, biS, rdS, rdL_new, Bool.not_true, Bool.not_false, if_true, if_false, Bool.false_eq_true, Bool.true_eq_false, reduceIte, true_and, and_true, decide_true, decide_false, vGet_0, vGet_1, slcT, addT, hM, rdr, vSlc, cut_sgn])
    exact ⟨by unfold big; omega, rt_of hq Sub.rfl'⟩
  · exact h.elim
/-! ### digits -/
theorem nd_lt {t : List Nat} {b k : Nat} (h : k < nd t b) : k < 30 ∧ ∃ c, t[b + k]? = some c ∧ dig c = true := by
  unfold nd at h
  refine ⟨by omega, ?_⟩
  have hk : k < ((t.drop b).takeWhile dig).length := by omega
  rw [← List.getElem?_drop]
  have key : ∀ (l : List Nat) (k : Nat), k < (l.takeWhile dig).length → ∃ c, l[k]? = some c ∧ dig c = true := by
    intro l
    induction l with
    | nil => intro k h; simp at h
    | cons x l ih =>
      intro k h
      rw [List.takeWhile_cons] at h
      cases hx : dig x with
      | true =>
        rw [hx] at h
        cases k with
        | zero => exact ⟨x, rfl, hx⟩
        | succ k => exact ih k (by simpa using h)
      | false => rw [hx] at h; simp at h
  exact key _ _ hk
theorem nd_eq {t : List Nat} {b : Nat} : nd t b = 30 ∨ ∀ c, t[b + nd t b]? = some c → dig c = false := by
  by_cases h : 30 ≤ ((t.drop b).takeWhile dig).length
  · left; unfold nd; omega
  · right
    intro c hc
    have e : nd t b = ((t.drop b).takeWhile dig).length := by unfold nd; omega
    rw [e, ← List.getElem?_drop] at hc
    have key : ∀ l : List Nat, l[(l.takeWhile dig).length]? = some c → dig c = false := by
      intro l
      induction l with
      | nil => intro h; simp at h
      | cons x l ih =>
        intro h
        rw [List.takeWhile_cons] at h
        cases hx : dig x with
        | true => rw [hx] at h; simp at h; exact ih h
        | false => rw [hx] at h; simp at h; rw [← h]; exact hx
    exact key _ hc
theorem nd_le {t : List Nat} {b : Nat} (h : b ≤ t.length) : b + nd t b ≤ t.length := by
  unfold nd
  have : ((t.drop b).takeWhile dig).length ≤ (t.drop b).length := (List.takeWhile_prefix dig).length_le
  rw [List.length_drop] at this
  omega
theorem nd_eq' {t : List Nat} {b k : Nat} (h1 : k ≤ nd t b) (h2 : k = 30 ∨ ∀ c, t[b + k]? = some c → dig c = false) : k = nd t b := by
  rcases Nat.lt_or_eq_of_le h1 with h | h
  · obtain ⟨a, c, e, d⟩ := nd_lt h
    rcases h2 with h2 | h2
    · omega
    · rw [h2 c e] at d; cases d
  · exact h
theorem in_fig {neg : Bool} {c : Nat} {M : Mem} : vInG neg (.str [c]) (.str [48, 49, 50, 51, 52, 53, 54, 55, 56, 57]) M = fun Q => Q (.bl (if neg then !dig c else dig c)) M := by
  funext Q
  have e : decide (c ∈ [48, 49, 50, 51, 52, 53, 54, 55, 56, 57]) = dig c := by
    unfold dig
    by_cases h : 48 ≤ c ∧ c ≤ 57
    · have : c ∈ [48, 49, 50, 51, 52, 53, 54, 55, 56, 57] := by
        simp only [List.mem_cons, List.not_mem_nil, or_false]; omega
      simp [this, h]
    · have : c ∉ [48, 49, 50, 51, 52, 53, 54, 55, 56, 57] := by
        simp only [List.mem_cons, List.not_mem_nil, or_false]; omega
      simp only [this, decide_false]
      by_cases h1 : 48 ≤ c <;> simp [h1] <;> omega
  unfold vInG
  have d : isDct M (.str [48, 49, 50, 51, 52, 53, 54, 55, 56, 57]) = false := rfl
  rw [d]
  simp only [Bool.false_eq_true, if_false, vInK]
  rw [e]
def fg (t : List Nat) (i : Nat) : Nat := if t[i]? = some 48 then 1 else nd t i
theorem fg_le {t : List Nat} {i : Nat} (h : i ≤ t.length) : i + fg t i ≤ t.length := by
  unfold fg
  split
  · rename_i e; have := some_lt e; omega
  · exact nd_le h
theorem vGet_str {l : List Nat} {k c : Nat} {M : Mem} (h : l[k]? = some c) (hl : l.length ≤ 10000000) : vGet (.str l) (.int (k : Nat)) M = fun Q => Q (.str [c]) M := by
  funext Q
  unfold vGet
  have d : isDct M (.str l) = false := rfl
  rw [d]
  simp only [Bool.false_eq_true, if_false, vIdx, DL.atI_nat h]
  have : l.length ≤ big := by unfold big; omega
  simp [this]
def sp_figures : SpD := fun ds M Q _ => match ds with
  | [.obj p] => ∃ t i q, M p = some (rdr t i q) ∧ t.length ≤ 10000000 ∧ i ≤ t.length ∧ ∀ N, UpX p M N → N p = some (rdr t (i + fg t i) q) → Q (.str (sl t i (i + fg t i))) N
  | _ => False
theorem h_Reader_figures (k : Nat) : ∀ ds M Q0 E0, sp_figures ds M Q0 E0 → ds.length = 1 ∧ wpSs ⟨[C_Reader_sign k sp_sign], sub, fdOf cf⟩ (wF E0) none m_Reader_figures (endsF Q0) (startD N_Reader_figures.length ds) M := by
  intro ds M Q0 E0 h
  unfold sp_figures at h
  split at h
  · rename_i p
    obtain ⟨t, i, q, hM, hl, hi, hq⟩ := h
    refine ⟨rfl, ?_⟩
    unfold m_Reader_figures
    refine wp_cons ?_
    show DL.wpS _ _ _ _ _ [some (.obj p), none] M
    (try simp only [DL.wpS, DL.wpE, DL.wpA, wpT, wpTs, wpBo, DL.wpI, wpIf, wpTg, wpTgs, optI, List.getElem?_cons_zero, List.getElem?_cons_succ, List.set_cons_succ, List.set_cons_zero, vTru, cmpS, vIsK, vLt, vLe, vGt, vGe, vOrd, DL.isNon, addE, subE, biS, rdS, rdL_new, Bool.not_true, Bool.not_false, if_true, if_false, Bool.false_eq_true, Bool.true_eq_false, reduceIte, true_and, and_true, decide_true, decide_false, vGet_0, vGet_1, slcT, addT, hM, rdr])
    have hM' : M p = some (.ins 0 [.str t, .int (i : Nat), .obj q]) := hM
    refine wp_cut (fun ρ' M' => ρ' = [some (.obj p), some (.int (i : Nat))] ∧ UpX p M M' ∧ M' p = some (rdr t (i + fg t i) q)) ?_ ?_
    · unfold DL.wpS
      refine ⟨fun m ρ' M' => ∃ k, m = 40 - k ∧ k < 31 ∧ ρ' = [some (.obj p), some (.int (i : Nat))] ∧ UpX p M M' ∧ M' p = some (.ins 0 [.str t, .int ((i + k : Nat) : Int), .obj q]) ∧ k ≤ nd t i ∧ (t[i]? = some 48 → k = 0), ⟨40, 0, rfl, by decide, rfl, UpX.rfl', hM, Nat.zero_le _, fun _ => rfl⟩, ?_⟩
      rintro m ρ' M' ⟨k, rfl, hk31, rfl, U, Mp, hk, h0⟩
      have done : k = nd t i → M' p = some (rdr t (i + fg t i) q) := fun e => by
        have : fg t i = k := by
          unfold fg
          split
          · rename_i e0
            have := h0 e0
            subst this
            rcases nd_eq (t := t) (b := i) with z | z
            · omega
            · rw [← e] at z
              have := z 48 e0
              cases this
          · exact e.symm
        rw [this]; exact Mp
      have Mp' : M' p = some (rdr t (i + k) q) := Mp
      (try simp only [DL.wpS, DL.wpE, DL.wpA, wpT, wpTs, wpBo, DL.wpI, wpIf, wpTg, wpTgs, optI, List.getElem?_cons_zero, List.getElem?_cons_succ, List.set_cons_succ, List.set_cons_zero, vTru, cmpS, vIsK, vLt, vLe, vGt, vGe, vOrd, DL.isNon, addE, subE, biS, rdS, rdL_new, Bool.not_true, Bool.not_false, if_true, if_false, Bool.false_eq_true, Bool.true_eq_false, reduceIte, true_and, and_true, decide_true, decide_false, vGet_0, vGet_1, slcT, addT, Mp])
      refine ⟨t, i + k, q, Mp', hl, ?_⟩
      cases hc : t[i + k]? with
      | none =>
        (try simp only [DL.wpS, DL.wpE, DL.wpA, wpT, wpTs, wpBo, DL.wpI, wpIf, wpTg, wpTgs, optI, List.getElem?_cons_zero, List.getElem?_cons_succ, List.set_cons_succ, List.set_cons_zero, vTru, cmpS, vIsK, vLt, vLe, vGt, vGe, vOrd, DL.isNon, addE, subE, biS, rdS, rdL_new, Bool.not_true, Bool.not_false, if_true, if_false, Bool.false_eq_true, Bool.true_eq_false, reduceIte, true_and, and_true, decide_true, decide_false, vGet_0, vGet_1, slcT, addT, sgn_none hc, vEqK])
        exact ⟨U, (done (nd_eq' hk (.inr fun c z => by rw [hc] at z; cases z)))⟩
      | some c =>
        (try simp only [DL.wpS, DL.wpE, DL.wpA, wpT, wpTs, wpBo, DL.wpI, wpIf, wpTg, wpTgs, optI, List.getElem?_cons_zero, List.getElem?_cons_succ, List.set_cons_succ, List.set_cons_zero, vTru, cmpS, vIsK, vLt, vLe, vGt, vGe, vOrd, DL.isNon, addE, subE, biS, rdS, rdL_new, Bool.not_true, Bool.not_false, if_true, if_false, Bool.false_eq_true, Bool.true_eq_false, reduceIte, true_and, and_true, decide_true, decide_false, vGet_0, vGet_1, slcT, addT, sgn_some hc, vEqK])
        simp only [show (decide (([c] : List Nat) = [])) = false by simp, Bool.not_false, if_true]
        (try simp only [DL.wpS, DL.wpE, DL.wpA, wpT, wpTs, wpBo, DL.wpI, wpIf, wpTg, wpTgs, optI, List.getElem?_cons_zero, List.getElem?_cons_succ, List.set_cons_succ, List.set_cons_zero, vTru, cmpS, vIsK, vLt, vLe, vGt, vGe, vOrd, DL.isNon, addE, subE, biS, rdS, rdL_new, Bool.not_true, Bool.not_false, if_true, if_false, Bool.false_eq_true, Bool.true_eq_false, reduceIte, true_and, and_true, decide_true, decide_false, vGet_0, vGet_1, slcT, addT, Mp])
        refine ⟨t, i + k, q, Mp', hl, ?_⟩
        (try simp only [DL.wpS, DL.wpE, DL.wpA, wpT, wpTs, wpBo, DL.wpI, wpIf, wpTg, wpTgs, optI, List.getElem?_cons_zero, List.getElem?_cons_succ, List.set_cons_succ, List.set_cons_zero, vTru, cmpS, vIsK, vLt, vLe, vGt, vGe, vOrd, DL.isNon, addE, subE, biS, rdS, rdL_new, Bool.not_true, Bool.not_false, if_true, if_false, Bool.false_eq_true, Bool.true_eq_false, reduceIte, true_and, and_true, decide_true, decide_false, vGet_0, vGet_1, slcT, addT, sgn_some hc, in_fig])
        cases hd : dig c with
        | false =>
          (try simp only [DL.wpS, DL.wpE, DL.wpA, wpT, wpTs, wpBo, DL.wpI, wpIf, wpTg, wpTgs, optI, List.getElem?_cons_zero, List.getElem?_cons_succ, List.set_cons_succ, List.set_cons_zero, vTru, cmpS, vIsK, vLt, vLe, vGt, vGe, vOrd, DL.isNon, addE, subE, biS, rdS, rdL_new, Bool.not_true, Bool.not_false, if_true, if_false, Bool.false_eq_true, Bool.true_eq_false, reduceIte, true_and, and_true, decide_true, decide_false, vGet_0, vGet_1, slcT, addT])
          exact ⟨U, (done (nd_eq' hk (.inr fun c' z => by rw [hc] at z; cases z; exact hd)))⟩
        | true =>
          (try simp only [DL.wpS, DL.wpE, DL.wpA, wpT, wpTs, wpBo, DL.wpI, wpIf, wpTg, wpTgs, optI, List.getElem?_cons_zero, List.getElem?_cons_succ, List.set_cons_succ, List.set_cons_zero, vTru, cmpS, vIsK, vLt, vLe, vGt, vGe, vOrd, DL.isNon, addE, subE, biS, rdS, rdL_new, Bool.not_true, Bool.not_false, if_true, if_false, Bool.false_eq_true, Bool.true_eq_false, reduceIte, true_and, and_true, decide_true, decide_false, vGet_0, vGet_1, slcT, addT, Mp])
          by_cases h30 : ((i + k : Nat) : Int) - (i : Nat) < 30
          · (try simp only [DL.wpS, DL.wpE, DL.wpA, wpT, wpTs, wpBo, DL.wpI, wpIf, wpTg, wpTgs, optI, List.getElem?_cons_zero, List.getElem?_cons_succ, List.set_cons_succ, List.set_cons_zero, vTru, cmpS, vIsK, vLt, vLe, vGt, vGe, vOrd, DL.isNon, addE, subE, biS, rdS, rdL_new, Bool.not_true, Bool.not_false, if_true, if_false, Bool.false_eq_true, Bool.true_eq_false, reduceIte, true_and, and_true, decide_true, decide_false, vGet_0, vGet_1, slcT, addT, h30])
            have hkn : k < nd t i := by
              rcases Nat.lt_or_eq_of_le hk with z | z
              · exact z
              · exfalso
                rcases nd_eq (t := t) (b := i) with w | w
                · omega
                · rw [← z] at w; rw [w c hc] at hd; cases hd
            obtain ⟨_, c0, e0, d0⟩ := nd_lt (t := t) (b := i) (k := 0) (by omega)
            rw [Nat.add_zero] at e0
            refine wp_cons ?_
            (try simp only [DL.wpS, DL.wpE, DL.wpA, wpT, wpTs, wpBo, DL.wpI, wpIf, wpTg, wpTgs, optI, List.getElem?_cons_zero, List.getElem?_cons_succ, List.set_cons_succ, List.set_cons_zero, vTru, cmpS, vIsK, vLt, vLe, vGt, vGe, vOrd, DL.isNon, addE, subE, biS, rdS, rdL_new, Bool.not_true, Bool.not_false, if_true, if_false, Bool.false_eq_true, Bool.true_eq_false, reduceIte, true_and, and_true, decide_true, decide_false, vGet_0, vGet_1, slcT, addT, Mp, augS, List.length_cons, List.length_nil])
            refine ⟨by decide, ?_⟩
            have Mn : mup M' p (.ins 0 [.str t, .int (((i + k : Nat) : Int) + 1), .obj q]) p = some (.ins 0 [.str t, .int (((i + k : Nat) : Int) + 1), .obj q]) := mup_same
            have U2 : UpX p M (mup M' p (.ins 0 [.str t, .int (((i + k : Nat) : Int) + 1), .obj q])) := U.own
            generalize mup M' p (.ins 0 [.str t, .int (((i + k : Nat) : Int) + 1), .obj q]) = M2 at Mn U2
            refine wp_last ?_
            (try simp only [DL.wpS, DL.wpE, DL.wpA, wpT, wpTs, wpBo, DL.wpI, wpIf, wpTg, wpTgs, optI, List.getElem?_cons_zero, List.getElem?_cons_succ, List.set_cons_succ, List.set_cons_zero, vTru, cmpS, vIsK, vLt, vLe, vGt, vGe, vOrd, DL.isNon, addE, subE, biS, rdS, rdL_new, Bool.not_true, Bool.not_false, if_true, if_false, Bool.false_eq_true, Bool.true_eq_false, reduceIte, true_and, and_true, decide_true, decide_false, vGet_0, vGet_1, slcT, addT, Mn, vGet_str e0 hl, vEqK])
            by_cases h48 : c0 = 48
            · subst h48
              have hk0 := h0 e0
              subst hk0
              (try simp only [DL.wpS, DL.wpE, DL.wpA, wpT, wpTs, wpBo, DL.wpI, wpIf, wpTg, wpTgs, optI, List.getElem?_cons_zero, List.getElem?_cons_succ, List.set_cons_succ, List.set_cons_zero, vTru, cmpS, vIsK, vLt, vLe, vGt, vGe, vOrd, DL.isNon, addE, subE, biS, rdS, rdL_new, Bool.not_true, Bool.not_false, if_true, if_false, Bool.false_eq_true, Bool.true_eq_false, reduceIte, true_and, and_true, decide_true, decide_false, vGet_0, vGet_1, slcT, addT])
              refine wp_last ?_
              (try simp only [DL.wpS, DL.wpE, DL.wpA, wpT, wpTs, wpBo, DL.wpI, wpIf, wpTg, wpTgs, optI, List.getElem?_cons_zero, List.getElem?_cons_succ, List.set_cons_succ, List.set_cons_zero, vTru, cmpS, vIsK, vLt, vLe, vGt, vGe, vOrd, DL.isNon, addE, subE, biS, rdS, rdL_new, Bool.not_true, Bool.not_false, if_true, if_false, Bool.false_eq_true, Bool.true_eq_false, reduceIte, true_and, and_true, decide_true, decide_false, vGet_0, vGet_1, slcT, addT])
              have : fg t i = 1 := by unfold fg; rw [if_pos e0]
              refine ⟨U2, ?_⟩
              rw [this, Mn]
              simp [rdr]
            · simp only [show decide (([c0] : List Nat) = [48]) = false by simp [h48], Bool.false_eq_true, if_false]
              refine wp_nil ?_
              refine ⟨40 - (k + 1), M2, by omega, Sub.rfl', k + 1, rfl, ?_, rfl, U2, ?_, by omega, fun z => by rw [e0] at z; cases z; exact absurd rfl h48⟩
              · have := (nd_lt hkn).1; omega
              · rw [Mn, show ((i + (k + 1) : Nat) : Int) = ((i + k : Nat) : Int) + 1 by omega]
          · (try simp only [DL.wpS, DL.wpE, DL.wpA, wpT, wpTs, wpBo, DL.wpI, wpIf, wpTg, wpTgs, optI, List.getElem?_cons_zero, List.getElem?_cons_succ, List.set_cons_succ, List.set_cons_zero, vTru, cmpS, vIsK, vLt, vLe, vGt, vGe, vOrd, DL.isNon, addE, subE, biS, rdS, rdL_new, Bool.not_true, Bool.not_false, if_true, if_false, Bool.false_eq_true, Bool.true_eq_false, reduceIte, true_and, and_true, decide_true, decide_false, vGet_0, vGet_1, slcT, addT, h30])
            have hn30 : nd t i ≤ 30 := by unfold nd; omega
            have := (done (nd_eq' hk (.inl (by omega))))
            first
            | exact ⟨U, this⟩
            | exact ⟨U, Mp.symm.trans this⟩
    · rintro ρ' M' ⟨rfl, U, Mp⟩
      refine ⟨M', Sub.rfl', ?_⟩
      refine wp_last ?_
      have Mp' : M' p = some (.ins 0 [.str t, .int ((i + fg t i : Nat) : Int), .obj q]) := Mp
      (try simp only [DL.wpS, DL.wpE, DL.wpA, wpT, wpTs, wpBo, DL.wpI, wpIf, wpTg, wpTgs, optI, List.getElem?_cons_zero, List.getElem?_cons_succ, List.set_cons_succ, List.set_cons_zero, vTru, cmpS, vIsK, vLt, vLe, vGt, vGe, vOrd, DL.isNon, addE, subE, biS, rdS, rdL_new, Bool.not_true, Bool.not_false, if_true, if_false, Bool.false_eq_true, Bool.true_eq_false, reduceIte, true_and, and_true, decide_true, decide_false, vGet_0, vGet_1, slcT, addT, Mp', vSlc, cut_sl (fg_le hi) (Nat.le_add_right _ _)])
      exact ⟨by unfold big; omega, rt_of (hq M' U Mp) Sub.rfl'⟩
  · exact h.elim
end H54
set_option Elab.async false
set_option linter.all false
set_option maxRecDepth 100000
set_option maxHeartbeats 1000000
namespace H54
open PySem PySem.Spec PyProof.Rows L2 DL TX
/-- what a reader's method answers -/
def Res (o : Out) (M : Mem) (p q : Addr) (t : List Nat) (Q : DK) (E : Ex → Mem → Prop) : Prop := match o with
  | .ok v j => ∀ N, UpX p M N → N p = some (rdr t j q) → Q v N
  | .bad j => ∀ N, UpX p M N → E ⟨2, [.int (j : Nat)]⟩ N
theorem sl_len {t : List Nat} {i j : Nat} (h : j ≤ t.length) (hi : i ≤ j) : (sl t i j).length = j - i := by
  unfold sl
  rw [List.length_take, List.length_drop]; omega
theorem sl_dig {t : List Nat} {b k : Nat} (h : k ≤ nd t b) : ∀ c ∈ sl t b (b + k), 48 ≤ c ∧ c ≤ 57 := by
  intro c hc
  unfold sl at hc
  rw [Nat.add_sub_cancel_left] at hc
  obtain ⟨m, hm⟩ := List.mem_iff_getElem?.mp hc
  rw [List.getElem?_take] at hm
  split at hm
  · rename_i hmk
    obtain ⟨_, c', e, d⟩ := nd_lt (t := t) (b := b) (k := m) (by omega)
    rw [List.getElem?_drop, e] at hm
    cases hm
    simp [dig] at d
    exact d
  · cases hm
theorem sl_cons {t : List Nat} {i j c : Nat} (h : t[i]? = some c) (hj : i < j) : sl t i j = c :: sl t (i + 1) j := by
  unfold sl
  have hl := some_lt h
  rw [List.drop_eq_getElem_cons hl, show j - i = (j - (i + 1)) + 1 by omega, List.take_succ_cons]
  have : t[i] = c := by
    have := List.getElem?_eq_getElem hl
    rw [h] at this
    exact (Option.some.inj this).symm
  rw [this]
theorem iv_dig {l : List Nat} (h : ∀ c ∈ l, 48 ≤ c ∧ c ≤ 57) (hne : l ≠ []) (hl : l.length ≤ 31) : PySem.intText? (DL.S l) = some (iv l) := by
  have := intText_digits (x := DL.S l) (by rw [S_cps]; exact h) (by rw [S_cps]; exact hne) (by rw [S_len]; omega)
  unfold iv
  have e : PySem.intText? (DL.S l) = some ((NumText.digitsVal l : Nat) : Int) := by rw [S_cps] at this; exact this
  rw [e]; rfl
theorem iv_dneg {l : List Nat} (h : ∀ c ∈ l, 48 ≤ c ∧ c ≤ 57) (hne : l ≠ []) (hl : l.length ≤ 31) : PySem.intText? (DL.S (45 :: l)) = some (iv (45 :: l)) := by
  have := intText_neg (x := DL.S (45 :: l)) (cs := l) (by rw [S_cps]) h hne (by rw [S_len, List.length_cons]; omega)
  have e : PySem.intText? (DL.S (45 :: l)) = some (-(NumText.digitsVal l : Int)) := this
  have e2 : iv (45 :: l) = -(NumText.digitsVal l : Int) := by unfold iv; rw [e]; rfl
  rw [e, e2]
theorem fg_nd {t : List Nat} {i : Nat} (h : t[i]? ≠ some 48) : fg t i = nd t i := by unfold fg; rw [if_neg h]
theorem nd30 {t : List Nat} {i : Nat} : nd t i ≤ 30 := by unfold nd; omega
def sp_integer : SpD := fun ds M Q E => match ds with
  | [.obj p] => ∃ t i q, M p = some (rdr t i q) ∧ t.length ≤ 10000000 ∧ i ≤ t.length ∧ Res (intO t i) M p q t Q E
  | _ => False
theorem h_Reader_integer (k1 k2 k3 : Nat) : ∀ ds M Q0 E0, sp_integer ds M Q0 E0 → ds.length = 1 ∧ wpSs ⟨[C_Reader_sign k1 sp_sign, C_Reader_wrong k2 sp_wrong, C_Reader_figures k3 sp_figures], sub, fdOf cf⟩ (wF E0) none m_Reader_integer (endsF Q0) (startD N_Reader_integer.length ds) M := by
  intro ds M Q0 E0 h
  unfold sp_integer at h
  split at h
  · rename_i p
    obtain ⟨t, i, q, hM, hl, hi, hR⟩ := h
    have hM' : M p = some (.ins 0 [.str t, .int (i : Nat), .obj q]) := hM
    refine ⟨rfl, ?_⟩
    unfold m_Reader_integer
    refine wp_cons ?_
    show DL.wpS _ _ _ _ _ [some (.obj p), none, none] M
    (try simp only [DL.wpS, DL.wpE, DL.wpA, wpT, wpTs, wpBo, DL.wpI, wpIf, wpTg, wpTgs, optI, List.getElem?_cons_zero, List.getElem?_cons_succ, List.set_cons_succ, List.set_cons_zero, vTru, cmpS, vIsK, vLt, vLe, vGt, vGe, vOrd, DL.isNon, addE, subE, biS, rdS, rdL_new, Bool.not_true, Bool.not_false, if_true, if_false, Bool.false_eq_true, Bool.true_eq_false, reduceIte, true_and, and_true, decide_true, decide_false, vGet_0, vGet_1, slcT, addT])
    refine wp_cut (fun ρ' M' => ρ' = [some (.obj p), some (.str (if t[i]? = some 45 then [45] else [])), none] ∧ UpX p M M' ∧ M' p = some (rdr t (bgn t i) q) ∧ (t[i]? = some 45 → t[i + 1]? ≠ some 48)) ?_ ?_
    · (try simp only [DL.wpS, DL.wpE, DL.wpA, wpT, wpTs, wpBo, DL.wpI, wpIf, wpTg, wpTgs, optI, List.getElem?_cons_zero, List.getElem?_cons_succ, List.set_cons_succ, List.set_cons_zero, vTru, cmpS, vIsK, vLt, vLe, vGt, vGe, vOrd, DL.isNon, addE, subE, biS, rdS, rdL_new, Bool.not_true, Bool.not_false, if_true, if_false, Bool.false_eq_true, Bool.true_eq_false, reduceIte, true_and, and_true, decide_true, decide_false, vGet_0, vGet_1, slcT, addT, hM'])
      refine ⟨t, i, q, hM, hl, ?_⟩
      (try simp only [DL.wpS, DL.wpE, DL.wpA, wpT, wpTs, wpBo, DL.wpI, wpIf, wpTg, wpTgs, optI, List.getElem?_cons_zero, List.getElem?_cons_succ, List.set_cons_succ, List.set_cons_zero, vTru, cmpS, vIsK, vLt, vLe, vGt, vGe, vOrd, DL.isNon, addE, subE, biS, rdS, rdL_new, Bool.not_true, Bool.not_false, if_true, if_false, Bool.false_eq_true, Bool.true_eq_false, reduceIte, true_and, and_true, decide_true, decide_false, vGet_0, vGet_1, slcT, addT, vEqK, eq_sgn])
      by_cases h45 : t[i]? = some 45
      · simp only [h45, decide_true, if_true]
        have hlt := some_lt h45
        refine wp_cons ?_
        (try simp only [DL.wpS, DL.wpE, DL.wpA, wpT, wpTs, wpBo, DL.wpI, wpIf, wpTg, wpTgs, optI, List.getElem?_cons_zero, List.getElem?_cons_succ, List.set_cons_succ, List.set_cons_zero, vTru, cmpS, vIsK, vLt, vLe, vGt, vGe, vOrd, DL.isNon, addE, subE, biS, rdS, rdL_new, Bool.not_true, Bool.not_false, if_true, if_false, Bool.false_eq_true, Bool.true_eq_false, reduceIte, true_and, and_true, decide_true, decide_false, vGet_0, vGet_1, slcT, addT])
        refine wp_cons ?_
        (try simp only [DL.wpS, DL.wpE, DL.wpA, wpT, wpTs, wpBo, DL.wpI, wpIf, wpTg, wpTgs, optI, List.getElem?_cons_zero, List.getElem?_cons_succ, List.set_cons_succ, List.set_cons_zero, vTru, cmpS, vIsK, vLt, vLe, vGt, vGe, vOrd, DL.isNon, addE, subE, biS, rdS, rdL_new, Bool.not_true, Bool.not_false, if_true, if_false, Bool.false_eq_true, Bool.true_eq_false, reduceIte, true_and, and_true, decide_true, decide_false, vGet_0, vGet_1, slcT, addT, hM', augS, List.length_cons, List.length_nil])
        refine ⟨by decide, ?_⟩
        have Mn : mup M p (.ins 0 [.str t, .int ((i : Int) + 1), .obj q]) p = some (.ins 0 [.str t, .int ((i : Int) + 1), .obj q]) := mup_same
        have U2 : UpX p M (mup M p (.ins 0 [.str t, .int ((i : Int) + 1), .obj q])) := UpX.rfl'.own
        generalize mup M p (.ins 0 [.str t, .int ((i : Int) + 1), .obj q]) = M2 at Mn U2
        have Mn' : M2 p = some (rdr t (i + 1) q) := by rw [Mn]; simp [rdr]
        refine wp_last ?_
        (try simp only [DL.wpS, DL.wpE, DL.wpA, wpT, wpTs, wpBo, DL.wpI, wpIf, wpTg, wpTgs, optI, List.getElem?_cons_zero, List.getElem?_cons_succ, List.set_cons_succ, List.set_cons_zero, vTru, cmpS, vIsK, vLt, vLe, vGt, vGe, vOrd, DL.isNon, addE, subE, biS, rdS, rdL_new, Bool.not_true, Bool.not_false, if_true, if_false, Bool.false_eq_true, Bool.true_eq_false, reduceIte, true_and, and_true, decide_true, decide_false, vGet_0, vGet_1, slcT, addT, Mn])
        refine ⟨t, i + 1, q, Mn', hl, ?_⟩
        (try simp only [DL.wpS, DL.wpE, DL.wpA, wpT, wpTs, wpBo, DL.wpI, wpIf, wpTg, wpTgs, optI, List.getElem?_cons_zero, List.getElem?_cons_succ, List.set_cons_succ, List.set_cons_zero, vTru, cmpS, vIsK, vLt, vLe, vGt, vGe, vOrd, DL.isNon, addE, subE, biS, rdS, rdL_new, Bool.not_true, Bool.not_false, if_true, if_false, Bool.false_eq_true, Bool.true_eq_false, reduceIte, true_and, and_true, decide_true, decide_false, vGet_0, vGet_1, slcT, addT, vEqK, eq_sgn])
        by_cases h48 : t[i + 1]? = some 48
        · simp only [h48, decide_true, if_true]
          refine wp_last ?_
          (try simp only [DL.wpS, DL.wpE, DL.wpA, wpT, wpTs, wpBo, DL.wpI, wpIf, wpTg, wpTgs, optI, List.getElem?_cons_zero, List.getElem?_cons_succ, List.set_cons_succ, List.set_cons_zero, vTru, cmpS, vIsK, vLt, vLe, vGt, vGe, vOrd, DL.isNon, addE, subE, biS, rdS, rdL_new, Bool.not_true, Bool.not_false, if_true, if_false, Bool.false_eq_true, Bool.true_eq_false, reduceIte, true_and, and_true, decide_true, decide_false, vGet_0, vGet_1, slcT, addT, Mn])
          refine ⟨t, i + 1, q, Mn', M2, Sub.rfl', ?_⟩
          have e : intO t i = .bad (i + 1) := by
            unfold intO bgn
            simp only [h45, if_true, h48]
          rw [e] at hR
          exact hR M2 U2
        · simp only [h48, decide_false, Bool.false_eq_true, if_false]
          refine wp_nil ⟨rfl, U2, ?_, fun _ => h48⟩
          unfold bgn
          rw [if_pos h45]; exact Mn'
      · simp only [h45, decide_false, Bool.false_eq_true, if_false]
        refine wp_nil ⟨rfl, UpX.rfl', ?_, fun z => z.elim⟩
        unfold bgn
        rw [if_neg h45]; exact hM
    · rintro ρ' M2 ⟨rfl, U2, Mn, h48⟩
      refine ⟨M2, Sub.rfl', ?_⟩
      have hb : bgn t i ≤ t.length := by
        unfold bgn
        split
        · rename_i e; have := some_lt e; omega
        · exact hi
      have hb' : bgn t i = if t[i]? = some 45 then i + 1 else i := rfl
      generalize hbb : bgn t i = b at Mn hb hb'
      have Mn' : M2 p = some (.ins 0 [.str t, .int (b : Nat), .obj q]) := Mn
      refine wp_cons ?_
      (try simp only [DL.wpS, DL.wpE, DL.wpA, wpT, wpTs, wpBo, DL.wpI, wpIf, wpTg, wpTgs, optI, List.getElem?_cons_zero, List.getElem?_cons_succ, List.set_cons_succ, List.set_cons_zero, vTru, cmpS, vIsK, vLt, vLe, vGt, vGe, vOrd, DL.isNon, addE, subE, biS, rdS, rdL_new, Bool.not_true, Bool.not_false, if_true, if_false, Bool.false_eq_true, Bool.true_eq_false, reduceIte, true_and, and_true, decide_true, decide_false, vGet_0, vGet_1, slcT, addT, Mn'])
      refine ⟨t, b, q, Mn, hl, hb, fun N U3 Np => ?_⟩
      (try simp only [DL.wpS, DL.wpE, DL.wpA, wpT, wpTs, wpBo, DL.wpI, wpIf, wpTg, wpTgs, optI, List.getElem?_cons_zero, List.getElem?_cons_succ, List.set_cons_succ, List.set_cons_zero, vTru, cmpS, vIsK, vLt, vLe, vGt, vGe, vOrd, DL.isNon, addE, subE, biS, rdS, rdL_new, Bool.not_true, Bool.not_false, if_true, if_false, Bool.false_eq_true, Bool.true_eq_false, reduceIte, true_and, and_true, decide_true, decide_false, vGet_0, vGet_1, slcT, addT])
      have U := U2.trans U3
      have Np' : N p = some (.ins 0 [.str t, .int ((b + fg t b : Nat) : Int), .obj q]) := Np
      have hfl := fg_le hb
      have hsl := sl_len (t := t) (i := b) (j := b + fg t b) hfl (by omega)
      refine wp_cons ?_
      (try simp only [DL.wpS, DL.wpE, DL.wpA, wpT, wpTs, wpBo, DL.wpI, wpIf, wpTg, wpTgs, optI, List.getElem?_cons_zero, List.getElem?_cons_succ, List.set_cons_succ, List.set_cons_zero, vTru, cmpS, vIsK, vLt, vLe, vGt, vGe, vOrd, DL.isNon, addE, subE, biS, rdS, rdL_new, Bool.not_true, Bool.not_false, if_true, if_false, Bool.false_eq_true, Bool.true_eq_false, reduceIte, true_and, and_true, decide_true, decide_false, vGet_0, vGet_1, slcT, addT, vEqK])
      by_cases hf0 : fg t b = 0
      · have e0 : sl t b (b + fg t b) = [] := List.length_eq_zero_iff.mp (by omega)
        simp only [e0, decide_true, if_true]
        refine wp_last ?_
        (try simp only [DL.wpS, DL.wpE, DL.wpA, wpT, wpTs, wpBo, DL.wpI, wpIf, wpTg, wpTgs, optI, List.getElem?_cons_zero, List.getElem?_cons_succ, List.set_cons_succ, List.set_cons_zero, vTru, cmpS, vIsK, vLt, vLe, vGt, vGe, vOrd, DL.isNon, addE, subE, biS, rdS, rdL_new, Bool.not_true, Bool.not_false, if_true, if_false, Bool.false_eq_true, Bool.true_eq_false, reduceIte, true_and, and_true, decide_true, decide_false, vGet_0, vGet_1, slcT, addT, Np'])
        refine ⟨t, b + fg t b, q, Np, N, Sub.rfl', ?_⟩
        have n48 : t[b]? ≠ some 48 := fun z => by unfold fg at hf0; rw [if_pos z] at hf0; cases hf0
        have e : intO t i = .bad b := by
          unfold intO
          rw [hbb, if_neg n48, ← fg_nd n48, hf0]; rfl
        rw [e] at hR
        rw [hf0, Nat.add_zero]
        exact hR N U
      · have hne : sl t b (b + fg t b) ≠ [] := fun z => by rw [z] at hsl; simp at hsl; omega
        simp only [hne, decide_false, Bool.false_eq_true, if_false]
        refine wp_nil ?_
        refine wp_last ?_
        (try simp only [DL.wpS, DL.wpE, DL.wpA, wpT, wpTs, wpBo, DL.wpI, wpIf, wpTg, wpTgs, optI, List.getElem?_cons_zero, List.getElem?_cons_succ, List.set_cons_succ, List.set_cons_zero, vTru, cmpS, vIsK, vLt, vLe, vGt, vGe, vOrd, DL.isNon, addE, subE, biS, rdS, rdL_new, Bool.not_true, Bool.not_false, if_true, if_false, Bool.false_eq_true, Bool.true_eq_false, reduceIte, true_and, and_true, decide_true, decide_false, vGet_0, vGet_1, slcT, addT, vAdd, binS])
        have h31 : (sl t b (b + fg t b)).length ≤ 31 := by
          rw [hsl]
          unfold fg
          have := nd30 (t := t) (i := b)
          split <;> omega
        have hdig : ∀ c ∈ sl t b (b + fg t b), 48 ≤ c ∧ c ≤ 57 := by
          by_cases z : t[b]? = some 48
          · have e1 : fg t b = 1 := by unfold fg; rw [if_pos z]
            rw [e1, sl_cons z (by omega)]
            intro c hc
            rcases List.mem_cons.mp hc with rfl | hc
            · decide
            · have : sl t (b + 1) (b + 1) = [] := by unfold sl; simp
              rw [this] at hc; cases hc
          · rw [fg_nd z]
            exact sl_dig (Nat.le_refl _)
        by_cases h45 : t[i]? = some 45
        · have hbi : b = i + 1 := by rw [hb', if_pos h45]
          have n48 : t[b]? ≠ some 48 := by rw [hbi]; exact h48 h45
          have ef := fg_nd n48
          simp only [h45, if_true, List.length_cons, List.length_nil, List.cons_append, List.nil_append, iv_dneg hdig hne h31]
          refine ⟨by unfold big; omega, by omega, ?_⟩
          have e : intO t i = .ok (.int (iv (45 :: sl t b (b + fg t b)))) (b + fg t b) := by
            unfold intO
            rw [hbb, if_neg n48, ← ef, if_neg hf0, sl_cons h45 (by omega), ← hbi]
          rw [e] at hR
          exact rt_of (hR N U Np) Sub.rfl'
        · have hbi : b = i := by rw [hb', if_neg h45]
          simp only [h45, if_false, List.nil_append, List.length_nil, iv_dig hdig hne h31]
          refine ⟨by unfold big; omega, by omega, ?_⟩
          have e : intO t i = .ok (.int (iv (sl t b (b + fg t b)))) (b + fg t b) := by
            unfold intO
            rw [hbb]
            by_cases z : t[b]? = some 48
            · have e1 : fg t b = 1 := by unfold fg; rw [if_pos z]
              rw [if_pos z, if_neg h45, e1, hbi]
            · rw [if_neg z, ← fg_nd z, if_neg hf0, hbi]
          rw [e] at hR
          exact rt_of (hR N U Np) Sub.rfl'
  · exact h.elim
end H54
set_option Elab.async false
set_option linter.all false
set_option maxRecDepth 100000
set_option maxHeartbeats 1000000
namespace H54
open PySem PySem.Spec PyProof.Rows L2 DL TX
theorem in_tup0 {neg : Bool} {M : Mem} : vInG neg (.str []) (.tup [.str [39], .str [126]]) M = fun Q => Q (.bl neg) M := by
  funext Q
  have e : ([D.str [39], D.str [126]].any fun y => eqF y (.str [])) = false := by simp [eqF]
  unfold vInG
  have d : isDct M (.tup [.str [39], .str [126]]) = false := rfl
  rw [d]
  simp only [Bool.false_eq_true, if_false, vInK]
  rw [e]
  cases neg <;> simp [isFlat]
def sp_string : SpD := fun ds M Q E => match ds with
  | [.obj p] => ∃ t i q, M p = some (rdr t i q) ∧ t.length ≤ 10000000 ∧ i ≤ t.length ∧ ∀ o, St t i [] o → Res o M p q t Q E
  | _ => False
theorem h_Reader_string (k1 k2 k3 : Nat) : ∀ ds M Q0 E0, sp_string ds M Q0 E0 → ds.length = 1 ∧ wpSs ⟨[C_Reader_sign k1 sp_sign, C_Reader_wrong k2 sp_wrong, C_is_sign k3 sp_is_sign], sub, fdOf cf⟩ (wF E0) none m_Reader_string (endsF Q0) (startD N_Reader_string.length ds) M := by
  intro ds M Q0 E0 h
  unfold sp_string at h
  split at h
  · rename_i p
    obtain ⟨t, i, q, hM, hl, hi, hR⟩ := h
    refine ⟨rfl, ?_⟩
    unfold m_Reader_string
    refine wp_cons ?_
    show DL.wpS _ _ _ _ _ [some (.obj p), none] M
    (try simp only [DL.wpS, DL.wpE, DL.wpA, wpT, wpTs, wpBo, DL.wpI, wpIf, wpTg, wpTgs, optI, List.getElem?_cons_zero, List.getElem?_cons_succ, List.set_cons_succ, List.set_cons_zero, vTru, cmpS, vIsK, vLt, vLe, vGt, vGe, vOrd, DL.isNon, addE, subE, biS, rdS, rdL_new, Bool.not_true, Bool.not_false, if_true, if_false, Bool.false_eq_true, Bool.true_eq_false, reduceIte, true_and, and_true, decide_true, decide_false, vGet_0, vGet_1, slcT, addT])
    intro f hf
    have hfp : f ≠ p := fun z => by rw [z, hM] at hf; cases hf
    have M0 : mup M f (.lst []) p = some (rdr t i q) := by rw [mup_ne (Ne.symm hfp)]; exact hM
    have U0 : UpX p M (mup M f (.lst [])) := UpX.rfl'.new hf
    refine wp_cut (fun ρ' M' => ∃ acc i', ρ' = [some (.obj p), some (.obj f)] ∧ UpX p M M' ∧ M' p = some (rdr t i' q) ∧ M' f = some (.lst (acc.map fun c : Nat => D.str [c])) ∧ t[i']? = some 39 ∧ acc.length ≤ i' ∧ (∀ o, St t i' acc o → St t i [] o)) ?_ ?_
    · unfold DL.wpS
      refine ⟨fun m ρ' M' => ∃ acc i', m = t.length + 2 - i' ∧ i' ≤ t.length ∧ ρ' = [some (.obj p), some (.obj f)] ∧ UpX p M M' ∧ M' p = some (.ins 0 [.str t, .int (i' : Nat), .obj q]) ∧ M' f = some (.lst (acc.map fun c : Nat => D.str [c])) ∧ acc.length ≤ i' ∧ (∀ o, St t i' acc o → St t i [] o),
        ⟨_, [], i, rfl, hi, rfl, U0, M0, mup_same, Nat.zero_le _, fun o z => z⟩, ?_⟩
      rintro m ρ' M' ⟨acc, i', rfl, hi', rfl, U, Mp, Mf, ha, hS⟩
      have Mp' : M' p = some (rdr t i' q) := Mp
      have bad : ∀ j, St t i' acc (.bad j) → ∀ N, UpX p M N → (wF E0) ⟨2, [.int (j : Nat)]⟩ [some (.obj p), some (.obj f)] N := fun j hj N U => ⟨N, Sub.rfl', hR _ (hS _ hj) N U⟩
      (try simp only [DL.wpS, DL.wpE, DL.wpA, wpT, wpTs, wpBo, DL.wpI, wpIf, wpTg, wpTgs, optI, List.getElem?_cons_zero, List.getElem?_cons_succ, List.set_cons_succ, List.set_cons_zero, vTru, cmpS, vIsK, vLt, vLe, vGt, vGe, vOrd, DL.isNon, addE, subE, biS, rdS, rdL_new, Bool.not_true, Bool.not_false, if_true, if_false, Bool.false_eq_true, Bool.true_eq_false, reduceIte, true_and, and_true, decide_true, decide_false, vGet_0, vGet_1, slcT, addT, Mp])
      refine ⟨t, i', q, Mp', hl, ?_⟩
      (try simp only [DL.wpS, DL.wpE, DL.wpA, wpT, wpTs, wpBo, DL.wpI, wpIf, wpTg, wpTgs, optI, List.getElem?_cons_zero, List.getElem?_cons_succ, List.set_cons_succ, List.set_cons_zero, vTru, cmpS, vIsK, vLt, vLe, vGt, vGe, vOrd, DL.isNon, addE, subE, biS, rdS, rdL_new, Bool.not_true, Bool.not_false, if_true, if_false, Bool.false_eq_true, Bool.true_eq_false, reduceIte, true_and, and_true, decide_true, decide_false, vGet_0, vGet_1, slcT, addT, vEqK, eq_sgn])
      by_cases h39 : t[i']? = some 39
      · simp only [h39, decide_true, Bool.not_true, Bool.false_eq_true, if_false, if_true]
        exact ⟨acc, i', U, Mp', Mf, h39, ha, hS⟩
      · simp only [h39, decide_false, Bool.not_false, if_true]
        refine wp_cut (fun ρ'' M2 => ∃ i2, ρ'' = [some (.obj p), some (.obj f)] ∧ UpX p M M2 ∧ M2 p = some (.ins 0 [.str t, .int (i2 : Nat), .obj q]) ∧ M2 f = some (.lst (acc.map fun c : Nat => D.str [c])) ∧
            ((i2 = i' ∧ t[i']? ≠ some 126) ∨ (i2 = i' + 1 ∧ t[i']? = some 126 ∧ ∃ e, t[i2]? = some e ∧ (e = 39 ∨ e = 126)))) ?_ ?_
        · (try simp only [DL.wpS, DL.wpE, DL.wpA, wpT, wpTs, wpBo, DL.wpI, wpIf, wpTg, wpTgs, optI, List.getElem?_cons_zero, List.getElem?_cons_succ, List.set_cons_succ, List.set_cons_zero, vTru, cmpS, vIsK, vLt, vLe, vGt, vGe, vOrd, DL.isNon, addE, subE, biS, rdS, rdL_new, Bool.not_true, Bool.not_false, if_true, if_false, Bool.false_eq_true, Bool.true_eq_false, reduceIte, true_and, and_true, decide_true, decide_false, vGet_0, vGet_1, slcT, addT, Mp])
          refine ⟨t, i', q, Mp', hl, ?_⟩
          (try simp only [DL.wpS, DL.wpE, DL.wpA, wpT, wpTs, wpBo, DL.wpI, wpIf, wpTg, wpTgs, optI, List.getElem?_cons_zero, List.getElem?_cons_succ, List.set_cons_succ, List.set_cons_zero, vTru, cmpS, vIsK, vLt, vLe, vGt, vGe, vOrd, DL.isNon, addE, subE, biS, rdS, rdL_new, Bool.not_true, Bool.not_false, if_true, if_false, Bool.false_eq_true, Bool.true_eq_false, reduceIte, true_and, and_true, decide_true, decide_false, vGet_0, vGet_1, slcT, addT, vEqK, eq_sgn])
          by_cases h126 : t[i']? = some 126
          · simp only [h126, decide_true, if_true]
            refine wp_cons ?_
            (try simp only [DL.wpS, DL.wpE, DL.wpA, wpT, wpTs, wpBo, DL.wpI, wpIf, wpTg, wpTgs, optI, List.getElem?_cons_zero, List.getElem?_cons_succ, List.set_cons_succ, List.set_cons_zero, vTru, cmpS, vIsK, vLt, vLe, vGt, vGe, vOrd, DL.isNon, addE, subE, biS, rdS, rdL_new, Bool.not_true, Bool.not_false, if_true, if_false, Bool.false_eq_true, Bool.true_eq_false, reduceIte, true_and, and_true, decide_true, decide_false, vGet_0, vGet_1, slcT, addT, Mp, augS, List.length_cons, List.length_nil])
            refine ⟨by decide, ?_⟩
            have Mn : mup M' p (.ins 0 [.str t, .int ((i' : Int) + 1), .obj q]) p = some (.ins 0 [.str t, .int ((i' : Int) + 1), .obj q]) := mup_same
            have Nf : mup M' p (.ins 0 [.str t, .int ((i' : Int) + 1), .obj q]) f = some (.lst (acc.map fun c : Nat => D.str [c])) := by rw [mup_ne hfp]; exact Mf
            have U2 : UpX p M (mup M' p (.ins 0 [.str t, .int ((i' : Int) + 1), .obj q])) := U.own
            generalize mup M' p (.ins 0 [.str t, .int ((i' : Int) + 1), .obj q]) = M2 at Mn U2 Nf
            have Mn' : M2 p = some (rdr t (i' + 1) q) := by rw [Mn]; simp [rdr]
            refine wp_last ?_
            (try simp only [DL.wpS, DL.wpE, DL.wpA, wpT, wpTs, wpBo, DL.wpI, wpIf, wpTg, wpTgs, optI, List.getElem?_cons_zero, List.getElem?_cons_succ, List.set_cons_succ, List.set_cons_zero, vTru, cmpS, vIsK, vLt, vLe, vGt, vGe, vOrd, DL.isNon, addE, subE, biS, rdS, rdL_new, Bool.not_true, Bool.not_false, if_true, if_false, Bool.false_eq_true, Bool.true_eq_false, reduceIte, true_and, and_true, decide_true, decide_false, vGet_0, vGet_1, slcT, addT, Mn])
            refine ⟨t, i' + 1, q, Mn', hl, ?_⟩
            cases he : t[i' + 1]? with
            | none =>
              (try simp only [DL.wpS, DL.wpE, DL.wpA, wpT, wpTs, wpBo, DL.wpI, wpIf, wpTg, wpTgs, optI, List.getElem?_cons_zero, List.getElem?_cons_succ, List.set_cons_succ, List.set_cons_zero, vTru, cmpS, vIsK, vLt, vLe, vGt, vGe, vOrd, DL.isNon, addE, subE, biS, rdS, rdL_new, Bool.not_true, Bool.not_false, if_true, if_false, Bool.false_eq_true, Bool.true_eq_false, reduceIte, true_and, and_true, decide_true, decide_false, vGet_0, vGet_1, slcT, addT, sgn_none he, in_tup0])
              refine wp_last ?_
              (try simp only [DL.wpS, DL.wpE, DL.wpA, wpT, wpTs, wpBo, DL.wpI, wpIf, wpTg, wpTgs, optI, List.getElem?_cons_zero, List.getElem?_cons_succ, List.set_cons_succ, List.set_cons_zero, vTru, cmpS, vIsK, vLt, vLe, vGt, vGe, vOrd, DL.isNon, addE, subE, biS, rdS, rdL_new, Bool.not_true, Bool.not_false, if_true, if_false, Bool.false_eq_true, Bool.true_eq_false, reduceIte, true_and, and_true, decide_true, decide_false, vGet_0, vGet_1, slcT, addT, Mn])
              exact ⟨t, i' + 1, q, Mn', bad _ (.escBad h126 fun e z => by rw [he] at z; cases z) _ U2⟩
            | some e =>
              (try simp only [DL.wpS, DL.wpE, DL.wpA, wpT, wpTs, wpBo, DL.wpI, wpIf, wpTg, wpTgs, optI, List.getElem?_cons_zero, List.getElem?_cons_succ, List.set_cons_succ, List.set_cons_zero, vTru, cmpS, vIsK, vLt, vLe, vGt, vGe, vOrd, DL.isNon, addE, subE, biS, rdS, rdL_new, Bool.not_true, Bool.not_false, if_true, if_false, Bool.false_eq_true, Bool.true_eq_false, reduceIte, true_and, and_true, decide_true, decide_false, vGet_0, vGet_1, slcT, addT, sgn_some he, in_tup])
              by_cases hee : e = 39 ∨ e = 126
              · simp only [hee, decide_true, Bool.not_true, Bool.false_eq_true, if_false, if_true]
                refine wp_nil ⟨i' + 1, rfl, U2, ?_, Nf, .inr ⟨rfl, e, he, hee⟩⟩
                rw [Mn]; simp
              · simp only [hee, decide_false, Bool.not_false, if_true]
                refine wp_last ?_
                (try simp only [DL.wpS, DL.wpE, DL.wpA, wpT, wpTs, wpBo, DL.wpI, wpIf, wpTg, wpTgs, optI, List.getElem?_cons_zero, List.getElem?_cons_succ, List.set_cons_succ, List.set_cons_zero, vTru, cmpS, vIsK, vLt, vLe, vGt, vGe, vOrd, DL.isNon, addE, subE, biS, rdS, rdL_new, Bool.not_true, Bool.not_false, if_true, if_false, Bool.false_eq_true, Bool.true_eq_false, reduceIte, true_and, and_true, decide_true, decide_false, vGet_0, vGet_1, slcT, addT, Mn])
                exact ⟨t, i' + 1, q, Mn', bad _ (.escBad h126 fun e' z => by rw [he] at z; cases z; omega) _ U2⟩
          · simp only [h126, decide_false, Bool.false_eq_true, if_false]
            exact wp_nil ⟨i', rfl, U, Mp, Mf, .inl ⟨rfl, h126⟩⟩
        · rintro ρ'' M2 ⟨i2, rfl, U2, M2p, M2f, hcase⟩
          refine ⟨M2, Sub.rfl', ?_⟩
          have M2p' : M2 p = some (rdr t i2 q) := M2p
          refine wp_cut (fun ρ3 M3 => ρ3 = [some (.obj p), some (.obj f)] ∧ M3 = M2 ∧ ∃ c, t[i2]? = some c ∧ 32 ≤ c ∧ c ≤ 126) ?_ ?_
          · (try simp only [DL.wpS, DL.wpE, DL.wpA, wpT, wpTs, wpBo, DL.wpI, wpIf, wpTg, wpTgs, optI, List.getElem?_cons_zero, List.getElem?_cons_succ, List.set_cons_succ, List.set_cons_zero, vTru, cmpS, vIsK, vLt, vLe, vGt, vGe, vOrd, DL.isNon, addE, subE, biS, rdS, rdL_new, Bool.not_true, Bool.not_false, if_true, if_false, Bool.false_eq_true, Bool.true_eq_false, reduceIte, true_and, and_true, decide_true, decide_false, vGet_0, vGet_1, slcT, addT, M2p])
            refine ⟨t, i2, q, M2p', hl, ?_⟩
            cases hc : t[i2]? with
            | none =>
              (try simp only [DL.wpS, DL.wpE, DL.wpA, wpT, wpTs, wpBo, DL.wpI, wpIf, wpTg, wpTgs, optI, List.getElem?_cons_zero, List.getElem?_cons_succ, List.set_cons_succ, List.set_cons_zero, vTru, cmpS, vIsK, vLt, vLe, vGt, vGe, vOrd, DL.isNon, addE, subE, biS, rdS, rdL_new, Bool.not_true, Bool.not_false, if_true, if_false, Bool.false_eq_true, Bool.true_eq_false, reduceIte, true_and, and_true, decide_true, decide_false, vGet_0, vGet_1, slcT, addT, sgn_none hc, vEqK])
              refine wp_last ?_
              (try simp only [DL.wpS, DL.wpE, DL.wpA, wpT, wpTs, wpBo, DL.wpI, wpIf, wpTg, wpTgs, optI, List.getElem?_cons_zero, List.getElem?_cons_succ, List.set_cons_succ, List.set_cons_zero, vTru, cmpS, vIsK, vLt, vLe, vGt, vGe, vOrd, DL.isNon, addE, subE, biS, rdS, rdL_new, Bool.not_true, Bool.not_false, if_true, if_false, Bool.false_eq_true, Bool.true_eq_false, reduceIte, true_and, and_true, decide_true, decide_false, vGet_0, vGet_1, slcT, addT, M2p])
              refine ⟨t, i2, q, M2p', ?_⟩
              rcases hcase with ⟨rfl, _⟩ | ⟨_, _, e, z, _⟩
              · exact bad _ (.eof hc) _ U2
              · rw [hc] at z; cases z
            | some c =>
              (try simp only [DL.wpS, DL.wpE, DL.wpA, wpT, wpTs, wpBo, DL.wpI, wpIf, wpTg, wpTgs, optI, List.getElem?_cons_zero, List.getElem?_cons_succ, List.set_cons_succ, List.set_cons_zero, vTru, cmpS, vIsK, vLt, vLe, vGt, vGe, vOrd, DL.isNon, addE, subE, biS, rdS, rdL_new, Bool.not_true, Bool.not_false, if_true, if_false, Bool.false_eq_true, Bool.true_eq_false, reduceIte, true_and, and_true, decide_true, decide_false, vGet_0, vGet_1, slcT, addT, sgn_some hc, vEqK])
              simp only [show decide (([c] : List Nat) = []) = false by simp, Bool.false_eq_true, if_false]
              (try simp only [DL.wpS, DL.wpE, DL.wpA, wpT, wpTs, wpBo, DL.wpI, wpIf, wpTg, wpTgs, optI, List.getElem?_cons_zero, List.getElem?_cons_succ, List.set_cons_succ, List.set_cons_zero, vTru, cmpS, vIsK, vLt, vLe, vGt, vGe, vOrd, DL.isNon, addE, subE, biS, rdS, rdL_new, Bool.not_true, Bool.not_false, if_true, if_false, Bool.false_eq_true, Bool.true_eq_false, reduceIte, true_and, and_true, decide_true, decide_false, vGet_0, vGet_1, slcT, addT, M2p])
              refine ⟨t, i2, q, M2p', hl, ?_⟩
              (try simp only [DL.wpS, DL.wpE, DL.wpA, wpT, wpTs, wpBo, DL.wpI, wpIf, wpTg, wpTgs, optI, List.getElem?_cons_zero, List.getElem?_cons_succ, List.set_cons_succ, List.set_cons_zero, vTru, cmpS, vIsK, vLt, vLe, vGt, vGe, vOrd, DL.isNon, addE, subE, biS, rdS, rdL_new, Bool.not_true, Bool.not_false, if_true, if_false, Bool.false_eq_true, Bool.true_eq_false, reduceIte, true_and, and_true, decide_true, decide_false, vGet_0, vGet_1, slcT, addT, sgn_some hc, sp_is_sign])
              cases hs : sg c with
              | true =>
                simp only [Bool.not_true, Bool.false_eq_true, if_false]
                simp [sg] at hs
                exact wp_nil ⟨rfl, rfl, c, rfl, hs.1, hs.2⟩
              | false =>
                simp only [Bool.not_false, if_true]
                have hs' : ¬ (32 ≤ c ∧ c ≤ 126) := fun z => by simp [sg, z] at hs
                refine wp_last ?_
                (try simp only [DL.wpS, DL.wpE, DL.wpA, wpT, wpTs, wpBo, DL.wpI, wpIf, wpTg, wpTgs, optI, List.getElem?_cons_zero, List.getElem?_cons_succ, List.set_cons_succ, List.set_cons_zero, vTru, cmpS, vIsK, vLt, vLe, vGt, vGe, vOrd, DL.isNon, addE, subE, biS, rdS, rdL_new, Bool.not_true, Bool.not_false, if_true, if_false, Bool.false_eq_true, Bool.true_eq_false, reduceIte, true_and, and_true, decide_true, decide_false, vGet_0, vGet_1, slcT, addT, M2p])
                refine ⟨t, i2, q, M2p', ?_⟩
                rcases hcase with ⟨rfl, _⟩ | ⟨_, _, e, z, he⟩
                · exact bad _ (.odd hc hs') _ U2
                · rw [hc] at z; cases z; exfalso; omega
          · rintro ρ3 M3 ⟨rfl, rfl, c, hc, c1, c2⟩
            refine ⟨M3, Sub.rfl', ?_⟩
            refine wp_cons ?_
            have hlt := some_lt hc
            (try simp only [DL.wpS, DL.wpE, DL.wpA, wpT, wpTs, wpBo, DL.wpI, wpIf, wpTg, wpTgs, optI, List.getElem?_cons_zero, List.getElem?_cons_succ, List.set_cons_succ, List.set_cons_zero, vTru, cmpS, vIsK, vLt, vLe, vGt, vGe, vOrd, DL.isNon, addE, subE, biS, rdS, rdL_new, Bool.not_true, Bool.not_false, if_true, if_false, Bool.false_eq_true, Bool.true_eq_false, reduceIte, true_and, and_true, decide_true, decide_false, vGet_0, vGet_1, slcT, addT, recv, BM.ty, rdL_of M2f, M2p])
            refine ⟨by simp, t, i2, q, M2p', hl, ?_⟩
            have hacc : acc.length < big := by
              unfold big
              rcases hcase with ⟨rfl, _⟩ | ⟨rfl, _, _⟩ <;> omega
            (try simp only [DL.wpS, DL.wpE, DL.wpA, wpT, wpTs, wpBo, DL.wpI, wpIf, wpTg, wpTgs, optI, List.getElem?_cons_zero, List.getElem?_cons_succ, List.set_cons_succ, List.set_cons_zero, vTru, cmpS, vIsK, vLt, vLe, vGt, vGe, vOrd, DL.isNon, addE, subE, biS, rdS, rdL_new, Bool.not_true, Bool.not_false, if_true, if_false, Bool.false_eq_true, Bool.true_eq_false, reduceIte, true_and, and_true, decide_true, decide_false, vGet_0, vGet_1, slcT, addT, bmS, M2f, List.length_map])
            refine ⟨hacc, ?_⟩
            have M4p : mup M3 f (.lst ((acc.map fun c : Nat => D.str [c]) ++ [.str (sgn t i2)])) p = some (.ins 0 [.str t, .int (i2 : Nat), .obj q]) := by rw [mup_ne (Ne.symm hfp)]; exact M2p
            have M4f : mup M3 f (.lst ((acc.map fun c : Nat => D.str [c]) ++ [.str (sgn t i2)])) f = some (.lst ((acc ++ [c]).map fun c : Nat => D.str [c])) := by rw [mup_same, sgn_some hc]; simp
            have U4 : UpX p M (mup M3 f (.lst ((acc.map fun c : Nat => D.str [c]) ++ [.str (sgn t i2)]))) := U2.put hf
            generalize mup M3 f (.lst ((acc.map fun c : Nat => D.str [c]) ++ [.str (sgn t i2)])) = M4 at M4p M4f U4
            refine wp_last ?_
            (try simp only [DL.wpS, DL.wpE, DL.wpA, wpT, wpTs, wpBo, DL.wpI, wpIf, wpTg, wpTgs, optI, List.getElem?_cons_zero, List.getElem?_cons_succ, List.set_cons_succ, List.set_cons_zero, vTru, cmpS, vIsK, vLt, vLe, vGt, vGe, vOrd, DL.isNon, addE, subE, biS, rdS, rdL_new, Bool.not_true, Bool.not_false, if_true, if_false, Bool.false_eq_true, Bool.true_eq_false, reduceIte, true_and, and_true, decide_true, decide_false, vGet_0, vGet_1, slcT, addT, M4p, augS, List.length_cons, List.length_nil])
            refine ⟨by decide, ?_⟩
            refine ⟨t.length + 2 - (i2 + 1), _, ?_, Sub.rfl', acc ++ [c], i2 + 1, rfl, by omega, U4.own, ?_, ?_, ?_, ?_⟩
            · rcases hcase with ⟨rfl, _⟩ | ⟨rfl, _, _⟩ <;> omega
            · rw [mup_same]; simp
            · rw [mup_ne hfp]; exact M4f
            · rw [List.length_append, List.length_singleton]
              rcases hcase with ⟨rfl, _⟩ | ⟨rfl, _, _⟩ <;> omega
            · intro o ho
              refine hS o ?_
              rcases hcase with ⟨rfl, n126⟩ | ⟨rfl, e126, e, he, hee⟩
              · exact .step hc c1 (by
                  rcases Nat.lt_or_eq_of_le c2 with z | z
                  · exact z
                  · subst z; exact absurd hc n126) (fun z => by subst z; exact h39 hc) ho
              · rw [hc] at he
                cases he
                exact .esc e126 hc hee ho
    · rintro ρ' M' ⟨acc, i', rfl, U, Mp, Mf, h39, ha, hS⟩
      refine ⟨M', Sub.rfl', ?_⟩
      have Mp' : M' p = some (.ins 0 [.str t, .int (i' : Nat), .obj q]) := Mp
      have hlt := some_lt h39
      refine wp_cons ?_
      (try simp only [DL.wpS, DL.wpE, DL.wpA, wpT, wpTs, wpBo, DL.wpI, wpIf, wpTg, wpTgs, optI, List.getElem?_cons_zero, List.getElem?_cons_succ, List.set_cons_succ, List.set_cons_zero, vTru, cmpS, vIsK, vLt, vLe, vGt, vGe, vOrd, DL.isNon, addE, subE, biS, rdS, rdL_new, Bool.not_true, Bool.not_false, if_true, if_false, Bool.false_eq_true, Bool.true_eq_false, reduceIte, true_and, and_true, decide_true, decide_false, vGet_0, vGet_1, slcT, addT, Mp', augS, List.length_cons, List.length_nil])
      refine ⟨by decide, ?_⟩
      refine wp_last ?_
      have Mn : mup M' p (.ins 0 [.str t, .int ((i' : Int) + 1), .obj q]) f = some (.lst (acc.map fun c : Nat => D.str [c])) := by rw [mup_ne hfp]; exact Mf
      (try simp only [DL.wpS, DL.wpE, DL.wpA, wpT, wpTs, wpBo, DL.wpI, wpIf, wpTg, wpTgs, optI, List.getElem?_cons_zero, List.getElem?_cons_succ, List.set_cons_succ, List.set_cons_zero, vTru, cmpS, vIsK, vLt, vLe, vGt, vGe, vOrd, DL.isNon, addE, subE, biS, rdS, rdL_new, Bool.not_true, Bool.not_false, if_true, if_false, Bool.false_eq_true, Bool.true_eq_false, reduceIte, true_and, and_true, decide_true, decide_false, vGet_0, vGet_1, slcT, addT, recv, BM.ty, bmS, rdL_of Mn])
      have e : (acc.map fun c : Nat => D.str [c]).mapM asStr = some (acc.map fun c => [c]) := mapM_asStr (fun c => [c]) acc
      have e2 : ∀ acc : List Nat, (acc.map fun c => [c]).flatten = acc := fun acc => by induction acc <;> simp_all
      have e3 : ∀ acc : List Nat, ((acc.map fun c => [c]).map (·.length)).sum = acc.length := fun acc => by induction acc <;> simp_all <;> omega
      simp only [e, joinC_nil, e2, e3]
      refine ⟨by simp; omega, ?_⟩
      refine rt_of (hR _ (hS _ (.close h39)) _ U.own ?_) Sub.rfl'
      rw [mup_same]; simp [rdr]
  · exact h.elim
def sp_plain : SpD := fun ds M Q E => match ds with
  | [.obj p] => ∃ t i q d, M p = some (rdr t i q) ∧ t.length ≤ 10000000 ∧ i ≤ t.length ∧ t[i]? ≠ some 40 ∧ ∀ o, Rd t .fw d i o → Res o M p q t Q E
  | _ => False
theorem Res.up {o : Out} {M N : Mem} {p q : Addr} {t : List Nat} {Q : DK} {E : Ex → Mem → Prop} (h : Res o M p q t Q E) (u : UpX p M N) : Res o N p q t Q E := by
  cases o with
  | ok v j => exact fun N' U e => h N' (u.trans U) e
  | bad j => exact fun N' U => h N' (u.trans U)
theorem Res.imp {o : Out} {M : Mem} {p q : Addr} {t : List Nat} {Q Q' : DK} {E E' : Ex → Mem → Prop} (h : Res o M p q t Q E) (hq : ∀ v N, Q v N → Q' v N) (he : ∀ x N, E x N → E' x N) : Res o M p q t Q' E' := by
  cases o with
  | ok v j => exact fun N' U e => hq _ _ (h N' U e)
  | bad j => exact fun N' U => he _ _ (h N' U)
theorem h_Reader_plain (k1 k2 k3 : Nat) : ∀ ds M Q0 E0, sp_plain ds M Q0 E0 → ds.length = 1 ∧ wpSs ⟨[C_Reader_sign k1 sp_sign, C_Reader_string k2 sp_string, C_Reader_integer k3 sp_integer], sub, fdOf cf⟩ (wF E0) none m_Reader_plain (endsF Q0) (startD N_Reader_plain.length ds) M := by
  intro ds M Q0 E0 h
  unfold sp_plain at h
  split at h
  · rename_i p
    obtain ⟨t, i, q, d, hM, hl, hi, h40, hR⟩ := h
    have hM' : M p = some (.ins 0 [.str t, .int (i : Nat), .obj q]) := hM
    have hR' : ∀ o, Rd t .fw d i o → Res o M p q t (endsF Q0).rt (fun x N => (wF E0) x [some (.obj p)] N) := fun o ho => (hR o ho).imp (fun v N z => rt_of z Sub.rfl') fun x N z => ⟨N, Sub.rfl', z⟩
    refine ⟨rfl, ?_⟩
    unfold m_Reader_plain
    refine wp_cons ?_
    show DL.wpS _ _ _ _ _ [some (.obj p)] M
    (try simp only [DL.wpS, DL.wpE, DL.wpA, wpT, wpTs, wpBo, DL.wpI, wpIf, wpTg, wpTgs, optI, List.getElem?_cons_zero, List.getElem?_cons_succ, List.set_cons_succ, List.set_cons_zero, vTru, cmpS, vIsK, vLt, vLe, vGt, vGe, vOrd, DL.isNon, addE, subE, biS, rdS, rdL_new, Bool.not_true, Bool.not_false, if_true, if_false, Bool.false_eq_true, Bool.true_eq_false, reduceIte, true_and, and_true, decide_true, decide_false, vGet_0, vGet_1, slcT, addT, hM'])
    refine ⟨t, i, q, hM, hl, ?_⟩
    (try simp only [DL.wpS, DL.wpE, DL.wpA, wpT, wpTs, wpBo, DL.wpI, wpIf, wpTg, wpTgs, optI, List.getElem?_cons_zero, List.getElem?_cons_succ, List.set_cons_succ, List.set_cons_zero, vTru, cmpS, vIsK, vLt, vLe, vGt, vGe, vOrd, DL.isNon, addE, subE, biS, rdS, rdL_new, Bool.not_true, Bool.not_false, if_true, if_false, Bool.false_eq_true, Bool.true_eq_false, reduceIte, true_and, and_true, decide_true, decide_false, vGet_0, vGet_1, slcT, addT, vEqK, eq_sgn])
    have U2 : UpX p M (mup M p (.ins 0 [.str t, .int ((i : Int) + 1), .obj q])) := UpX.rfl'.own
    have Mn : mup M p (.ins 0 [.str t, .int ((i : Int) + 1), .obj q]) p = some (.ins 0 [.str t, .int ((i : Int) + 1), .obj q]) := mup_same
    by_cases h46 : t[i]? = some 46
    · simp only [h46, decide_true, if_true]
      refine wp_cons ?_
      (try simp only [DL.wpS, DL.wpE, DL.wpA, wpT, wpTs, wpBo, DL.wpI, wpIf, wpTg, wpTgs, optI, List.getElem?_cons_zero, List.getElem?_cons_succ, List.set_cons_succ, List.set_cons_zero, vTru, cmpS, vIsK, vLt, vLe, vGt, vGe, vOrd, DL.isNon, addE, subE, biS, rdS, rdL_new, Bool.not_true, Bool.not_false, if_true, if_false, Bool.false_eq_true, Bool.true_eq_false, reduceIte, true_and, and_true, decide_true, decide_false, vGet_0, vGet_1, slcT, addT, hM', augS, List.length_cons, List.length_nil])
      refine ⟨by decide, ?_⟩
      refine wp_last ?_
      (try simp only [DL.wpS, DL.wpE, DL.wpA, wpT, wpTs, wpBo, DL.wpI, wpIf, wpTg, wpTgs, optI, List.getElem?_cons_zero, List.getElem?_cons_succ, List.set_cons_succ, List.set_cons_zero, vTru, cmpS, vIsK, vLt, vLe, vGt, vGe, vOrd, DL.isNon, addE, subE, biS, rdS, rdL_new, Bool.not_true, Bool.not_false, if_true, if_false, Bool.false_eq_true, Bool.true_eq_false, reduceIte, true_and, and_true, decide_true, decide_false, vGet_0, vGet_1, slcT, addT])
      exact hR' _ (.dot h46) _ U2 (by rw [Mn]; simp [rdr])
    · simp only [h46, decide_false, Bool.false_eq_true, if_false]
      refine wp_nil ?_
      refine wp_cons ?_
      (try simp only [DL.wpS, DL.wpE, DL.wpA, wpT, wpTs, wpBo, DL.wpI, wpIf, wpTg, wpTgs, optI, List.getElem?_cons_zero, List.getElem?_cons_succ, List.set_cons_succ, List.set_cons_zero, vTru, cmpS, vIsK, vLt, vLe, vGt, vGe, vOrd, DL.isNon, addE, subE, biS, rdS, rdL_new, Bool.not_true, Bool.not_false, if_true, if_false, Bool.false_eq_true, Bool.true_eq_false, reduceIte, true_and, and_true, decide_true, decide_false, vGet_0, vGet_1, slcT, addT, hM'])
      refine ⟨t, i, q, hM, hl, ?_⟩
      (try simp only [DL.wpS, DL.wpE, DL.wpA, wpT, wpTs, wpBo, DL.wpI, wpIf, wpTg, wpTgs, optI, List.getElem?_cons_zero, List.getElem?_cons_succ, List.set_cons_succ, List.set_cons_zero, vTru, cmpS, vIsK, vLt, vLe, vGt, vGe, vOrd, DL.isNon, addE, subE, biS, rdS, rdL_new, Bool.not_true, Bool.not_false, if_true, if_false, Bool.false_eq_true, Bool.true_eq_false, reduceIte, true_and, and_true, decide_true, decide_false, vGet_0, vGet_1, slcT, addT, vEqK, eq_sgn])
      by_cases h39 : t[i]? = some 39
      · simp only [h39, decide_true, if_true]
        refine wp_cons ?_
        (try simp only [DL.wpS, DL.wpE, DL.wpA, wpT, wpTs, wpBo, DL.wpI, wpIf, wpTg, wpTgs, optI, List.getElem?_cons_zero, List.getElem?_cons_succ, List.set_cons_succ, List.set_cons_zero, vTru, cmpS, vIsK, vLt, vLe, vGt, vGe, vOrd, DL.isNon, addE, subE, biS, rdS, rdL_new, Bool.not_true, Bool.not_false, if_true, if_false, Bool.false_eq_true, Bool.true_eq_false, reduceIte, true_and, and_true, decide_true, decide_false, vGet_0, vGet_1, slcT, addT, hM', augS, List.length_cons, List.length_nil])
        refine ⟨by decide, ?_⟩
        have hlt := some_lt h39
        generalize mup M p (.ins 0 [.str t, .int ((i : Int) + 1), .obj q]) = M2 at Mn U2
        refine wp_last ?_
        (try simp only [DL.wpS, DL.wpE, DL.wpA, wpT, wpTs, wpBo, DL.wpI, wpIf, wpTg, wpTgs, optI, List.getElem?_cons_zero, List.getElem?_cons_succ, List.set_cons_succ, List.set_cons_zero, vTru, cmpS, vIsK, vLt, vLe, vGt, vGe, vOrd, DL.isNon, addE, subE, biS, rdS, rdL_new, Bool.not_true, Bool.not_false, if_true, if_false, Bool.false_eq_true, Bool.true_eq_false, reduceIte, true_and, and_true, decide_true, decide_false, vGet_0, vGet_1, slcT, addT, Mn])
        exact ⟨t, i + 1, q, by rw [Mn]; simp [rdr], hl, by omega, fun o ho => (hR' o (.str h39 ho)).up U2⟩
      · simp only [h39, decide_false, Bool.false_eq_true, if_false]
        refine wp_nil ?_
        refine wp_last ?_
        (try simp only [DL.wpS, DL.wpE, DL.wpA, wpT, wpTs, wpBo, DL.wpI, wpIf, wpTg, wpTgs, optI, List.getElem?_cons_zero, List.getElem?_cons_succ, List.set_cons_succ, List.set_cons_zero, vTru, cmpS, vIsK, vLt, vLe, vGt, vGe, vOrd, DL.isNon, addE, subE, biS, rdS, rdL_new, Bool.not_true, Bool.not_false, if_true, if_false, Bool.false_eq_true, Bool.true_eq_false, reduceIte, true_and, and_true, decide_true, decide_false, vGet_0, vGet_1, slcT, addT, hM'])
        refine ⟨t, i, q, hM, hl, hi, ?_⟩
        cases hc : t[i]? with
        | none =>
          have e : intO t i = .bad i := by
            have hb : bgn t i = i := by unfold bgn; rw [if_neg (by rw [hc]; intro z; cases z)]
            have hn : nd t i = 0 := by
              unfold nd
              have : t.drop i = [] := List.drop_eq_nil_of_le (List.getElem?_eq_none_iff.mp hc)
              rw [this]; rfl
            unfold intO
            rw [hb, if_neg (by rw [hc]; intro z; cases z), if_pos hn]
          rw [e]
          exact hR' _ (.eof hc)
        | some c =>
          exact hR' _ (.int hc (fun z => h46 (by rw [hc, z])) (fun z => h39 (by rw [hc, z])) (fun z => h40 (by rw [hc, z])))
  · exact h.elim
end H54
set_option Elab.async false
set_option linter.all false
set_option maxRecDepth 100000
set_option maxHeartbeats 1000000
namespace H54
open PySem PySem.Spec PyProof.Rows L2 DL TX
/-! ### places -/
theorem st_le {t : List Nat} {i : Nat} {acc : List Nat} {o : Out} (h : St t i acc o) : ∀ v j, o = .ok v j → i < j ∧ j ≤ t.length := by
  induction h with
  | eof e => intro v j z; cases z
  | close e => intro v j z; cases z; have := some_lt e; omega
  | odd e n => intro v j z; cases z
  | esc e e1 he hs ih => intro v j z; have := ih v j z; omega
  | escBad e hn => intro v j z; cases z
  | step e a b n hs ih => intro v j z; have := ih v j z; omega
theorem intO_le {t : List Nat} {i : Nat} (h : i < t.length) : ∀ v j, intO t i = .ok v j → i < j ∧ j ≤ t.length := by
  intro v j e
  unfold intO at e
  have hb : i ≤ bgn t i ∧ bgn t i ≤ t.length := by
    unfold bgn
    split <;> omega
  split at e
  · split at e
    · cases e
    · cases e; omega
  · split at e
    · cases e
    · rename_i hn
      cases e
      have := nd_le hb.2
      omega
theorem rd_le {t : List Nat} {k : Kd} {d i : Nat} {o : Out} (h : Rd t k d i o) : ∀ v j, o = .ok v j → i < j ∧ j ≤ t.length := by
  induction h with
  | eof e => intro v j z; cases z
  | dot e => intro v j z; cases z; have := some_lt e; omega
  | str e hs => intro v j z; have := st_le hs v j z; omega
  | deep e n => intro v j z; cases z
  | tup0 e hd e1 => intro v j z; cases z; have := some_lt e1; omega
  | tup e hd e1 _ ih => intro v j z; have := ih v j z; omega
  | int e _ _ _ => intro v j z; exact intO_le (some_lt e) v j z
  | iBad _ _ => intro v j z; cases z
  | iEnd _ e ih => intro v j z; cases z; have := ih _ _ rfl; have := some_lt e; omega
  | iStop _ _ _ _ => intro v j z; cases z
  | iMore _ e _ ih ih2 => intro v j z; have := ih _ _ rfl; have := ih2 v j z; omega
/-! ### the stack in memory -/
abbrev Stk := List (Addr × List D)
def accs (S : Stk) : List (List D) := S.map (·.2)
structure StkAt (M : Mem) (p q : Addr) (S : Stk) : Prop where
  at_ : M q = some (.lst ((S.map fun x => D.obj x.1).reverse))
  acc : ∀ x ∈ S, M x.1 = some (.lst x.2)
  nd : (S.map (·.1)).Nodup
  nq : ∀ x ∈ S, x.1 ≠ q
  np : ∀ x ∈ S, x.1 ≠ p
  pq : q ≠ p
def UpQ (p q : Addr) (B N : Mem) : Prop := ∀ a o, a ≠ p → a ≠ q → B a = some o → N a = some o
def Fresh (B : Mem) (S : Stk) (n : Nat) : Prop := ∀ x ∈ S, B x.1 = none ∧ x.2.length ≤ n
theorem Fresh.mono {B : Mem} {S : Stk} {n m : Nat} (h : Fresh B S n) (l : n ≤ m) : Fresh B S m := fun x hx => ⟨(h x hx).1, Nat.le_trans (h x hx).2 l⟩
theorem StkAt.upx {M N : Mem} {p q : Addr} {S : Stk} (h : StkAt M p q S) (u : UpX p M N) : StkAt N p q S :=
  ⟨u q _ h.pq h.at_, fun x hx => u _ _ (h.np x hx) (h.acc x hx), h.nd, h.nq, h.np, h.pq⟩
theorem UpQ.upx {B M N : Mem} {p q : Addr} (h : UpQ p q B M) (u : UpX p M N) : UpQ p q B N := fun a o h1 h2 e => u a o h1 (h a o h1 h2 e)
theorem UpQ.own {B M : Mem} {p q : Addr} {o : MO} (h : UpQ p q B M) : UpQ p q B (mup M q o) := fun a u h1 h2 e => by rw [mup_ne h2]; exact h a u h1 h2 e
theorem UpQ.ownp {B M : Mem} {p q : Addr} {o : MO} (h : UpQ p q B M) : UpQ p q B (mup M p o) := fun a u h1 h2 e => by rw [mup_ne h1]; exact h a u h1 h2 e
theorem UpQ.new {B M : Mem} {p q r : Addr} {o : MO} (h : UpQ p q B M) (e : M r = none) : UpQ p q B (mup M r o) := fun a u h1 h2 e' => get_up (h a u h1 h2 e') e
theorem UpQ.put {B M : Mem} {p q r : Addr} {o : MO} (h : UpQ p q B M) (e : B r = none) : UpQ p q B (mup M r o) := fun a u h1 h2 e' => by
  have : a ≠ r := fun z => by rw [z, e] at e'; cases e'
  rw [mup_ne this]; exact h a u h1 h2 e'
theorem UpQ.none {B M : Mem} {p q r : Addr} (h : UpQ p q B M) (e : M r = .none) (h1 : r ≠ p) (h2 : r ≠ q) : B r = .none := by
  cases z : B r with
  | none => rfl
  | some o => rw [h r o h1 h2 z] at e; cases e
theorem StkAt.push {M : Mem} {p q a : Addr} {S : Stk} (h : StkAt M p q S) (ha : M a = none) (hp : M p ≠ none) : StkAt (mup (mup M a (.lst [])) q (.lst ((S.map fun x => D.obj x.1).reverse ++ [.obj a]))) p q ((a, []) :: S) := by
  have aq : a ≠ q := fun z => by rw [z, h.at_] at ha; cases ha
  have ap : a ≠ p := fun z => hp (z ▸ ha)
  refine ⟨by rw [mup_same]; simp, fun x hx => ?_, ?_, fun x hx => ?_, fun x hx => ?_, h.pq⟩
  · rcases List.mem_cons.mp hx with rfl | hx
    · rw [mup_ne aq, mup_same]
    · rw [mup_ne (h.nq x hx), mup_ne (ne_none (h.acc x hx) ha)]
      exact h.acc x hx
  · rw [List.map_cons, List.nodup_cons]
    refine ⟨fun hm => ?_, h.nd⟩
    obtain ⟨x, hx, e⟩ := List.mem_map.mp hm
    have := h.acc x hx
    rw [e, ha] at this
    cases this
  · rcases List.mem_cons.mp hx with rfl | hx
    · exact aq
    · exact h.nq x hx
  · rcases List.mem_cons.mp hx with rfl | hx
    · exact ap
    · exact h.np x hx
theorem StkAt.pop {M : Mem} {p q a : Addr} {acc : List D} {S : Stk} (h : StkAt M p q ((a, acc) :: S)) : StkAt (mup M q (.lst ((S.map fun x => D.obj x.1).reverse))) p q S := by
  refine ⟨mup_same, fun x hx => ?_, ?_, fun x hx => h.nq x (List.mem_cons_of_mem _ hx), fun x hx => h.np x (List.mem_cons_of_mem _ hx), h.pq⟩
  · rw [mup_ne (h.nq x (List.mem_cons_of_mem _ hx))]
    exact h.acc x (List.mem_cons_of_mem _ hx)
  · have := h.nd
    rw [List.map_cons, List.nodup_cons] at this
    exact this.2
theorem StkAt.put {M : Mem} {p q a : Addr} {acc acc' : List D} {S : Stk} (h : StkAt M p q ((a, acc) :: S)) : StkAt (mup M a (.lst acc')) p q ((a, acc') :: S) := by
  have hn := h.nd
  rw [List.map_cons, List.nodup_cons] at hn
  have aq := h.nq (a, acc) (List.mem_cons_self ..)
  refine ⟨by rw [mup_ne (Ne.symm aq), h.at_]; simp, fun x hx => ?_, by rw [List.map_cons, List.nodup_cons]; exact hn, fun x hx => ?_, fun x hx => ?_, h.pq⟩
  · rcases List.mem_cons.mp hx with rfl | hx
    · exact mup_same
    · have : x.1 ≠ a := fun z => hn.1 (List.mem_map.mpr ⟨x, hx, z⟩)
      rw [mup_ne this]
      exact h.acc x (List.mem_cons_of_mem _ hx)
  · rcases List.mem_cons.mp hx with rfl | hx
    · exact aq
    · exact h.nq x (List.mem_cons_of_mem _ hx)
  · rcases List.mem_cons.mp hx with rfl | hx
    · exact h.np (a, acc) (List.mem_cons_self ..)
    · exact h.np x (List.mem_cons_of_mem _ hx)
theorem StkAt.rd {M : Mem} {p q : Addr} {S : Stk} (h : StkAt M p q S) : rdL M q = some ((S.map fun x => D.obj x.1).reverse) := rdL_of h.at_
theorem accs_len {S : Stk} : (accs S).length = S.length := by unfold accs; rw [List.length_map]
/-! ### tuples entered -/
def sp_enter : SpD := fun ds M Q E => match ds with
  | [.obj p] => ∃ (t : List Nat) (i : Nat) (q : Addr) (S : Stk) (B : Mem), M p = some (rdr t i q) ∧ StkAt M p q S ∧ S.length ≤ 30 ∧ t.length ≤ 10000000 ∧ i ≤ t.length ∧ UpQ p q B M ∧ Fresh B S i ∧
      (∀ N i' S', N p = some (rdr t i' q) → StkAt N p q S' → S'.length ≤ 30 → i' ≤ t.length → i ≤ i' → UpQ p q B N → Fresh B S' i' → t[i']? ≠ some 40 → (∀ o, Fin t (accs S') i' o → Fin t (accs S) i o) → Q (.bl false) N) ∧
      (∀ N i' a S', N p = some (rdr t i' q) → StkAt N p q ((a, []) :: S') → S'.length ≤ 30 → i' ≤ t.length → i < i' → UpQ p q B N → 0 < i' → Fresh B S' (i' - 1) → (∀ o, After t (accs S') (.ok (.tup []) i') o → Fin t (accs S) i o) → Q (.bl true) N) ∧
      (∀ N (j : Nat), UpQ p q B N → Fin t (accs S) i (.bad j) → E ⟨2, [.int (j : Nat)]⟩ N)
  | _ => False
theorem h_Reader_enter_tuples (k1 k2 : Nat) : ∀ ds M Q0 E0, sp_enter ds M Q0 E0 → ds.length = 1 ∧ wpSs ⟨[C_Reader_sign k1 sp_sign, C_Reader_wrong k2 sp_wrong], sub, fdOf cf⟩ (wF E0) none m_Reader_enter_tuples (endsF Q0) (startD N_Reader_enter_tuples.length ds) M := by
  intro ds M Q0 E0 h
  unfold sp_enter at h
  split at h
  · rename_i p
    obtain ⟨t, i, q, S, B, hM, hS, hS30, hl, hi, hU, hF, q1, q2, q3⟩ := h
    refine ⟨rfl, ?_⟩
    unfold m_Reader_enter_tuples
    refine wp_cut (fun ρ' M' => ρ' = [some (.obj p)] ∧ (endsF Q0).rt (.bl false) M') ?_ ?_
    · show DL.wpS _ _ _ _ _ [some (.obj p)] M
      unfold DL.wpS
      refine ⟨fun m ρ' M' => ∃ i' S', m = t.length + 1 - i' ∧ ρ' = [some (.obj p)] ∧ M' p = some (.ins 0 [.str t, .int (i' : Nat), .obj q]) ∧ StkAt M' p q S' ∧ S'.length ≤ 30 ∧ i' ≤ t.length ∧ i ≤ i' ∧ UpQ p q B M' ∧ Fresh B S' i' ∧ (∀ o, Fin t (accs S') i' o → Fin t (accs S) i o),
        ⟨_, i, S, rfl, rfl, hM, hS, hS30, hi, Nat.le_refl _, hU, hF, fun o z => z⟩, ?_⟩
      rintro m ρ' M' ⟨i', S', rfl, rfl, Mp, hS', hS30', hi', hii, hU', hF', hfin⟩
      have Mp' : M' p = some (rdr t i' q) := Mp
      (try simp only [DL.wpS, DL.wpE, DL.wpA, wpT, wpTs, wpBo, DL.wpI, wpIf, wpTg, wpTgs, optI, List.getElem?_cons_zero, List.getElem?_cons_succ, List.set_cons_succ, List.set_cons_zero, vTru, cmpS, vIsK, vLt, vLe, vGt, vGe, vOrd, DL.isNon, addE, subE, biS, rdS, rdL_new, Bool.not_true, Bool.not_false, if_true, if_false, Bool.false_eq_true, Bool.true_eq_false, reduceIte, true_and, and_true, decide_true, decide_false, vGet_0, vGet_1, slcT, addT, Mp])
      refine ⟨t, i', q, Mp', hl, ?_⟩
      (try simp only [DL.wpS, DL.wpE, DL.wpA, wpT, wpTs, wpBo, DL.wpI, wpIf, wpTg, wpTgs, optI, List.getElem?_cons_zero, List.getElem?_cons_succ, List.set_cons_succ, List.set_cons_zero, vTru, cmpS, vIsK, vLt, vLe, vGt, vGe, vOrd, DL.isNon, addE, subE, biS, rdS, rdL_new, Bool.not_true, Bool.not_false, if_true, if_false, Bool.false_eq_true, Bool.true_eq_false, reduceIte, true_and, and_true, decide_true, decide_false, vGet_0, vGet_1, slcT, addT, vEqK, eq_sgn])
      by_cases h40 : t[i']? = some 40
      · have hlt := some_lt h40
        simp only [h40, decide_true, if_true]
        refine wp_cons ?_
        (try simp only [DL.wpS, DL.wpE, DL.wpA, wpT, wpTs, wpBo, DL.wpI, wpIf, wpTg, wpTgs, optI, List.getElem?_cons_zero, List.getElem?_cons_succ, List.set_cons_succ, List.set_cons_zero, vTru, cmpS, vIsK, vLt, vLe, vGt, vGe, vOrd, DL.isNon, addE, subE, biS, rdS, rdL_new, Bool.not_true, Bool.not_false, if_true, if_false, Bool.false_eq_true, Bool.true_eq_false, reduceIte, true_and, and_true, decide_true, decide_false, vGet_0, vGet_1, slcT, addT, Mp, hS'.rd, vEqK, List.length_reverse, List.length_map])
        by_cases h30 : S'.length = 30
        · have h30' : ((S'.length : Nat) : Int) = 30 := by omega
          simp only [h30', decide_true, if_true]
          refine wp_last ?_
          (try simp only [DL.wpS, DL.wpE, DL.wpA, wpT, wpTs, wpBo, DL.wpI, wpIf, wpTg, wpTgs, optI, List.getElem?_cons_zero, List.getElem?_cons_succ, List.set_cons_succ, List.set_cons_zero, vTru, cmpS, vIsK, vLt, vLe, vGt, vGe, vOrd, DL.isNon, addE, subE, biS, rdS, rdL_new, Bool.not_true, Bool.not_false, if_true, if_false, Bool.false_eq_true, Bool.true_eq_false, reduceIte, true_and, and_true, decide_true, decide_false, vGet_0, vGet_1, slcT, addT, Mp])
          refine ⟨t, i', q, Mp', M', Sub.rfl', ?_⟩
          refine q3 M' i' hU' (hfin _ (fin_of (o1 := .bad i') (.deep h40 (by rw [accs_len]; omega)) (After.bad.mpr rfl)))
        · have h30' : ¬ ((S'.length : Nat) : Int) = 30 := by omega
          simp only [h30', decide_false, Bool.false_eq_true, if_false]
          refine wp_nil ?_
          refine wp_cons ?_
          (try simp only [DL.wpS, DL.wpE, DL.wpA, wpT, wpTs, wpBo, DL.wpI, wpIf, wpTg, wpTgs, optI, List.getElem?_cons_zero, List.getElem?_cons_succ, List.set_cons_succ, List.set_cons_zero, vTru, cmpS, vIsK, vLt, vLe, vGt, vGe, vOrd, DL.isNon, addE, subE, biS, rdS, rdL_new, Bool.not_true, Bool.not_false, if_true, if_false, Bool.false_eq_true, Bool.true_eq_false, reduceIte, true_and, and_true, decide_true, decide_false, vGet_0, vGet_1, slcT, addT, Mp, recv, BM.ty, hS'.rd])
          refine ⟨by simp, fun a ha => ?_⟩
          have aq : a ≠ q := fun z => by rw [z, hS'.at_] at ha; cases ha
          have ap : a ≠ p := fun z => by rw [z, Mp] at ha; cases ha
          have e1 : mup M' a (.lst []) q = some (.lst ((S'.map fun x => D.obj x.1).reverse)) := by rw [mup_ne (Ne.symm aq)]; exact hS'.at_
          (try simp only [DL.wpS, DL.wpE, DL.wpA, wpT, wpTs, wpBo, DL.wpI, wpIf, wpTg, wpTgs, optI, List.getElem?_cons_zero, List.getElem?_cons_succ, List.set_cons_succ, List.set_cons_zero, vTru, cmpS, vIsK, vLt, vLe, vGt, vGe, vOrd, DL.isNon, addE, subE, biS, rdS, rdL_new, Bool.not_true, Bool.not_false, if_true, if_false, Bool.false_eq_true, Bool.true_eq_false, reduceIte, true_and, and_true, decide_true, decide_false, vGet_0, vGet_1, slcT, addT, bmS, e1, List.length_reverse, List.length_map])
          refine ⟨by unfold big; omega, ?_⟩
          have hS2 := hS'.push ha (by rw [Mp]; exact fun z => nomatch z)
          have e2 : mup (mup M' a (.lst [])) q (.lst ((S'.map fun x => D.obj x.1).reverse ++ [.obj a])) p = some (.ins 0 [.str t, .int (i' : Nat), .obj q]) := by
            rw [mup_ne (Ne.symm hS'.pq), mup_ne (Ne.symm ap)]; exact Mp
          have hU2 : UpQ p q B (mup (mup M' a (.lst [])) q (.lst ((S'.map fun x => D.obj x.1).reverse ++ [.obj a]))) := (hU'.new ha).own
          have hF2 : Fresh B ((a, []) :: S') (i' + 1) := fun x hx => by
            rcases List.mem_cons.mp hx with rfl | hx
            · exact ⟨hU'.none ha ap aq, Nat.zero_le _⟩
            · exact hF'.mono (Nat.le_succ _) x hx
          generalize mup (mup M' a (.lst [])) q (.lst ((S'.map fun x => D.obj x.1).reverse ++ [.obj a])) = M2 at hS2 e2 hU2
          refine wp_cons ?_
          (try simp only [DL.wpS, DL.wpE, DL.wpA, wpT, wpTs, wpBo, DL.wpI, wpIf, wpTg, wpTgs, optI, List.getElem?_cons_zero, List.getElem?_cons_succ, List.set_cons_succ, List.set_cons_zero, vTru, cmpS, vIsK, vLt, vLe, vGt, vGe, vOrd, DL.isNon, addE, subE, biS, rdS, rdL_new, Bool.not_true, Bool.not_false, if_true, if_false, Bool.false_eq_true, Bool.true_eq_false, reduceIte, true_and, and_true, decide_true, decide_false, vGet_0, vGet_1, slcT, addT, e2, augS, List.length_cons, List.length_nil])
          refine ⟨by decide, ?_⟩
          have hS3 : StkAt (mup M2 p (.ins 0 [.str t, .int ((i' : Int) + 1), .obj q])) p q ((a, []) :: S') := hS2.upx UpX.rfl'.own
          have hU3 : UpQ p q B (mup M2 p (.ins 0 [.str t, .int ((i' : Int) + 1), .obj q])) := hU2.ownp
          have Mn : mup M2 p (.ins 0 [.str t, .int ((i' : Int) + 1), .obj q]) p = some (.ins 0 [.str t, .int ((i' : Int) + 1), .obj q]) := mup_same
          generalize mup M2 p (.ins 0 [.str t, .int ((i' : Int) + 1), .obj q]) = M3 at hS3 hU3 Mn
          have Mn' : M3 p = some (rdr t (i' + 1) q) := by rw [Mn]; simp [rdr]
          refine wp_last ?_
          (try simp only [DL.wpS, DL.wpE, DL.wpA, wpT, wpTs, wpBo, DL.wpI, wpIf, wpTg, wpTgs, optI, List.getElem?_cons_zero, List.getElem?_cons_succ, List.set_cons_succ, List.set_cons_zero, vTru, cmpS, vIsK, vLt, vLe, vGt, vGe, vOrd, DL.isNon, addE, subE, biS, rdS, rdL_new, Bool.not_true, Bool.not_false, if_true, if_false, Bool.false_eq_true, Bool.true_eq_false, reduceIte, true_and, and_true, decide_true, decide_false, vGet_0, vGet_1, slcT, addT, Mn])
          refine ⟨t, i' + 1, q, Mn', hl, ?_⟩
          (try simp only [DL.wpS, DL.wpE, DL.wpA, wpT, wpTs, wpBo, DL.wpI, wpIf, wpTg, wpTgs, optI, List.getElem?_cons_zero, List.getElem?_cons_succ, List.set_cons_succ, List.set_cons_zero, vTru, cmpS, vIsK, vLt, vLe, vGt, vGe, vOrd, DL.isNon, addE, subE, biS, rdS, rdL_new, Bool.not_true, Bool.not_false, if_true, if_false, Bool.false_eq_true, Bool.true_eq_false, reduceIte, true_and, and_true, decide_true, decide_false, vGet_0, vGet_1, slcT, addT, vEqK, eq_sgn])
          by_cases h41 : t[i' + 1]? = some 41
          · have hlt1 := some_lt h41
            simp only [h41, decide_true, if_true]
            refine wp_cons ?_
            (try simp only [DL.wpS, DL.wpE, DL.wpA, wpT, wpTs, wpBo, DL.wpI, wpIf, wpTg, wpTgs, optI, List.getElem?_cons_zero, List.getElem?_cons_succ, List.set_cons_succ, List.set_cons_zero, vTru, cmpS, vIsK, vLt, vLe, vGt, vGe, vOrd, DL.isNon, addE, subE, biS, rdS, rdL_new, Bool.not_true, Bool.not_false, if_true, if_false, Bool.false_eq_true, Bool.true_eq_false, reduceIte, true_and, and_true, decide_true, decide_false, vGet_0, vGet_1, slcT, addT, Mn, augS, List.length_cons, List.length_nil])
            refine ⟨by decide, ?_⟩
            refine wp_last ?_
            (try simp only [DL.wpS, DL.wpE, DL.wpA, wpT, wpTs, wpBo, DL.wpI, wpIf, wpTg, wpTgs, optI, List.getElem?_cons_zero, List.getElem?_cons_succ, List.set_cons_succ, List.set_cons_zero, vTru, cmpS, vIsK, vLt, vLe, vGt, vGe, vOrd, DL.isNon, addE, subE, biS, rdS, rdL_new, Bool.not_true, Bool.not_false, if_true, if_false, Bool.false_eq_true, Bool.true_eq_false, reduceIte, true_and, and_true, decide_true, decide_false, vGet_0, vGet_1, slcT, addT])
            refine rt_of (q2 _ (i' + 2) a S' ?_ (hS3.upx UpX.rfl'.own) hS30' (by omega) (by omega) hU3.ownp (by omega) (hF'.mono (by omega)) fun o ho => hfin o (fin_of (.tup0 h40 (by rw [accs_len]; omega) h41) ho)) Sub.rfl'
            rw [mup_same]; simp [rdr]; omega
          · simp only [h41, decide_false, Bool.false_eq_true, if_false]
            refine wp_nil ?_
            refine ⟨t.length + 1 - (i' + 1), M3, by omega, Sub.rfl', i' + 1, (a, []) :: S', rfl, rfl, Mn', hS3, by rw [List.length_cons]; omega, by omega, by omega, hU3, hF2, fun o ho => hfin o ?_⟩
            obtain ⟨o1, r, af⟩ := ho
            have r' : Rd t (.it []) ((accs S').length + 1) (i' + 1) o1 := r
            exact fin_of (.tup h40 (by rw [accs_len]; omega) h41 r') af
      · simp only [h40, decide_false, Bool.false_eq_true, if_false]
        have := rt_of (q1 M' i' S' Mp' hS' hS30' hi' hii hU' hF' h40 hfin) Sub.rfl'
        first
        | exact ⟨rfl, this⟩
        | exact this
    · rintro ρ' M' ⟨rfl, hr⟩
      refine ⟨M', Sub.rfl', ?_⟩
      refine wp_last ?_
      (try simp only [DL.wpS, DL.wpE, DL.wpA, wpT, wpTs, wpBo, DL.wpI, wpIf, wpTg, wpTgs, optI, List.getElem?_cons_zero, List.getElem?_cons_succ, List.set_cons_succ, List.set_cons_zero, vTru, cmpS, vIsK, vLt, vLe, vGt, vGe, vOrd, DL.isNon, addE, subE, biS, rdS, rdL_new, Bool.not_true, Bool.not_false, if_true, if_false, Bool.false_eq_true, Bool.true_eq_false, reduceIte, true_and, and_true, decide_true, decide_false, vGet_0, vGet_1, slcT, addT])
      exact hr
  · exact h.elim
end H54
set_option Elab.async false
set_option linter.all false
set_option maxRecDepth 100000
set_option maxHeartbeats 1000000
namespace H54
open PySem PySem.Spec PyProof.Rows L2 DL TX
theorem pop_last {S : Stk} {a : Addr} {acc : List D} : ((((a, acc) :: S).map fun x : Addr × List D => D.obj x.1).reverse).getLast? = some (.obj a) := by simp
theorem pop_drop {S : Stk} {a : Addr} {acc : List D} : ((((a, acc) :: S).map fun x : Addr × List D => D.obj x.1).reverse).dropLast = (S.map fun x => D.obj x.1).reverse := by simp
theorem vGet_last {M : Mem} {q : Addr} {xs : List D} {x : D} (h : rdL M q = some (xs ++ [x])) : vGet (.obj q) (.int (-1)) M = fun Q => Q x M := by
  funext Q
  have nd : isDct M (.obj q) = false := by
    unfold isDct rdL at *
    dsimp only
    split at h <;> first | cases h | skip
    all_goals (rename_i z; rw [z])
  have e : atI (xs ++ [x]) (-1) = some x := by
    have : ixN (xs ++ [x]).length (-1) = some xs.length := by
      unfold ixN
      rw [if_neg (by decide), if_pos (by simp; omega)]
      simp
      try omega
    unfold atI
    rw [this]
    simp
  unfold vGet
  rw [nd]
  simp only [Bool.false_eq_true, if_false, vIdx, h, e]
/-- what is left to do behind an item of a tuple -/
def Wait (t : List Nat) (s : List (List D)) (acc : List D) (j : Nat) (o : Out) : Prop := if t[j]? = some 44 then ∃ o1, Rd t (.it acc) (s.length + 1) (j + 1) o1 ∧ After t s o1 o else o = .bad j
def sp_read : SpD := fun ds M Q E => match ds with
  | [.obj p] => ∃ (t : List Nat) (q : Addr), M p = some (rdr t 0 q) ∧ M q = some (.lst []) ∧ q ≠ p ∧ t.length ≤ 10000000 ∧
      (∀ N v j, Rd t .fw 0 0 (.ok v j) → t[j]? = none → UpQ p q M N → Q v N) ∧
      (∀ N (j : Nat), (Rd t .fw 0 0 (.bad j) ∨ ∃ v, Rd t .fw 0 0 (.ok v j) ∧ t[j]? ≠ none) → UpQ p q M N → E ⟨2, [.int (j : Nat)]⟩ N)
  | _ => False
theorem h_Reader_read (k1 k2 k3 k4 : Nat) : ∀ ds M Q0 E0, sp_read ds M Q0 E0 → ds.length = 1 ∧ wpSs ⟨[C_Reader_enter_tuples k1 sp_enter, C_Reader_plain k2 sp_plain, C_Reader_sign k3 sp_sign, C_Reader_wrong k4 sp_wrong], sub, fdOf cf⟩ (wF E0) none m_Reader_read (endsF Q0) (startD N_Reader_read.length ds) M := by
  intro ds M Q0 E0 h
  unfold sp_read at h
  split at h
  · rename_i p
    obtain ⟨t, q, hM, hMq, hqp, hl, q1, q2⟩ := h
    refine ⟨rfl, ?_⟩
    unfold m_Reader_read
    refine wp_last ?_
    show DL.wpS _ _ _ _ _ [some (.obj p), none] M
    unfold DL.wpS
    refine ⟨fun m ρ' M' => ∃ (i : Nat) (S : Stk) (x1 : Option D), m = t.length + 1 - i ∧ ρ' = [some (.obj p), x1] ∧ M' p = some (.ins 0 [.str t, .int (i : Nat), .obj q]) ∧ StkAt M' p q S ∧ S.length ≤ 30 ∧ i ≤ t.length ∧ UpQ p q M M' ∧ Fresh M S i ∧ (∀ o, Fin t (accs S) i o → Rd t .fw 0 0 o),
      ⟨_, 0, [], none, rfl, rfl, hM, ⟨hMq, by simp, List.nodup_nil, by simp, by simp, hqp⟩, by simp, Nat.zero_le _, fun a o _ _ e => e, fun x hx => by (cases hx), fun o z => z⟩, ?_⟩
    rintro m ρ' M' ⟨i, S, x1, rfl, rfl, Mp, hS, hS30, hi, hU, hF, hfin⟩
    have Mp' : M' p = some (rdr t i q) := Mp
    have bad : ∀ (N : Mem) (j : Nat) (ρ : En), UpQ p q M N → Rd t .fw 0 0 (.bad j) → (wF E0) ⟨2, [.int (j : Nat)]⟩ ρ N := fun N j ρ U r => ⟨N, Sub.rfl', q2 N j (.inl r) U⟩
    (try simp only [DL.wpS, DL.wpE, DL.wpA, wpT, wpTs, wpBo, DL.wpI, wpIf, wpTg, wpTgs, optI, List.getElem?_cons_zero, List.getElem?_cons_succ, List.set_cons_succ, List.set_cons_zero, vTru, cmpS, vIsK, vLt, vLe, vGt, vGe, vOrd, DL.isNon, addE, subE, biS, rdS, rdL_new, Bool.not_true, Bool.not_false, if_true, if_false, Bool.false_eq_true, Bool.true_eq_false, reduceIte, true_and, and_true, decide_true, decide_false, vGet_0, vGet_1, slcT, addT])
    refine wp_cut (fun ρ2 M2 => ∃ (v : D) (j : Nat) (S2 : Stk), ρ2 = [some (.obj p), some v] ∧ M2 p = some (.ins 0 [.str t, .int (j : Nat), .obj q]) ∧ StkAt M2 p q S2 ∧ S2.length ≤ 30 ∧ i < j ∧ j ≤ t.length ∧ UpQ p q M M2 ∧ Fresh M S2 (j - 1) ∧ (∀ o, After t (accs S2) (.ok v j) o → Rd t .fw 0 0 o)) ?_ ?_
    · (try simp only [DL.wpS, DL.wpE, DL.wpA, wpT, wpTs, wpBo, DL.wpI, wpIf, wpTg, wpTgs, optI, List.getElem?_cons_zero, List.getElem?_cons_succ, List.set_cons_succ, List.set_cons_zero, vTru, cmpS, vIsK, vLt, vLe, vGt, vGe, vOrd, DL.isNon, addE, subE, biS, rdS, rdL_new, Bool.not_true, Bool.not_false, if_true, if_false, Bool.false_eq_true, Bool.true_eq_false, reduceIte, true_and, and_true, decide_true, decide_false, vGet_0, vGet_1, slcT, addT, Mp])
      refine ⟨t, i, q, S, M, Mp', hS, hS30, hl, hi, hU, hF, fun N i' S' Np hSN hS30' hi' hii hUN hFN h40 hf => ?_, fun N i' a S' Np hSN hS30' hi' hii hUN hi0 hFN hf => ?_, fun N j hUN hf => ?_⟩
      · have Np' : N p = some (.ins 0 [.str t, .int (i' : Nat), .obj q]) := Np
        (try simp only [DL.wpS, DL.wpE, DL.wpA, wpT, wpTs, wpBo, DL.wpI, wpIf, wpTg, wpTgs, optI, List.getElem?_cons_zero, List.getElem?_cons_succ, List.set_cons_succ, List.set_cons_zero, vTru, cmpS, vIsK, vLt, vLe, vGt, vGe, vOrd, DL.isNon, addE, subE, biS, rdS, rdL_new, Bool.not_true, Bool.not_false, if_true, if_false, Bool.false_eq_true, Bool.true_eq_false, reduceIte, true_and, and_true, decide_true, decide_false, vGet_0, vGet_1, slcT, addT, Np'])
        refine ⟨t, i', q, S'.length, Np, hl, hi', h40, fun o ho => ?_⟩
        cases o with
        | ok v j =>
          have hle := rd_le ho v j rfl
          exact fun N2 U2 N2p => ⟨v, j, S', rfl, N2p, hSN.upx U2, hS30', by omega, hle.2, hUN.upx U2, hFN.mono (by omega), fun o' af => hfin _ (hf _ (fin_of (by rw [accs_len]; exact ho) af))⟩
        | bad j => exact fun N2 U2 => bad N2 j _ (hUN.upx U2) (hfin _ (hf _ (fin_of (o1 := .bad j) (by rw [accs_len]; exact ho) (After.bad.mpr rfl))))
      · have Np' : N p = some (.ins 0 [.str t, .int (i' : Nat), .obj q]) := Np
        (try simp only [DL.wpS, DL.wpE, DL.wpA, wpT, wpTs, wpBo, DL.wpI, wpIf, wpTg, wpTgs, optI, List.getElem?_cons_zero, List.getElem?_cons_succ, List.set_cons_succ, List.set_cons_zero, vTru, cmpS, vIsK, vLt, vLe, vGt, vGe, vOrd, DL.isNon, addE, subE, biS, rdS, rdL_new, Bool.not_true, Bool.not_false, if_true, if_false, Bool.false_eq_true, Bool.true_eq_false, reduceIte, true_and, and_true, decide_true, decide_false, vGet_0, vGet_1, slcT, addT, Np', recv, BM.ty, hSN.rd])
        have ha : N a = some (.lst []) := hSN.acc (a, []) (List.mem_cons_self ..)
        have aq := hSN.nq (a, []) (List.mem_cons_self ..)
        have ap := hSN.np (a, []) (List.mem_cons_self ..)
        refine ⟨by simp, ?_⟩
        (try simp only [DL.wpS, DL.wpE, DL.wpA, wpT, wpTs, wpBo, DL.wpI, wpIf, wpTg, wpTgs, optI, List.getElem?_cons_zero, List.getElem?_cons_succ, List.set_cons_succ, List.set_cons_zero, vTru, cmpS, vIsK, vLt, vLe, vGt, vGe, vOrd, DL.isNon, addE, subE, biS, rdS, rdL_new, Bool.not_true, Bool.not_false, if_true, if_false, Bool.false_eq_true, Bool.true_eq_false, reduceIte, true_and, and_true, decide_true, decide_false, vGet_0, vGet_1, slcT, addT, bmS, hSN.at_, pop_last, pop_drop])
        have ha2 : rdL (mup N q (.lst ((S'.map fun x => D.obj x.1).reverse))) a = some [] := by rw [rdL_up aq]; exact rdL_of ha
        (try simp only [DL.wpS, DL.wpE, DL.wpA, wpT, wpTs, wpBo, DL.wpI, wpIf, wpTg, wpTgs, optI, List.getElem?_cons_zero, List.getElem?_cons_succ, List.set_cons_succ, List.set_cons_zero, vTru, cmpS, vIsK, vLt, vLe, vGt, vGe, vOrd, DL.isNon, addE, subE, biS, rdS, rdL_new, Bool.not_true, Bool.not_false, if_true, if_false, Bool.false_eq_true, Bool.true_eq_false, reduceIte, true_and, and_true, decide_true, decide_false, vGet_0, vGet_1, slcT, addT, ha2])
        refine ⟨.tup [], i', S', rfl, by rw [mup_ne (Ne.symm hqp)]; exact Np', hSN.pop, hS30', by omega, hi', hUN.own, hFN, fun o af => hfin _ (hf _ af)⟩
      · exact bad N j _ hUN (hfin _ hf)
    · rintro ρ2 M2 ⟨v, j, S2, rfl, M2p, hS2, hS230, hij, hj, hU2, hF2, haf⟩
      refine ⟨M2, Sub.rfl', ?_⟩
      refine wp_cut (fun ρ3 M3 => ∃ (v : D) (j : Nat) (S3 : Stk), ρ3 = [some (.obj p), some v] ∧ M3 p = some (.ins 0 [.str t, .int (j : Nat), .obj q]) ∧ StkAt M3 p q S3 ∧ S3.length ≤ 30 ∧ i < j ∧ j ≤ t.length ∧ UpQ p q M M3 ∧ Fresh M S3 j ∧
          ((S3 = [] ∧ Rd t .fw 0 0 (.ok v j)) ∨ ∃ a acc S', S3 = (a, acc) :: S' ∧ t[j]? ≠ some 41 ∧ ∀ o, Wait t (accs S') acc j o → Rd t .fw 0 0 o)) ?_ ?_
      · unfold DL.wpS
        refine ⟨fun m ρ3 M3 => ∃ (v : D) (j : Nat) (S3 : Stk), m = S3.length ∧ ρ3 = [some (.obj p), some v] ∧ M3 p = some (.ins 0 [.str t, .int (j : Nat), .obj q]) ∧ StkAt M3 p q S3 ∧ S3.length ≤ 30 ∧ i < j ∧ j ≤ t.length ∧ UpQ p q M M3 ∧ Fresh M S3 (j - 1) ∧ (∀ o, After t (accs S3) (.ok v j) o → Rd t .fw 0 0 o),
          ⟨_, v, j, S2, rfl, rfl, M2p, hS2, hS230, hij, hj, hU2, hF2, haf⟩, ?_⟩
        rintro m3 ρ3 M3 ⟨v, j, S3, rfl, rfl, M3p, hS3, hS330, hij, hj, hU3, hF3, haf⟩
        (try simp only [DL.wpS, DL.wpE, DL.wpA, wpT, wpTs, wpBo, DL.wpI, wpIf, wpTg, wpTgs, optI, List.getElem?_cons_zero, List.getElem?_cons_succ, List.set_cons_succ, List.set_cons_zero, vTru, cmpS, vIsK, vLt, vLe, vGt, vGe, vOrd, DL.isNon, addE, subE, biS, rdS, rdL_new, Bool.not_true, Bool.not_false, if_true, if_false, Bool.false_eq_true, Bool.true_eq_false, reduceIte, true_and, and_true, decide_true, decide_false, vGet_0, vGet_1, slcT, addT, M3p, hS3.rd, List.length_reverse, List.length_map])
        cases S3 with
        | nil =>
          simp only [List.length_nil, show decide ((0 : Int) < ((0 : Nat) : Int)) = false by decide, Bool.false_eq_true, if_false]
          have hr : Rd t .fw 0 0 (.ok v j) := haf _ (by simp [After, accs])
          exact ⟨v, j, [], rfl, (by first | exact M3p | rfl), hS3, hS330, hij, hj, hU3, (fun x hx => by cases hx), .inl ⟨rfl, hr⟩⟩
        | cons x S' =>
          obtain ⟨a, acc⟩ := x
          have hpos : (0 : Int) < ((((a, acc) :: S') : Stk).length : Nat) := by rw [List.length_cons]; omega
          simp only [hpos, decide_true, if_true]
          have ha : M3 a = some (.lst acc) := hS3.acc (a, acc) (List.mem_cons_self ..)
          have aq := hS3.nq (a, acc) (List.mem_cons_self ..)
          have ap := hS3.np (a, acc) (List.mem_cons_self ..)
          have haB : M a = none := (hF3 (a, acc) (List.mem_cons_self ..)).1
          have hacc : acc.length ≤ j - 1 := (hF3 (a, acc) (List.mem_cons_self ..)).2
          have hlast : rdL M3 q = some ((S'.map fun x => D.obj x.1).reverse ++ [.obj a]) := by rw [hS3.rd]; simp
          refine wp_cons ?_
          (try simp only [DL.wpS, DL.wpE, DL.wpA, wpT, wpTs, wpBo, DL.wpI, wpIf, wpTg, wpTgs, optI, List.getElem?_cons_zero, List.getElem?_cons_succ, List.set_cons_succ, List.set_cons_zero, vTru, cmpS, vIsK, vLt, vLe, vGt, vGe, vOrd, DL.isNon, addE, subE, biS, rdS, rdL_new, Bool.not_true, Bool.not_false, if_true, if_false, Bool.false_eq_true, Bool.true_eq_false, reduceIte, true_and, and_true, decide_true, decide_false, vGet_0, vGet_1, slcT, addT, M3p, vGet_last hlast, recv, BM.ty, rdL_of ha])
          refine ⟨by simp, ?_⟩
          (try simp only [DL.wpS, DL.wpE, DL.wpA, wpT, wpTs, wpBo, DL.wpI, wpIf, wpTg, wpTgs, optI, List.getElem?_cons_zero, List.getElem?_cons_succ, List.set_cons_succ, List.set_cons_zero, vTru, cmpS, vIsK, vLt, vLe, vGt, vGe, vOrd, DL.isNon, addE, subE, biS, rdS, rdL_new, Bool.not_true, Bool.not_false, if_true, if_false, Bool.false_eq_true, Bool.true_eq_false, reduceIte, true_and, and_true, decide_true, decide_false, vGet_0, vGet_1, slcT, addT, bmS, ha])
          refine ⟨by unfold big; omega, ?_⟩
          have hS4 : StkAt (mup M3 a (.lst (acc ++ [v]))) p q ((a, acc ++ [v]) :: S') := hS3.put
          have hU4 : UpQ p q M (mup M3 a (.lst (acc ++ [v]))) := hU3.put haB
          have M4p : mup M3 a (.lst (acc ++ [v])) p = some (.ins 0 [.str t, .int (j : Nat), .obj q]) := by rw [mup_ne (Ne.symm ap)]; exact M3p
          generalize mup M3 a (.lst (acc ++ [v])) = M4 at hS4 hU4 M4p
          have M4p' : M4 p = some (rdr t j q) := M4p
          have haA : ∀ o, (if t[j]? = some 41 then After t (accs S') (.ok (.tup (acc ++ [v])) (j + 1)) o else Wait t (accs S') (acc ++ [v]) j o) → Rd t .fw 0 0 o := fun o ho => haf o (by
            show After t (acc :: accs S') (.ok v j) o
            simp only [After]
            exact ho)
          refine wp_cons ?_
          (try simp only [DL.wpS, DL.wpE, DL.wpA, wpT, wpTs, wpBo, DL.wpI, wpIf, wpTg, wpTgs, optI, List.getElem?_cons_zero, List.getElem?_cons_succ, List.set_cons_succ, List.set_cons_zero, vTru, cmpS, vIsK, vLt, vLe, vGt, vGe, vOrd, DL.isNon, addE, subE, biS, rdS, rdL_new, Bool.not_true, Bool.not_false, if_true, if_false, Bool.false_eq_true, Bool.true_eq_false, reduceIte, true_and, and_true, decide_true, decide_false, vGet_0, vGet_1, slcT, addT, M4p])
          refine ⟨t, j, q, M4p', hl, ?_⟩
          (try simp only [DL.wpS, DL.wpE, DL.wpA, wpT, wpTs, wpBo, DL.wpI, wpIf, wpTg, wpTgs, optI, List.getElem?_cons_zero, List.getElem?_cons_succ, List.set_cons_succ, List.set_cons_zero, vTru, cmpS, vIsK, vLt, vLe, vGt, vGe, vOrd, DL.isNon, addE, subE, biS, rdS, rdL_new, Bool.not_true, Bool.not_false, if_true, if_false, Bool.false_eq_true, Bool.true_eq_false, reduceIte, true_and, and_true, decide_true, decide_false, vGet_0, vGet_1, slcT, addT, vEqK, eq_sgn])
          by_cases h41 : t[j]? = some 41
          · have hlt := some_lt h41
            simp only [h41, decide_true, Bool.not_true, Bool.false_eq_true, if_false, if_true] at haA ⊢
            refine wp_nil ?_
            refine wp_cons ?_
            (try simp only [DL.wpS, DL.wpE, DL.wpA, wpT, wpTs, wpBo, DL.wpI, wpIf, wpTg, wpTgs, optI, List.getElem?_cons_zero, List.getElem?_cons_succ, List.set_cons_succ, List.set_cons_zero, vTru, cmpS, vIsK, vLt, vLe, vGt, vGe, vOrd, DL.isNon, addE, subE, biS, rdS, rdL_new, Bool.not_true, Bool.not_false, if_true, if_false, Bool.false_eq_true, Bool.true_eq_false, reduceIte, true_and, and_true, decide_true, decide_false, vGet_0, vGet_1, slcT, addT, M4p, recv, BM.ty, hS4.rd])
            refine ⟨by simp, ?_⟩
            (try simp only [DL.wpS, DL.wpE, DL.wpA, wpT, wpTs, wpBo, DL.wpI, wpIf, wpTg, wpTgs, optI, List.getElem?_cons_zero, List.getElem?_cons_succ, List.set_cons_succ, List.set_cons_zero, vTru, cmpS, vIsK, vLt, vLe, vGt, vGe, vOrd, DL.isNon, addE, subE, biS, rdS, rdL_new, Bool.not_true, Bool.not_false, if_true, if_false, Bool.false_eq_true, Bool.true_eq_false, reduceIte, true_and, and_true, decide_true, decide_false, vGet_0, vGet_1, slcT, addT, bmS, hS4.at_, pop_last, pop_drop])
            have ha4 : rdL (mup M4 q (.lst ((S'.map fun x => D.obj x.1).reverse))) a = some (acc ++ [v]) := by
              rw [rdL_up aq]; exact rdL_of (hS4.acc (a, acc ++ [v]) (List.mem_cons_self ..))
            (try simp only [DL.wpS, DL.wpE, DL.wpA, wpT, wpTs, wpBo, DL.wpI, wpIf, wpTg, wpTgs, optI, List.getElem?_cons_zero, List.getElem?_cons_succ, List.set_cons_succ, List.set_cons_zero, vTru, cmpS, vIsK, vLt, vLe, vGt, vGe, vOrd, DL.isNon, addE, subE, biS, rdS, rdL_new, Bool.not_true, Bool.not_false, if_true, if_false, Bool.false_eq_true, Bool.true_eq_false, reduceIte, true_and, and_true, decide_true, decide_false, vGet_0, vGet_1, slcT, addT, ha4])
            have hS5 := hS4.pop
            have hU5 : UpQ p q M (mup M4 q (.lst ((S'.map fun x => D.obj x.1).reverse))) := hU4.own
            have M5p : mup M4 q (.lst ((S'.map fun x => D.obj x.1).reverse)) p = some (.ins 0 [.str t, .int (j : Nat), .obj q]) := by rw [mup_ne (Ne.symm hqp)]; exact M4p
            generalize mup M4 q (.lst ((S'.map fun x => D.obj x.1).reverse)) = M5 at hS5 hU5 M5p
            refine wp_last ?_
            (try simp only [DL.wpS, DL.wpE, DL.wpA, wpT, wpTs, wpBo, DL.wpI, wpIf, wpTg, wpTgs, optI, List.getElem?_cons_zero, List.getElem?_cons_succ, List.set_cons_succ, List.set_cons_zero, vTru, cmpS, vIsK, vLt, vLe, vGt, vGe, vOrd, DL.isNon, addE, subE, biS, rdS, rdL_new, Bool.not_true, Bool.not_false, if_true, if_false, Bool.false_eq_true, Bool.true_eq_false, reduceIte, true_and, and_true, decide_true, decide_false, vGet_0, vGet_1, slcT, addT, M5p, augS, List.length_cons, List.length_nil])
            refine ⟨by decide, ?_⟩
            rw [List.length_cons] at hS330
            refine ⟨S'.length, _, by simp, Sub.rfl', .tup (acc ++ [v]), j + 1, S', rfl, rfl, ?_, hS5.upx UpX.rfl'.own, by omega, by omega, by omega, hU5.ownp, fun x hx => ⟨(hF3 x (List.mem_cons_of_mem _ hx)).1, by have := (hF3 x (List.mem_cons_of_mem _ hx)).2; omega⟩, haA⟩
            rw [mup_same]; simp
          · simp only [h41, decide_false, Bool.not_false, if_true, if_false] at haA ⊢
            refine wp_last ?_
            (try simp only [DL.wpS, DL.wpE, DL.wpA, wpT, wpTs, wpBo, DL.wpI, wpIf, wpTg, wpTgs, optI, List.getElem?_cons_zero, List.getElem?_cons_succ, List.set_cons_succ, List.set_cons_zero, vTru, cmpS, vIsK, vLt, vLe, vGt, vGe, vOrd, DL.isNon, addE, subE, biS, rdS, rdL_new, Bool.not_true, Bool.not_false, if_true, if_false, Bool.false_eq_true, Bool.true_eq_false, reduceIte, true_and, and_true, decide_true, decide_false, vGet_0, vGet_1, slcT, addT])
            exact ⟨v, j, (a, acc ++ [v]) :: S', rfl, M4p, hS4, by simpa using hS330, hij, hj, hU4, fun x hx => by
              rcases List.mem_cons.mp hx with rfl | hx
              · exact ⟨haB, by rw [List.length_append, List.length_singleton]; omega⟩
              · exact ⟨(hF3 x (List.mem_cons_of_mem _ hx)).1, by have := (hF3 x (List.mem_cons_of_mem _ hx)).2; omega⟩, .inr ⟨a, acc ++ [v], S', rfl, h41, haA⟩⟩
      · rintro ρ3 M3 ⟨v, j, S3, rfl, M3p, hS3, hS330, hij, hj, hU3, hF3, hcase⟩
        refine ⟨M3, Sub.rfl', ?_⟩
        have M3p' : M3 p = some (rdr t j q) := M3p
        refine wp_cons ?_
        (try simp only [DL.wpS, DL.wpE, DL.wpA, wpT, wpTs, wpBo, DL.wpI, wpIf, wpTg, wpTgs, optI, List.getElem?_cons_zero, List.getElem?_cons_succ, List.set_cons_succ, List.set_cons_zero, vTru, cmpS, vIsK, vLt, vLe, vGt, vGe, vOrd, DL.isNon, addE, subE, biS, rdS, rdL_new, Bool.not_true, Bool.not_false, if_true, if_false, Bool.false_eq_true, Bool.true_eq_false, reduceIte, true_and, and_true, decide_true, decide_false, vGet_0, vGet_1, slcT, addT, M3p, hS3.rd, List.length_reverse, List.length_map, vEqK])
        rcases hcase with ⟨rfl, hr⟩ | ⟨a, acc, S', rfl, h41, hw⟩
        · simp only [List.length_nil, show decide (((0 : Nat) : Int) = 0) = true by decide, if_true]
          refine wp_cons ?_
          (try simp only [DL.wpS, DL.wpE, DL.wpA, wpT, wpTs, wpBo, DL.wpI, wpIf, wpTg, wpTgs, optI, List.getElem?_cons_zero, List.getElem?_cons_succ, List.set_cons_succ, List.set_cons_zero, vTru, cmpS, vIsK, vLt, vLe, vGt, vGe, vOrd, DL.isNon, addE, subE, biS, rdS, rdL_new, Bool.not_true, Bool.not_false, if_true, if_false, Bool.false_eq_true, Bool.true_eq_false, reduceIte, true_and, and_true, decide_true, decide_false, vGet_0, vGet_1, slcT, addT, M3p])
          refine ⟨t, j, q, M3p', hl, ?_⟩
          cases hc : t[j]? with
          | none =>
            (try simp only [DL.wpS, DL.wpE, DL.wpA, wpT, wpTs, wpBo, DL.wpI, wpIf, wpTg, wpTgs, optI, List.getElem?_cons_zero, List.getElem?_cons_succ, List.set_cons_succ, List.set_cons_zero, vTru, cmpS, vIsK, vLt, vLe, vGt, vGe, vOrd, DL.isNon, addE, subE, biS, rdS, rdL_new, Bool.not_true, Bool.not_false, if_true, if_false, Bool.false_eq_true, Bool.true_eq_false, reduceIte, true_and, and_true, decide_true, decide_false, vGet_0, vGet_1, slcT, addT, sgn_none hc, vEqK])
            refine wp_nil ?_
            refine wp_last ?_
            (try simp only [DL.wpS, DL.wpE, DL.wpA, wpT, wpTs, wpBo, DL.wpI, wpIf, wpTg, wpTgs, optI, List.getElem?_cons_zero, List.getElem?_cons_succ, List.set_cons_succ, List.set_cons_zero, vTru, cmpS, vIsK, vLt, vLe, vGt, vGe, vOrd, DL.isNon, addE, subE, biS, rdS, rdL_new, Bool.not_true, Bool.not_false, if_true, if_false, Bool.false_eq_true, Bool.true_eq_false, reduceIte, true_and, and_true, decide_true, decide_false, vGet_0, vGet_1, slcT, addT])
            exact rt_of (q1 M3 v j hr hc hU3) Sub.rfl'
          | some c =>
            (try simp only [DL.wpS, DL.wpE, DL.wpA, wpT, wpTs, wpBo, DL.wpI, wpIf, wpTg, wpTgs, optI, List.getElem?_cons_zero, List.getElem?_cons_succ, List.set_cons_succ, List.set_cons_zero, vTru, cmpS, vIsK, vLt, vLe, vGt, vGe, vOrd, DL.isNon, addE, subE, biS, rdS, rdL_new, Bool.not_true, Bool.not_false, if_true, if_false, Bool.false_eq_true, Bool.true_eq_false, reduceIte, true_and, and_true, decide_true, decide_false, vGet_0, vGet_1, slcT, addT, sgn_some hc, vEqK])
            simp only [show (decide (([c] : List Nat) = [])) = false by simp, Bool.not_false, if_true]
            refine wp_last ?_
            (try simp only [DL.wpS, DL.wpE, DL.wpA, wpT, wpTs, wpBo, DL.wpI, wpIf, wpTg, wpTgs, optI, List.getElem?_cons_zero, List.getElem?_cons_succ, List.set_cons_succ, List.set_cons_zero, vTru, cmpS, vIsK, vLt, vLe, vGt, vGe, vOrd, DL.isNon, addE, subE, biS, rdS, rdL_new, Bool.not_true, Bool.not_false, if_true, if_false, Bool.false_eq_true, Bool.true_eq_false, reduceIte, true_and, and_true, decide_true, decide_false, vGet_0, vGet_1, slcT, addT, M3p])
            exact ⟨t, j, q, M3p', M3, Sub.rfl', q2 M3 j (.inr ⟨v, hr, by rw [hc]; exact fun z => by cases z⟩) hU3⟩
        · have hne : ¬ (((((a, acc) :: S') : Stk).length : Nat) : Int) = 0 := by simp; omega
          simp only [hne, decide_false, Bool.false_eq_true, if_false]
          refine wp_nil ?_
          refine wp_cons ?_
          (try simp only [DL.wpS, DL.wpE, DL.wpA, wpT, wpTs, wpBo, DL.wpI, wpIf, wpTg, wpTgs, optI, List.getElem?_cons_zero, List.getElem?_cons_succ, List.set_cons_succ, List.set_cons_zero, vTru, cmpS, vIsK, vLt, vLe, vGt, vGe, vOrd, DL.isNon, addE, subE, biS, rdS, rdL_new, Bool.not_true, Bool.not_false, if_true, if_false, Bool.false_eq_true, Bool.true_eq_false, reduceIte, true_and, and_true, decide_true, decide_false, vGet_0, vGet_1, slcT, addT, M3p])
          refine ⟨t, j, q, M3p', hl, ?_⟩
          (try simp only [DL.wpS, DL.wpE, DL.wpA, wpT, wpTs, wpBo, DL.wpI, wpIf, wpTg, wpTgs, optI, List.getElem?_cons_zero, List.getElem?_cons_succ, List.set_cons_succ, List.set_cons_zero, vTru, cmpS, vIsK, vLt, vLe, vGt, vGe, vOrd, DL.isNon, addE, subE, biS, rdS, rdL_new, Bool.not_true, Bool.not_false, if_true, if_false, Bool.false_eq_true, Bool.true_eq_false, reduceIte, true_and, and_true, decide_true, decide_false, vGet_0, vGet_1, slcT, addT, vEqK, eq_sgn])
          by_cases h44 : t[j]? = some 44
          · have hlt := some_lt h44
            simp only [h44, decide_true, Bool.not_true, Bool.false_eq_true, if_false]
            refine wp_nil ?_
            refine wp_last ?_
            (try simp only [DL.wpS, DL.wpE, DL.wpA, wpT, wpTs, wpBo, DL.wpI, wpIf, wpTg, wpTgs, optI, List.getElem?_cons_zero, List.getElem?_cons_succ, List.set_cons_succ, List.set_cons_zero, vTru, cmpS, vIsK, vLt, vLe, vGt, vGe, vOrd, DL.isNon, addE, subE, biS, rdS, rdL_new, Bool.not_true, Bool.not_false, if_true, if_false, Bool.false_eq_true, Bool.true_eq_false, reduceIte, true_and, and_true, decide_true, decide_false, vGet_0, vGet_1, slcT, addT, M3p, augS, List.length_cons, List.length_nil])
            refine ⟨by decide, ?_⟩
            refine ⟨t.length + 1 - (j + 1), _, by omega, Sub.rfl', j + 1, (a, acc) :: S', some v, rfl, rfl, ?_, hS3.upx UpX.rfl'.own, hS330, by omega, hU3.ownp, hF3.mono (by omega), fun o ho => hw o ?_⟩
            · rw [mup_same]; simp
            · obtain ⟨o1, r, af⟩ := ho
              unfold Wait
              rw [if_pos h44]
              exact ⟨o1, r, af⟩
          · simp only [h44, decide_false, Bool.not_false, if_true]
            refine wp_last ?_
            (try simp only [DL.wpS, DL.wpE, DL.wpA, wpT, wpTs, wpBo, DL.wpI, wpIf, wpTg, wpTgs, optI, List.getElem?_cons_zero, List.getElem?_cons_succ, List.set_cons_succ, List.set_cons_zero, vTru, cmpS, vIsK, vLt, vLe, vGt, vGe, vOrd, DL.isNon, addE, subE, biS, rdS, rdL_new, Bool.not_true, Bool.not_false, if_true, if_false, Bool.false_eq_true, Bool.true_eq_false, reduceIte, true_and, and_true, decide_true, decide_false, vGet_0, vGet_1, slcT, addT, M3p])
            refine ⟨t, j, q, M3p', M3, Sub.rfl', q2 M3 j (.inl (hw _ ?_)) hU3⟩
            unfold Wait
            rw [if_neg h44]
  · exact h.elim
end H54
set_option Elab.async false
set_option linter.all false
set_option maxRecDepth 100000
set_option maxHeartbeats 1000000
namespace H54
open PySem PySem.Spec PyProof.Rows L2 DL TX
def sp_read_thing : SpD := fun ds M Q E => match ds with
  | [.str t] => t.length ≤ 10000000 ∧ (∀ v j, Rd t .fw 0 0 (.ok v j) → t[j]? = none → Q v M) ∧ (∀ j : Nat, (Rd t .fw 0 0 (.bad j) ∨ ∃ v, Rd t .fw 0 0 (.ok v j) ∧ t[j]? ≠ none) → E ⟨2, [.int (j : Nat)]⟩ M)
  | [d] => kn M d = true ∧ isS d = false ∧ E ⟨2, [.int (-1)]⟩ M
  | _ => False
theorem h_read_thing (k1 k2 : Nat) : ∀ ds M Q0 E0, sp_read_thing ds M Q0 E0 → ds.length = 1 ∧ wpSs ⟨[C_Reader_read k1 sp_read, C_Reader___init__ k2 sp_init], sub, fdOf cf⟩ (wF E0) none m_read_thing (endsF Q0) (startD N_read_thing.length ds) M := by
  intro ds M Q0 E0 h
  unfold sp_read_thing at h
  split at h
  · rename_i t
    obtain ⟨hl, q1, q2⟩ := h
    refine ⟨rfl, ?_⟩
    unfold m_read_thing
    refine wp_cons ?_
    show DL.wpS _ _ _ _ _ [some (.str t)] M
    have e : ∀ Q, vIsi "str" (.str t) M Q = Q (.bl true) M := fun Q => isi_str (d := .str t) rfl
    (try simp only [DL.wpS, DL.wpE, DL.wpA, wpT, wpTs, wpBo, DL.wpI, wpIf, wpTg, wpTgs, optI, List.getElem?_cons_zero, List.getElem?_cons_succ, List.set_cons_succ, List.set_cons_zero, vTru, cmpS, vIsK, vLt, vLe, vGt, vGe, vOrd, DL.isNon, addE, subE, biS, rdS, rdL_new, Bool.not_true, Bool.not_false, if_true, if_false, Bool.false_eq_true, Bool.true_eq_false, reduceIte, true_and, and_true, decide_true, decide_false, vGet_0, vGet_1, slcT, addT, e])
    refine wp_nil ?_
    refine wp_last ?_
    (try simp only [DL.wpS, DL.wpE, DL.wpA, wpT, wpTs, wpBo, DL.wpI, wpIf, wpTg, wpTgs, optI, List.getElem?_cons_zero, List.getElem?_cons_succ, List.set_cons_succ, List.set_cons_zero, vTru, cmpS, vIsK, vLt, vLe, vGt, vGe, vOrd, DL.isNon, addE, subE, biS, rdS, rdL_new, Bool.not_true, Bool.not_false, if_true, if_false, Bool.false_eq_true, Bool.true_eq_false, reduceIte, true_and, and_true, decide_true, decide_false, vGet_0, vGet_1, slcT, addT])
    intro p hp
    refine ⟨mup_same, fun N q Np Nq hqp hq0 hrest => ?_⟩
    have Np' : N p = some (.ins 0 [.str t, .int ((0 : Nat) : Int), .obj q]) := Np
    have hq : M q = none := by rw [mup_ne hqp] at hq0; exact hq0
    (try simp only [DL.wpS, DL.wpE, DL.wpA, wpT, wpTs, wpBo, DL.wpI, wpIf, wpTg, wpTgs, optI, List.getElem?_cons_zero, List.getElem?_cons_succ, List.set_cons_succ, List.set_cons_zero, vTru, cmpS, vIsK, vLt, vLe, vGt, vGe, vOrd, DL.isNon, addE, subE, biS, rdS, rdL_new, Bool.not_true, Bool.not_false, if_true, if_false, Bool.false_eq_true, Bool.true_eq_false, reduceIte, true_and, and_true, decide_true, decide_false, vGet_0, vGet_1, slcT, addT, Np'])
    have sub : ∀ N2, UpQ p q N N2 → Sub M N2 := fun N2 U a o e => by
      have ap : a ≠ p := fun z => by rw [z, hp] at e; cases e
      have aq : a ≠ q := fun z => by rw [z, hq] at e; cases e
      exact U a o ap aq (by rw [hrest a ap aq, mup_ne ap]; exact e)
    exact ⟨t, q, Np, Nq, hqp, hl, fun N2 v j r hj U => rt_of (q1 v j r hj) (sub N2 U), fun N2 j r U => ⟨M, sub N2 U, q2 j r⟩⟩
  · rename_i d hd
    obtain ⟨hk, hs, hE⟩ := h
    refine ⟨rfl, ?_⟩
    unfold m_read_thing
    refine wp_cons ?_
    show DL.wpS _ _ _ _ _ [some d] M
    (try simp only [DL.wpS, DL.wpE, DL.wpA, wpT, wpTs, wpBo, DL.wpI, wpIf, wpTg, wpTgs, optI, List.getElem?_cons_zero, List.getElem?_cons_succ, List.set_cons_succ, List.set_cons_zero, vTru, cmpS, vIsK, vLt, vLe, vGt, vGe, vOrd, DL.isNon, addE, subE, biS, rdS, rdL_new, Bool.not_true, Bool.not_false, if_true, if_false, Bool.false_eq_true, Bool.true_eq_false, reduceIte, true_and, and_true, decide_true, decide_false, vGet_0, vGet_1, slcT, addT, isi_str hk, hs])
    refine wp_last ?_
    (try simp only [DL.wpS, DL.wpE, DL.wpA, wpT, wpTs, wpBo, DL.wpI, wpIf, wpTg, wpTgs, optI, List.getElem?_cons_zero, List.getElem?_cons_succ, List.set_cons_succ, List.set_cons_zero, vTru, cmpS, vIsK, vLt, vLe, vGt, vGe, vOrd, DL.isNon, addE, subE, biS, rdS, rdL_new, Bool.not_true, Bool.not_false, if_true, if_false, Bool.false_eq_true, Bool.true_eq_false, reduceIte, true_and, and_true, decide_true, decide_false, vGet_0, vGet_1, slcT, addT])
    exact ⟨M, Sub.rfl', hE⟩
  · exact h.elim
/-! ### the law's own reading -/
def enc : Out → D
  | .ok v j => .tup [v, .int (j : Nat), .bl false]
  | .bad j => .tup [.non, .int (j : Nat), .bl true]
def sp_rs : SpD := fun ds M Q _ => match ds with
  | [.str t, .int i] => ∃ i' : Nat, i = i' ∧ i' ≤ t.length ∧ t.length ≤ 10000000 ∧ ∀ o, St t i' [] o → Q (enc o) M
  | _ => False
theorem h__law_read_string : ∀ ds M Q0 E0, sp_rs ds M Q0 E0 → ds.length = 2 ∧ wpSs ⟨[], sub, fdOf cf⟩ (wF E0) none m__law_read_string (endsF Q0) (startD N__law_read_string.length ds) M := by
  intro ds M Q0 E0 h
  unfold sp_rs at h
  split at h
  · rename_i t i0
    obtain ⟨i, rfl, hi, hl, hq⟩ := h
    refine ⟨rfl, ?_⟩
    unfold m__law_read_string
    refine wp_cons ?_
    show DL.wpS _ _ _ _ _ [some (.str t), some (.int (i : Nat)), none, none] M
    (try simp only [DL.wpS, DL.wpE, DL.wpA, wpT, wpTs, wpBo, DL.wpI, wpIf, wpTg, wpTgs, optI, List.getElem?_cons_zero, List.getElem?_cons_succ, List.set_cons_succ, List.set_cons_zero, vTru, cmpS, vIsK, vLt, vLe, vGt, vGe, vOrd, DL.isNon, addE, subE, biS, rdS, rdL_new, Bool.not_true, Bool.not_false, if_true, if_false, Bool.false_eq_true, Bool.true_eq_false, reduceIte, true_and, and_true, decide_true, decide_false, vGet_0, vGet_1, slcT, addT])
    refine wp_cons ?_
    unfold DL.wpS
    refine ⟨fun m ρ' M' => ∃ (i' : Nat) (acc : List Nat) (x3 : Option D), m = t.length + 1 - i' ∧ ρ' = [some (.str t), some (.int (i' : Nat)), some (.str acc), x3] ∧ M' = M ∧ i' ≤ t.length ∧ acc.length ≤ i' ∧ (∀ o, St t i' acc o → St t i [] o),
      ⟨_, i, [], none, rfl, rfl, rfl, hi, Nat.zero_le _, fun o z => z⟩, ?_⟩
    rintro m ρ' M' ⟨i', acc, x3, rfl, rfl, rfl, hi', ha, hS⟩
    have done : ∀ {o : Out} {d : D}, St t i' acc o → enc o = d → (endsF Q0).rt d M' := fun ho e => rt_of (by rw [← e]; exact hq _ (hS _ ho)) Sub.rfl'
    have hbig : t.length ≤ big := by unfold big; omega
    (try simp only [DL.wpS, DL.wpE, DL.wpA, wpT, wpTs, wpBo, DL.wpI, wpIf, wpTg, wpTgs, optI, List.getElem?_cons_zero, List.getElem?_cons_succ, List.set_cons_succ, List.set_cons_zero, vTru, cmpS, vIsK, vLt, vLe, vGt, vGe, vOrd, DL.isNon, addE, subE, biS, rdS, rdL_new, Bool.not_true, Bool.not_false, if_true, if_false, Bool.false_eq_true, Bool.true_eq_false, reduceIte, true_and, and_true, decide_true, decide_false, vGet_0, vGet_1, slcT, addT, hbig])
    cases hc : t[i']? with
    | none =>
      have hge := List.getElem?_eq_none_iff.mp hc
      have : ¬ ((i' : Int) < (t.length : Nat)) := by omega
      (try simp only [DL.wpS, DL.wpE, DL.wpA, wpT, wpTs, wpBo, DL.wpI, wpIf, wpTg, wpTgs, optI, List.getElem?_cons_zero, List.getElem?_cons_succ, List.set_cons_succ, List.set_cons_zero, vTru, cmpS, vIsK, vLt, vLe, vGt, vGe, vOrd, DL.isNon, addE, subE, biS, rdS, rdL_new, Bool.not_true, Bool.not_false, if_true, if_false, Bool.false_eq_true, Bool.true_eq_false, reduceIte, true_and, and_true, decide_true, decide_false, vGet_0, vGet_1, slcT, addT, this])
      refine wp_last ?_
      (try simp only [DL.wpS, DL.wpE, DL.wpA, wpT, wpTs, wpBo, DL.wpI, wpIf, wpTg, wpTgs, optI, List.getElem?_cons_zero, List.getElem?_cons_succ, List.set_cons_succ, List.set_cons_zero, vTru, cmpS, vIsK, vLt, vLe, vGt, vGe, vOrd, DL.isNon, addE, subE, biS, rdS, rdL_new, Bool.not_true, Bool.not_false, if_true, if_false, Bool.false_eq_true, Bool.true_eq_false, reduceIte, true_and, and_true, decide_true, decide_false, vGet_0, vGet_1, slcT, addT])
      exact done (.eof hc) rfl
    | some c =>
      have hlt := some_lt hc
      have : (i' : Int) < (t.length : Nat) := by omega
      (try simp only [DL.wpS, DL.wpE, DL.wpA, wpT, wpTs, wpBo, DL.wpI, wpIf, wpTg, wpTgs, optI, List.getElem?_cons_zero, List.getElem?_cons_succ, List.set_cons_succ, List.set_cons_zero, vTru, cmpS, vIsK, vLt, vLe, vGt, vGe, vOrd, DL.isNon, addE, subE, biS, rdS, rdL_new, Bool.not_true, Bool.not_false, if_true, if_false, Bool.false_eq_true, Bool.true_eq_false, reduceIte, true_and, and_true, decide_true, decide_false, vGet_0, vGet_1, slcT, addT, this])
      refine wp_cons ?_
      (try simp only [DL.wpS, DL.wpE, DL.wpA, wpT, wpTs, wpBo, DL.wpI, wpIf, wpTg, wpTgs, optI, List.getElem?_cons_zero, List.getElem?_cons_succ, List.set_cons_succ, List.set_cons_zero, vTru, cmpS, vIsK, vLt, vLe, vGt, vGe, vOrd, DL.isNon, addE, subE, biS, rdS, rdL_new, Bool.not_true, Bool.not_false, if_true, if_false, Bool.false_eq_true, Bool.true_eq_false, reduceIte, true_and, and_true, decide_true, decide_false, vGet_0, vGet_1, slcT, addT, vGet_str hc hl])
      refine wp_cons ?_
      (try simp only [DL.wpS, DL.wpE, DL.wpA, wpT, wpTs, wpBo, DL.wpI, wpIf, wpTg, wpTgs, optI, List.getElem?_cons_zero, List.getElem?_cons_succ, List.set_cons_succ, List.set_cons_zero, vTru, cmpS, vIsK, vLt, vLe, vGt, vGe, vOrd, DL.isNon, addE, subE, biS, rdS, rdL_new, Bool.not_true, Bool.not_false, if_true, if_false, Bool.false_eq_true, Bool.true_eq_false, reduceIte, true_and, and_true, decide_true, decide_false, vGet_0, vGet_1, slcT, addT, vEqK])
      by_cases h39 : c = 39
      · subst h39
        (try simp only [DL.wpS, DL.wpE, DL.wpA, wpT, wpTs, wpBo, DL.wpI, wpIf, wpTg, wpTgs, optI, List.getElem?_cons_zero, List.getElem?_cons_succ, List.set_cons_succ, List.set_cons_zero, vTru, cmpS, vIsK, vLt, vLe, vGt, vGe, vOrd, DL.isNon, addE, subE, biS, rdS, rdL_new, Bool.not_true, Bool.not_false, if_true, if_false, Bool.false_eq_true, Bool.true_eq_false, reduceIte, true_and, and_true, decide_true, decide_false, vGet_0, vGet_1, slcT, addT])
        refine wp_last ?_
        (try simp only [DL.wpS, DL.wpE, DL.wpA, wpT, wpTs, wpBo, DL.wpI, wpIf, wpTg, wpTgs, optI, List.getElem?_cons_zero, List.getElem?_cons_succ, List.set_cons_succ, List.set_cons_zero, vTru, cmpS, vIsK, vLt, vLe, vGt, vGe, vOrd, DL.isNon, addE, subE, biS, rdS, rdL_new, Bool.not_true, Bool.not_false, if_true, if_false, Bool.false_eq_true, Bool.true_eq_false, reduceIte, true_and, and_true, decide_true, decide_false, vGet_0, vGet_1, slcT, addT])
        exact done (.close hc) rfl
      · simp only [show decide (([c] : List Nat) = [39]) = false by simp [h39], Bool.false_eq_true, if_false]
        refine wp_nil ?_
        refine wp_cons ?_
        (try simp only [DL.wpS, DL.wpE, DL.wpA, wpT, wpTs, wpBo, DL.wpI, wpIf, wpTg, wpTgs, optI, List.getElem?_cons_zero, List.getElem?_cons_succ, List.set_cons_succ, List.set_cons_zero, vTru, cmpS, vIsK, vLt, vLe, vGt, vGe, vOrd, DL.isNon, addE, subE, biS, rdS, rdL_new, Bool.not_true, Bool.not_false, if_true, if_false, Bool.false_eq_true, Bool.true_eq_false, reduceIte, true_and, and_true, decide_true, decide_false, vGet_0, vGet_1, slcT, addT, le1])
        by_cases h32 : 32 ≤ c
        · simp only [h32, decide_true]
          by_cases h126 : c ≤ 126
          · simp only [h126, decide_true, Bool.not_true, Bool.false_eq_true, if_false]
            refine wp_nil ?_
            refine wp_cut (fun ρ2 M2 => ∃ (i2 e : Nat), ρ2 = [some (.str t), some (.int (i2 : Nat)), some (.str acc), some (.str [e])] ∧ M2 = M' ∧ t[i2]? = some e ∧ i' ≤ i2 ∧ (∀ o, St t (i2 + 1) (acc ++ [e]) o → St t i' acc o)) ?_ ?_
            · (try simp only [DL.wpS, DL.wpE, DL.wpA, wpT, wpTs, wpBo, DL.wpI, wpIf, wpTg, wpTgs, optI, List.getElem?_cons_zero, List.getElem?_cons_succ, List.set_cons_succ, List.set_cons_zero, vTru, cmpS, vIsK, vLt, vLe, vGt, vGe, vOrd, DL.isNon, addE, subE, biS, rdS, rdL_new, Bool.not_true, Bool.not_false, if_true, if_false, Bool.false_eq_true, Bool.true_eq_false, reduceIte, true_and, and_true, decide_true, decide_false, vGet_0, vGet_1, slcT, addT, vEqK])
              by_cases hesc : c = 126
              · subst hesc
                (try simp only [DL.wpS, DL.wpE, DL.wpA, wpT, wpTs, wpBo, DL.wpI, wpIf, wpTg, wpTgs, optI, List.getElem?_cons_zero, List.getElem?_cons_succ, List.set_cons_succ, List.set_cons_zero, vTru, cmpS, vIsK, vLt, vLe, vGt, vGe, vOrd, DL.isNon, addE, subE, biS, rdS, rdL_new, Bool.not_true, Bool.not_false, if_true, if_false, Bool.false_eq_true, Bool.true_eq_false, reduceIte, true_and, and_true, decide_true, decide_false, vGet_0, vGet_1, slcT, addT])
                refine wp_cons ?_
                (try simp only [DL.wpS, DL.wpE, DL.wpA, wpT, wpTs, wpBo, DL.wpI, wpIf, wpTg, wpTgs, optI, List.getElem?_cons_zero, List.getElem?_cons_succ, List.set_cons_succ, List.set_cons_zero, vTru, cmpS, vIsK, vLt, vLe, vGt, vGe, vOrd, DL.isNon, addE, subE, biS, rdS, rdL_new, Bool.not_true, Bool.not_false, if_true, if_false, Bool.false_eq_true, Bool.true_eq_false, reduceIte, true_and, and_true, decide_true, decide_false, vGet_0, vGet_1, slcT, addT])
                refine wp_cons ?_
                (try simp only [DL.wpS, DL.wpE, DL.wpA, wpT, wpTs, wpBo, DL.wpI, wpIf, wpTg, wpTgs, optI, List.getElem?_cons_zero, List.getElem?_cons_succ, List.set_cons_succ, List.set_cons_zero, vTru, cmpS, vIsK, vLt, vLe, vGt, vGe, vOrd, DL.isNon, addE, subE, biS, rdS, rdL_new, Bool.not_true, Bool.not_false, if_true, if_false, Bool.false_eq_true, Bool.true_eq_false, reduceIte, true_and, and_true, decide_true, decide_false, vGet_0, vGet_1, slcT, addT, hbig, vEqK])
                cases he : t[i' + 1]? with
                | none =>
                  have hge := List.getElem?_eq_none_iff.mp he
                  have : ((i' : Int) + 1) = (t.length : Nat) := by omega
                  simp only [this, decide_true, if_true]
                  refine wp_last ?_
                  (try simp only [DL.wpS, DL.wpE, DL.wpA, wpT, wpTs, wpBo, DL.wpI, wpIf, wpTg, wpTgs, optI, List.getElem?_cons_zero, List.getElem?_cons_succ, List.set_cons_succ, List.set_cons_zero, vTru, cmpS, vIsK, vLt, vLe, vGt, vGe, vOrd, DL.isNon, addE, subE, biS, rdS, rdL_new, Bool.not_true, Bool.not_false, if_true, if_false, Bool.false_eq_true, Bool.true_eq_false, reduceIte, true_and, and_true, decide_true, decide_false, vGet_0, vGet_1, slcT, addT])
                  refine done (.escBad hc fun e z => by rw [he] at z; cases z) ?_
                  simp only [enc]
                  rw [show (((i' + 1 : Nat)) : Int) = (t.length : Nat) by omega]
                | some e =>
                  have hlt' := some_lt he
                  have : ¬ ((i' : Int) + 1) = (t.length : Nat) := by omega
                  simp only [this, decide_false, Bool.false_eq_true, if_false]
                  have hg : vGet (.str t) (.int ((i' : Int) + 1)) M' = fun Q => Q (.str [e]) M' := by
                    rw [show ((i' : Int) + 1) = ((i' + 1 : Nat) : Int) by omega]
                    exact vGet_str he hl
                  (try simp only [DL.wpS, DL.wpE, DL.wpA, wpT, wpTs, wpBo, DL.wpI, wpIf, wpTg, wpTgs, optI, List.getElem?_cons_zero, List.getElem?_cons_succ, List.set_cons_succ, List.set_cons_zero, vTru, cmpS, vIsK, vLt, vLe, vGt, vGe, vOrd, DL.isNon, addE, subE, biS, rdS, rdL_new, Bool.not_true, Bool.not_false, if_true, if_false, Bool.false_eq_true, Bool.true_eq_false, reduceIte, true_and, and_true, decide_true, decide_false, vGet_0, vGet_1, slcT, addT, hg, in_str])
                  by_cases hee : e = 39 ∨ e = 126
                  · simp only [hee, decide_true, Bool.not_true, Bool.false_eq_true, if_false]
                    refine wp_nil ?_
                    refine wp_last ?_
                    (try simp only [DL.wpS, DL.wpE, DL.wpA, wpT, wpTs, wpBo, DL.wpI, wpIf, wpTg, wpTgs, optI, List.getElem?_cons_zero, List.getElem?_cons_succ, List.set_cons_succ, List.set_cons_zero, vTru, cmpS, vIsK, vLt, vLe, vGt, vGe, vOrd, DL.isNon, addE, subE, biS, rdS, rdL_new, Bool.not_true, Bool.not_false, if_true, if_false, Bool.false_eq_true, Bool.true_eq_false, reduceIte, true_and, and_true, decide_true, decide_false, vGet_0, vGet_1, slcT, addT, hg])
                    refine ⟨i' + 1, e, ?_, he, by omega, fun o ho => .esc hc he hee ho⟩
                    simp
                  · simp only [hee, decide_false, Bool.not_false, if_true]
                    refine wp_last ?_
                    (try simp only [DL.wpS, DL.wpE, DL.wpA, wpT, wpTs, wpBo, DL.wpI, wpIf, wpTg, wpTgs, optI, List.getElem?_cons_zero, List.getElem?_cons_succ, List.set_cons_succ, List.set_cons_zero, vTru, cmpS, vIsK, vLt, vLe, vGt, vGe, vOrd, DL.isNon, addE, subE, biS, rdS, rdL_new, Bool.not_true, Bool.not_false, if_true, if_false, Bool.false_eq_true, Bool.true_eq_false, reduceIte, true_and, and_true, decide_true, decide_false, vGet_0, vGet_1, slcT, addT])
                    refine done (.escBad hc fun e' z => by rw [he] at z; cases z; omega) ?_
                    simp [enc]
              · simp only [show decide (([c] : List Nat) = [126]) = false by simp [hesc], Bool.false_eq_true, if_false]
                exact wp_nil ⟨i', c, rfl, rfl, hc, Nat.le_refl _, fun o ho => .step hc h32 (by omega) h39 ho⟩
            · rintro ρ2 M2 ⟨i2, e, rfl, rfl, he, hii, hS2⟩
              refine ⟨M2, Sub.rfl', ?_⟩
              have hlt2 := some_lt he
              refine wp_cons ?_
              (try simp only [DL.wpS, DL.wpE, DL.wpA, wpT, wpTs, wpBo, DL.wpI, wpIf, wpTg, wpTgs, optI, List.getElem?_cons_zero, List.getElem?_cons_succ, List.set_cons_succ, List.set_cons_zero, vTru, cmpS, vIsK, vLt, vLe, vGt, vGe, vOrd, DL.isNon, addE, subE, biS, rdS, rdL_new, Bool.not_true, Bool.not_false, if_true, if_false, Bool.false_eq_true, Bool.true_eq_false, reduceIte, true_and, and_true, decide_true, decide_false, vGet_0, vGet_1, slcT, addT, vAdd, binS, List.length_cons, List.length_nil])
              refine ⟨by unfold big; omega, ?_⟩
              refine wp_last ?_
              (try simp only [DL.wpS, DL.wpE, DL.wpA, wpT, wpTs, wpBo, DL.wpI, wpIf, wpTg, wpTgs, optI, List.getElem?_cons_zero, List.getElem?_cons_succ, List.set_cons_succ, List.set_cons_zero, vTru, cmpS, vIsK, vLt, vLe, vGt, vGe, vOrd, DL.isNon, addE, subE, biS, rdS, rdL_new, Bool.not_true, Bool.not_false, if_true, if_false, Bool.false_eq_true, Bool.true_eq_false, reduceIte, true_and, and_true, decide_true, decide_false, vGet_0, vGet_1, slcT, addT])
              refine ⟨t.length + 1 - (i2 + 1), M2, by omega, Sub.rfl', i2 + 1, acc ++ [e], some (.str [e]), rfl, ?_, rfl, by omega, ?_, fun o ho => hS o (hS2 o ho)⟩
              · simp
              · rw [List.length_append, List.length_singleton]; omega
          · simp only [h126, decide_false, Bool.not_false, if_true]
            refine wp_last ?_
            (try simp only [DL.wpS, DL.wpE, DL.wpA, wpT, wpTs, wpBo, DL.wpI, wpIf, wpTg, wpTgs, optI, List.getElem?_cons_zero, List.getElem?_cons_succ, List.set_cons_succ, List.set_cons_zero, vTru, cmpS, vIsK, vLt, vLe, vGt, vGe, vOrd, DL.isNon, addE, subE, biS, rdS, rdL_new, Bool.not_true, Bool.not_false, if_true, if_false, Bool.false_eq_true, Bool.true_eq_false, reduceIte, true_and, and_true, decide_true, decide_false, vGet_0, vGet_1, slcT, addT])
            exact done (.odd hc (by omega)) rfl
        · simp only [h32, decide_false, Bool.not_false, if_true]
          refine wp_last ?_
          (try simp only [DL.wpS, DL.wpE, DL.wpA, wpT, wpTs, wpBo, DL.wpI, wpIf, wpTg, wpTgs, optI, List.getElem?_cons_zero, List.getElem?_cons_succ, List.set_cons_succ, List.set_cons_zero, vTru, cmpS, vIsK, vLt, vLe, vGt, vGe, vOrd, DL.isNon, addE, subE, biS, rdS, rdL_new, Bool.not_true, Bool.not_false, if_true, if_false, Bool.false_eq_true, Bool.true_eq_false, reduceIte, true_and, and_true, decide_true, decide_false, vGet_0, vGet_1, slcT, addT])
          exact done (.odd hc (by omega)) rfl
  · exact h.elim
end H54
set_option Elab.async false
set_option linter.all false
set_option maxRecDepth 100000
set_option maxHeartbeats 1000000
namespace H54
open PySem PySem.Spec PyProof.Rows L2 DL TX
theorem vEq_s1 {neg : Bool} {M : Mem} {a b : Nat} : vEqK neg (.str [a]) (.str [b]) M = fun Q => Q (.bl (if neg then !decide (a = b) else decide (a = b))) M := by
  funext Q
  have : decide (([a] : List Nat) = [b]) = decide (a = b) := by by_cases h : a = b <;> simp [h]
  simp only [vEqK, this]
def sp_ri : SpD := fun ds M Q _ => match ds with
  | [.str t, .int i] => ∃ i' : Nat, i = i' ∧ i' < t.length ∧ t.length ≤ 10000000 ∧ Q (enc (intO t i')) M
  | _ => False
theorem h__law_read_integer : ∀ ds M Q0 E0, sp_ri ds M Q0 E0 → ds.length = 2 ∧ wpSs ⟨[], sub, fdOf cf⟩ (wF E0) none m__law_read_integer (endsF Q0) (startD N__law_read_integer.length ds) M := by
  intro ds M Q0 E0 h
  unfold sp_ri at h
  split at h
  · rename_i t i0
    obtain ⟨i, rfl, hi, hl, hq⟩ := h
    refine ⟨rfl, ?_⟩
    have done : ∀ {o : Out} {d : D}, intO t i = o → enc o = d → (endsF Q0).rt d M := fun ho e => rt_of (by rw [← e, ← ho]; exact hq) Sub.rfl'
    unfold m__law_read_integer
    refine wp_cons ?_
    show DL.wpS _ _ _ _ _ [some (.str t), some (.int (i : Nat)), none, none] M
    (try simp only [DL.wpS, DL.wpE, DL.wpA, wpT, wpTs, wpBo, DL.wpI, wpIf, wpTg, wpTgs, optI, List.getElem?_cons_zero, List.getElem?_cons_succ, List.set_cons_succ, List.set_cons_zero, vTru, cmpS, vIsK, vLt, vLe, vGt, vGe, vOrd, DL.isNon, addE, subE, biS, rdS, rdL_new, Bool.not_true, Bool.not_false, if_true, if_false, Bool.false_eq_true, Bool.true_eq_false, reduceIte, true_and, and_true, decide_true, decide_false, vGet_0, vGet_1, slcT, addT])
    obtain ⟨ci, hci⟩ : ∃ c, t[i]? = some c := ⟨_, List.getElem?_eq_getElem hi⟩
    have hbig : t.length ≤ big := by unfold big; omega
    refine wp_cut (fun ρ2 M2 => ρ2 = [some (.str t), some (.int ((bgn t i : Nat) : Int)), some (.int (i : Nat)), none] ∧ M2 = M) ?_ ?_
    · (try simp only [DL.wpS, DL.wpE, DL.wpA, wpT, wpTs, wpBo, DL.wpI, wpIf, wpTg, wpTgs, optI, List.getElem?_cons_zero, List.getElem?_cons_succ, List.set_cons_succ, List.set_cons_zero, vTru, cmpS, vIsK, vLt, vLe, vGt, vGe, vOrd, DL.isNon, addE, subE, biS, rdS, rdL_new, Bool.not_true, Bool.not_false, if_true, if_false, Bool.false_eq_true, Bool.true_eq_false, reduceIte, true_and, and_true, decide_true, decide_false, vGet_0, vGet_1, slcT, addT, vGet_str hci hl, vEq_s1])
      by_cases h45 : ci = 45
      · subst h45
        (try simp only [DL.wpS, DL.wpE, DL.wpA, wpT, wpTs, wpBo, DL.wpI, wpIf, wpTg, wpTgs, optI, List.getElem?_cons_zero, List.getElem?_cons_succ, List.set_cons_succ, List.set_cons_zero, vTru, cmpS, vIsK, vLt, vLe, vGt, vGe, vOrd, DL.isNon, addE, subE, biS, rdS, rdL_new, Bool.not_true, Bool.not_false, if_true, if_false, Bool.false_eq_true, Bool.true_eq_false, reduceIte, true_and, and_true, decide_true, decide_false, vGet_0, vGet_1, slcT, addT])
        refine wp_last ?_
        (try simp only [DL.wpS, DL.wpE, DL.wpA, wpT, wpTs, wpBo, DL.wpI, wpIf, wpTg, wpTgs, optI, List.getElem?_cons_zero, List.getElem?_cons_succ, List.set_cons_succ, List.set_cons_zero, vTru, cmpS, vIsK, vLt, vLe, vGt, vGe, vOrd, DL.isNon, addE, subE, biS, rdS, rdL_new, Bool.not_true, Bool.not_false, if_true, if_false, Bool.false_eq_true, Bool.true_eq_false, reduceIte, true_and, and_true, decide_true, decide_false, vGet_0, vGet_1, slcT, addT])
        unfold bgn
        rw [if_pos hci]; simp
      · simp only [h45, decide_false, Bool.false_eq_true, if_false]
        refine wp_nil ⟨?_, rfl⟩
        unfold bgn
        rw [if_neg (by rw [hci]; intro z; cases z; exact h45 rfl)]
    · rintro ρ2 M2 ⟨rfl, rfl⟩
      refine ⟨M2, Sub.rfl', ?_⟩
      have hb' : bgn t i = if t[i]? = some 45 then i + 1 else i := rfl
      have hbl : bgn t i ≤ t.length ∧ i ≤ bgn t i := by unfold bgn; split <;> omega
      generalize hbb : bgn t i = b at hb' hbl
      have hlt : (i < b) ↔ t[i]? = some 45 := by
        rw [hb']
        split
        · rename_i z; simp [z]
        · rename_i z; simp [z]
      refine wp_cons ?_
      (try simp only [DL.wpS, DL.wpE, DL.wpA, wpT, wpTs, wpBo, DL.wpI, wpIf, wpTg, wpTgs, optI, List.getElem?_cons_zero, List.getElem?_cons_succ, List.set_cons_succ, List.set_cons_zero, vTru, cmpS, vIsK, vLt, vLe, vGt, vGe, vOrd, DL.isNon, addE, subE, biS, rdS, rdL_new, Bool.not_true, Bool.not_false, if_true, if_false, Bool.false_eq_true, Bool.true_eq_false, reduceIte, true_and, and_true, decide_true, decide_false, vGet_0, vGet_1, slcT, addT])
      refine wp_cut (fun ρ3 M3 => ∃ k : Nat, ρ3 = [some (.str t), some (.int ((b + k : Nat) : Int)), some (.int (i : Nat)), some (.int (b : Nat))] ∧ M3 = M2 ∧ ((t[b]? = some 48 ∧ t[i]? ≠ some 45 ∧ k = 1) ∨ (t[b]? ≠ some 48 ∧ k = nd t b))) ?_ ?_
      · unfold DL.wpS
        refine ⟨fun m ρ3 M3 => ∃ k : Nat, m = 40 - k ∧ k < 31 ∧ ρ3 = [some (.str t), some (.int ((b + k : Nat) : Int)), some (.int (i : Nat)), some (.int (b : Nat))] ∧ M3 = M2 ∧ k ≤ nd t b ∧ (t[b]? = some 48 → k ≤ 1 ∧ (k = 1 → t[i]? ≠ some 45)),
          ⟨40, 0, rfl, by decide, by simp, rfl, Nat.zero_le _, fun _ => ⟨by omega, fun z => by cases z⟩⟩, ?_⟩
        rintro m ρ3 M3 ⟨k, rfl, hk31, rfl, rfl, hk, h48⟩
        have out : k = nd t b → ∃ k' : Nat, [some (D.str t), some (.int ((b + k : Nat) : Int)), some (.int (i : Nat)), some (.int (b : Nat))] = [some (.str t), some (.int ((b + k' : Nat) : Int)), some (.int (i : Nat)), some (.int (b : Nat))] ∧ ((t[b]? = some 48 ∧ t[i]? ≠ some 45 ∧ k' = 1) ∨ (t[b]? ≠ some 48 ∧ k' = nd t b)) := fun e => by
          refine ⟨k, rfl, ?_⟩
          by_cases z : t[b]? = some 48
          · obtain ⟨a1, a2⟩ := h48 z
            have : k ≠ 0 := fun z0 => by
              subst z0
              rcases nd_eq (t := t) (b := b) with w | w
              · omega
              · rw [← e] at w; have := w 48 z; cases this
            exact .inl ⟨z, a2 (by omega), by omega⟩
          · exact .inr ⟨z, e⟩
        (try simp only [DL.wpS, DL.wpE, DL.wpA, wpT, wpTs, wpBo, DL.wpI, wpIf, wpTg, wpTgs, optI, List.getElem?_cons_zero, List.getElem?_cons_succ, List.set_cons_succ, List.set_cons_zero, vTru, cmpS, vIsK, vLt, vLe, vGt, vGe, vOrd, DL.isNon, addE, subE, biS, rdS, rdL_new, Bool.not_true, Bool.not_false, if_true, if_false, Bool.false_eq_true, Bool.true_eq_false, reduceIte, true_and, and_true, decide_true, decide_false, vGet_0, vGet_1, slcT, addT, hbig])
        cases hc : t[b + k]? with
        | none =>
          have hge := List.getElem?_eq_none_iff.mp hc
          have : ¬ (((b + k : Nat) : Int) < (t.length : Nat)) := by omega
          (try simp only [DL.wpS, DL.wpE, DL.wpA, wpT, wpTs, wpBo, DL.wpI, wpIf, wpTg, wpTgs, optI, List.getElem?_cons_zero, List.getElem?_cons_succ, List.set_cons_succ, List.set_cons_zero, vTru, cmpS, vIsK, vLt, vLe, vGt, vGe, vOrd, DL.isNon, addE, subE, biS, rdS, rdL_new, Bool.not_true, Bool.not_false, if_true, if_false, Bool.false_eq_true, Bool.true_eq_false, reduceIte, true_and, and_true, decide_true, decide_false, vGet_0, vGet_1, slcT, addT, this])
          exact out (nd_eq' hk (.inr fun c z => by rw [hc] at z; cases z))
        | some c =>
          have hltk := some_lt hc
          have : (((b + k : Nat) : Int) < (t.length : Nat)) := by omega
          (try simp only [DL.wpS, DL.wpE, DL.wpA, wpT, wpTs, wpBo, DL.wpI, wpIf, wpTg, wpTgs, optI, List.getElem?_cons_zero, List.getElem?_cons_succ, List.set_cons_succ, List.set_cons_zero, vTru, cmpS, vIsK, vLt, vLe, vGt, vGe, vOrd, DL.isNon, addE, subE, biS, rdS, rdL_new, Bool.not_true, Bool.not_false, if_true, if_false, Bool.false_eq_true, Bool.true_eq_false, reduceIte, true_and, and_true, decide_true, decide_false, vGet_0, vGet_1, slcT, addT, this, vGet_str hc hl, in_fig])
          cases hd : dig c with
          | false =>
            (try simp only [DL.wpS, DL.wpE, DL.wpA, wpT, wpTs, wpBo, DL.wpI, wpIf, wpTg, wpTgs, optI, List.getElem?_cons_zero, List.getElem?_cons_succ, List.set_cons_succ, List.set_cons_zero, vTru, cmpS, vIsK, vLt, vLe, vGt, vGe, vOrd, DL.isNon, addE, subE, biS, rdS, rdL_new, Bool.not_true, Bool.not_false, if_true, if_false, Bool.false_eq_true, Bool.true_eq_false, reduceIte, true_and, and_true, decide_true, decide_false, vGet_0, vGet_1, slcT, addT])
            exact out (nd_eq' hk (.inr fun c' z => by rw [hc] at z; cases z; exact hd))
          | true =>
            (try simp only [DL.wpS, DL.wpE, DL.wpA, wpT, wpTs, wpBo, DL.wpI, wpIf, wpTg, wpTgs, optI, List.getElem?_cons_zero, List.getElem?_cons_succ, List.set_cons_succ, List.set_cons_zero, vTru, cmpS, vIsK, vLt, vLe, vGt, vGe, vOrd, DL.isNon, addE, subE, biS, rdS, rdL_new, Bool.not_true, Bool.not_false, if_true, if_false, Bool.false_eq_true, Bool.true_eq_false, reduceIte, true_and, and_true, decide_true, decide_false, vGet_0, vGet_1, slcT, addT])
            by_cases h30 : ((b + k : Nat) : Int) - (b : Nat) < 30
            · (try simp only [DL.wpS, DL.wpE, DL.wpA, wpT, wpTs, wpBo, DL.wpI, wpIf, wpTg, wpTgs, optI, List.getElem?_cons_zero, List.getElem?_cons_succ, List.set_cons_succ, List.set_cons_zero, vTru, cmpS, vIsK, vLt, vLe, vGt, vGe, vOrd, DL.isNon, addE, subE, biS, rdS, rdL_new, Bool.not_true, Bool.not_false, if_true, if_false, Bool.false_eq_true, Bool.true_eq_false, reduceIte, true_and, and_true, decide_true, decide_false, vGet_0, vGet_1, slcT, addT, h30])
              have hkn : k < nd t b := by
                rcases Nat.lt_or_eq_of_le hk with z | z
                · exact z
                · exfalso
                  rcases nd_eq (t := t) (b := b) with w | w
                  · omega
                  · rw [← z] at w; rw [w c hc] at hd; cases hd
              obtain ⟨_, c0, e0, d0⟩ := nd_lt (t := t) (b := b) (k := 0) (by omega)
              rw [Nat.add_zero] at e0
              refine wp_cons ?_
              (try simp only [DL.wpS, DL.wpE, DL.wpA, wpT, wpTs, wpBo, DL.wpI, wpIf, wpTg, wpTgs, optI, List.getElem?_cons_zero, List.getElem?_cons_succ, List.set_cons_succ, List.set_cons_zero, vTru, cmpS, vIsK, vLt, vLe, vGt, vGe, vOrd, DL.isNon, addE, subE, biS, rdS, rdL_new, Bool.not_true, Bool.not_false, if_true, if_false, Bool.false_eq_true, Bool.true_eq_false, reduceIte, true_and, and_true, decide_true, decide_false, vGet_0, vGet_1, slcT, addT, vEqK])
              by_cases hk1 : k = 1
              · subst hk1
                have e1 : (((b + 1 : Nat) : Int) = (b : Nat) + 1) := by omega
                simp only [e1, decide_true, if_true]
                (try simp only [DL.wpS, DL.wpE, DL.wpA, wpT, wpTs, wpBo, DL.wpI, wpIf, wpTg, wpTgs, optI, List.getElem?_cons_zero, List.getElem?_cons_succ, List.set_cons_succ, List.set_cons_zero, vTru, cmpS, vIsK, vLt, vLe, vGt, vGe, vOrd, DL.isNon, addE, subE, biS, rdS, rdL_new, Bool.not_true, Bool.not_false, if_true, if_false, Bool.false_eq_true, Bool.true_eq_false, reduceIte, true_and, and_true, decide_true, decide_false, vGet_0, vGet_1, slcT, addT, vGet_str e0 hl, vEq_s1])
                by_cases hz : c0 = 48
                · subst hz
                  obtain ⟨a1, a2⟩ := h48 e0
                  have n45 := a2 rfl
                  have hbi : b = i := by rw [hb', if_neg n45]
                  (try simp only [DL.wpS, DL.wpE, DL.wpA, wpT, wpTs, wpBo, DL.wpI, wpIf, wpTg, wpTgs, optI, List.getElem?_cons_zero, List.getElem?_cons_succ, List.set_cons_succ, List.set_cons_zero, vTru, cmpS, vIsK, vLt, vLe, vGt, vGe, vOrd, DL.isNon, addE, subE, biS, rdS, rdL_new, Bool.not_true, Bool.not_false, if_true, if_false, Bool.false_eq_true, Bool.true_eq_false, reduceIte, true_and, and_true, decide_true, decide_false, vGet_0, vGet_1, slcT, addT])
                  refine wp_last ?_
                  have hcut : cut t (some ((i : Nat) : Int)) (some (((b : Nat) : Int) + 1)) = sl t i (i + 1) := by
                    rw [show (((b : Nat) : Int) + 1) = ((i + 1 : Nat) : Int) by omega]
                    exact cut_sl (by omega) (by omega)
                  (try simp only [DL.wpS, DL.wpE, DL.wpA, wpT, wpTs, wpBo, DL.wpI, wpIf, wpTg, wpTgs, optI, List.getElem?_cons_zero, List.getElem?_cons_succ, List.set_cons_succ, List.set_cons_zero, vTru, cmpS, vIsK, vLt, vLe, vGt, vGe, vOrd, DL.isNon, addE, subE, biS, rdS, rdL_new, Bool.not_true, Bool.not_false, if_true, if_false, Bool.false_eq_true, Bool.true_eq_false, reduceIte, true_and, and_true, decide_true, decide_false, vGet_0, vGet_1, slcT, addT, vSlc, hcut, hbig])
                  have hs : sl t i (i + 1) = [48] := by
                    rw [sl_cons (by rw [← hbi]; exact e0) (by omega)]
                    have : sl t (i + 1) (i + 1) = [] := by unfold sl; simp
                    rw [this]
                  have hiv := iv_dig (l := [48]) (by simp) (by simp) (by simp)
                  (try simp only [DL.wpS, DL.wpE, DL.wpA, wpT, wpTs, wpBo, DL.wpI, wpIf, wpTg, wpTgs, optI, List.getElem?_cons_zero, List.getElem?_cons_succ, List.set_cons_succ, List.set_cons_zero, vTru, cmpS, vIsK, vLt, vLe, vGt, vGe, vOrd, DL.isNon, addE, subE, biS, rdS, rdL_new, Bool.not_true, Bool.not_false, if_true, if_false, Bool.false_eq_true, Bool.true_eq_false, reduceIte, true_and, and_true, decide_true, decide_false, vGet_0, vGet_1, slcT, addT, hs, hiv])
                  refine ⟨by decide, done (o := .ok (.int (iv [48])) (i + 1)) ?_ ?_⟩
                  · unfold intO
                    rw [hbb, if_pos e0, if_neg n45, hs]
                  · simp only [enc]
                    rw [show (((i + 1 : Nat)) : Int) = (b : Nat) + 1 by omega]
                · simp only [hz, decide_false, Bool.false_eq_true, if_false]
                  refine wp_nil ?_
                  refine wp_cons ?_
                  have e2 : ¬ (((b : Nat) : Int) + 1 = (b : Nat)) := by omega
                  (try simp only [DL.wpS, DL.wpE, DL.wpA, wpT, wpTs, wpBo, DL.wpI, wpIf, wpTg, wpTgs, optI, List.getElem?_cons_zero, List.getElem?_cons_succ, List.set_cons_succ, List.set_cons_zero, vTru, cmpS, vIsK, vLt, vLe, vGt, vGe, vOrd, DL.isNon, addE, subE, biS, rdS, rdL_new, Bool.not_true, Bool.not_false, if_true, if_false, Bool.false_eq_true, Bool.true_eq_false, reduceIte, true_and, and_true, decide_true, decide_false, vGet_0, vGet_1, slcT, addT, vEqK, e2])
                  refine wp_nil ?_
                  refine wp_last ?_
                  (try simp only [DL.wpS, DL.wpE, DL.wpA, wpT, wpTs, wpBo, DL.wpI, wpIf, wpTg, wpTgs, optI, List.getElem?_cons_zero, List.getElem?_cons_succ, List.set_cons_succ, List.set_cons_zero, vTru, cmpS, vIsK, vLt, vLe, vGt, vGe, vOrd, DL.isNon, addE, subE, biS, rdS, rdL_new, Bool.not_true, Bool.not_false, if_true, if_false, Bool.false_eq_true, Bool.true_eq_false, reduceIte, true_and, and_true, decide_true, decide_false, vGet_0, vGet_1, slcT, addT])
                  refine ⟨40 - 2, M3, by omega, Sub.rfl', 2, rfl, by decide, ?_, rfl, by omega, fun z => by rw [e0] at z; cases z; exact absurd rfl hz⟩
                  have : (((b : Nat) : Int) + 1 + 1) = ((b + 2 : Nat) : Int) := by omega
                  rw [this]
              · have e1 : ¬ (((b + k : Nat) : Int) = (b : Nat) + 1) := by omega
                simp only [e1, decide_false, Bool.false_eq_true, if_false]
                refine wp_nil ?_
                refine wp_cons ?_
                (try simp only [DL.wpS, DL.wpE, DL.wpA, wpT, wpTs, wpBo, DL.wpI, wpIf, wpTg, wpTgs, optI, List.getElem?_cons_zero, List.getElem?_cons_succ, List.set_cons_succ, List.set_cons_zero, vTru, cmpS, vIsK, vLt, vLe, vGt, vGe, vOrd, DL.isNon, addE, subE, biS, rdS, rdL_new, Bool.not_true, Bool.not_false, if_true, if_false, Bool.false_eq_true, Bool.true_eq_false, reduceIte, true_and, and_true, decide_true, decide_false, vGet_0, vGet_1, slcT, addT, vEqK])
                by_cases hk0 : k = 0
                · subst hk0
                  rw [Nat.add_zero] at hc
                  simp only [Nat.add_zero, decide_true, if_true]
                  (try simp only [DL.wpS, DL.wpE, DL.wpA, wpT, wpTs, wpBo, DL.wpI, wpIf, wpTg, wpTgs, optI, List.getElem?_cons_zero, List.getElem?_cons_succ, List.set_cons_succ, List.set_cons_zero, vTru, cmpS, vIsK, vLt, vLe, vGt, vGe, vOrd, DL.isNon, addE, subE, biS, rdS, rdL_new, Bool.not_true, Bool.not_false, if_true, if_false, Bool.false_eq_true, Bool.true_eq_false, reduceIte, true_and, and_true, decide_true, decide_false, vGet_0, vGet_1, slcT, addT, vGet_str hc hl, vEq_s1])
                  rw [hc] at e0
                  cases e0
                  by_cases hz : c = 48
                  · subst hz
                    (try simp only [DL.wpS, DL.wpE, DL.wpA, wpT, wpTs, wpBo, DL.wpI, wpIf, wpTg, wpTgs, optI, List.getElem?_cons_zero, List.getElem?_cons_succ, List.set_cons_succ, List.set_cons_zero, vTru, cmpS, vIsK, vLt, vLe, vGt, vGe, vOrd, DL.isNon, addE, subE, biS, rdS, rdL_new, Bool.not_true, Bool.not_false, if_true, if_false, Bool.false_eq_true, Bool.true_eq_false, reduceIte, true_and, and_true, decide_true, decide_false, vGet_0, vGet_1, slcT, addT])
                    by_cases h45 : t[i]? = some 45
                    · have : ((i : Nat) : Int) < (b : Nat) := by have := hlt.mpr h45; omega
                      (try simp only [DL.wpS, DL.wpE, DL.wpA, wpT, wpTs, wpBo, DL.wpI, wpIf, wpTg, wpTgs, optI, List.getElem?_cons_zero, List.getElem?_cons_succ, List.set_cons_succ, List.set_cons_zero, vTru, cmpS, vIsK, vLt, vLe, vGt, vGe, vOrd, DL.isNon, addE, subE, biS, rdS, rdL_new, Bool.not_true, Bool.not_false, if_true, if_false, Bool.false_eq_true, Bool.true_eq_false, reduceIte, true_and, and_true, decide_true, decide_false, vGet_0, vGet_1, slcT, addT, this])
                      refine wp_last ?_
                      (try simp only [DL.wpS, DL.wpE, DL.wpA, wpT, wpTs, wpBo, DL.wpI, wpIf, wpTg, wpTgs, optI, List.getElem?_cons_zero, List.getElem?_cons_succ, List.set_cons_succ, List.set_cons_zero, vTru, cmpS, vIsK, vLt, vLe, vGt, vGe, vOrd, DL.isNon, addE, subE, biS, rdS, rdL_new, Bool.not_true, Bool.not_false, if_true, if_false, Bool.false_eq_true, Bool.true_eq_false, reduceIte, true_and, and_true, decide_true, decide_false, vGet_0, vGet_1, slcT, addT])
                      refine done (o := .bad b) ?_ rfl
                      unfold intO
                      rw [hbb, if_pos hc, if_pos h45]
                    · have : ¬ ((i : Nat) : Int) < (b : Nat) := by
                        intro z; exact h45 (hlt.mp (by omega))
                      (try simp only [DL.wpS, DL.wpE, DL.wpA, wpT, wpTs, wpBo, DL.wpI, wpIf, wpTg, wpTgs, optI, List.getElem?_cons_zero, List.getElem?_cons_succ, List.set_cons_succ, List.set_cons_zero, vTru, cmpS, vIsK, vLt, vLe, vGt, vGe, vOrd, DL.isNon, addE, subE, biS, rdS, rdL_new, Bool.not_true, Bool.not_false, if_true, if_false, Bool.false_eq_true, Bool.true_eq_false, reduceIte, true_and, and_true, decide_true, decide_false, vGet_0, vGet_1, slcT, addT, this])
                      refine wp_nil ?_
                      refine wp_last ?_
                      (try simp only [DL.wpS, DL.wpE, DL.wpA, wpT, wpTs, wpBo, DL.wpI, wpIf, wpTg, wpTgs, optI, List.getElem?_cons_zero, List.getElem?_cons_succ, List.set_cons_succ, List.set_cons_zero, vTru, cmpS, vIsK, vLt, vLe, vGt, vGe, vOrd, DL.isNon, addE, subE, biS, rdS, rdL_new, Bool.not_true, Bool.not_false, if_true, if_false, Bool.false_eq_true, Bool.true_eq_false, reduceIte, true_and, and_true, decide_true, decide_false, vGet_0, vGet_1, slcT, addT])
                      refine ⟨40 - 1, M3, by omega, Sub.rfl', 1, rfl, by decide, ?_, rfl, by omega, fun z => ⟨Nat.le_refl _, fun _ => h45⟩⟩
                      simp
                  · simp only [hz, decide_false, Bool.false_eq_true, if_false]
                    refine wp_nil ?_
                    refine wp_last ?_
                    (try simp only [DL.wpS, DL.wpE, DL.wpA, wpT, wpTs, wpBo, DL.wpI, wpIf, wpTg, wpTgs, optI, List.getElem?_cons_zero, List.getElem?_cons_succ, List.set_cons_succ, List.set_cons_zero, vTru, cmpS, vIsK, vLt, vLe, vGt, vGe, vOrd, DL.isNon, addE, subE, biS, rdS, rdL_new, Bool.not_true, Bool.not_false, if_true, if_false, Bool.false_eq_true, Bool.true_eq_false, reduceIte, true_and, and_true, decide_true, decide_false, vGet_0, vGet_1, slcT, addT])
                    refine ⟨40 - 1, M3, by omega, Sub.rfl', 1, rfl, by decide, ?_, rfl, by omega, fun z => by rw [hc] at z; cases z; exact absurd rfl hz⟩
                    simp
                · have e2 : ¬ (((b + k : Nat) : Int) = (b : Nat)) := by omega
                  simp only [e2, decide_false, Bool.false_eq_true, if_false]
                  refine wp_nil ?_
                  refine wp_last ?_
                  (try simp only [DL.wpS, DL.wpE, DL.wpA, wpT, wpTs, wpBo, DL.wpI, wpIf, wpTg, wpTgs, optI, List.getElem?_cons_zero, List.getElem?_cons_succ, List.set_cons_succ, List.set_cons_zero, vTru, cmpS, vIsK, vLt, vLe, vGt, vGe, vOrd, DL.isNon, addE, subE, biS, rdS, rdL_new, Bool.not_true, Bool.not_false, if_true, if_false, Bool.false_eq_true, Bool.true_eq_false, reduceIte, true_and, and_true, decide_true, decide_false, vGet_0, vGet_1, slcT, addT])
                  have hk29 := (nd_lt hkn).1
                  refine ⟨40 - (k + 1), M3, by omega, Sub.rfl', k + 1, rfl, by omega, ?_, rfl, by omega, fun z => by have := h48 z; omega⟩
                  have : (((b + k : Nat) : Int) + 1) = ((b + (k + 1) : Nat) : Int) := by omega
                  rw [this]
            · (try simp only [DL.wpS, DL.wpE, DL.wpA, wpT, wpTs, wpBo, DL.wpI, wpIf, wpTg, wpTgs, optI, List.getElem?_cons_zero, List.getElem?_cons_succ, List.set_cons_succ, List.set_cons_zero, vTru, cmpS, vIsK, vLt, vLe, vGt, vGe, vOrd, DL.isNon, addE, subE, biS, rdS, rdL_new, Bool.not_true, Bool.not_false, if_true, if_false, Bool.false_eq_true, Bool.true_eq_false, reduceIte, true_and, and_true, decide_true, decide_false, vGet_0, vGet_1, slcT, addT, h30])
              have hn30 : nd t b ≤ 30 := nd30
              exact out (nd_eq' hk (.inl (by omega)))
      · rintro ρ3 M3 ⟨k, rfl, rfl, hcase⟩
        refine ⟨M3, Sub.rfl', ?_⟩
        refine wp_cons ?_
        (try simp only [DL.wpS, DL.wpE, DL.wpA, wpT, wpTs, wpBo, DL.wpI, wpIf, wpTg, wpTgs, optI, List.getElem?_cons_zero, List.getElem?_cons_succ, List.set_cons_succ, List.set_cons_zero, vTru, cmpS, vIsK, vLt, vLe, vGt, vGe, vOrd, DL.isNon, addE, subE, biS, rdS, rdL_new, Bool.not_true, Bool.not_false, if_true, if_false, Bool.false_eq_true, Bool.true_eq_false, reduceIte, true_and, and_true, decide_true, decide_false, vGet_0, vGet_1, slcT, addT, vEqK])
        by_cases hk0 : k = 0
        · subst hk0
          simp only [Nat.add_zero, decide_true, if_true]
          refine wp_last ?_
          (try simp only [DL.wpS, DL.wpE, DL.wpA, wpT, wpTs, wpBo, DL.wpI, wpIf, wpTg, wpTgs, optI, List.getElem?_cons_zero, List.getElem?_cons_succ, List.set_cons_succ, List.set_cons_zero, vTru, cmpS, vIsK, vLt, vLe, vGt, vGe, vOrd, DL.isNon, addE, subE, biS, rdS, rdL_new, Bool.not_true, Bool.not_false, if_true, if_false, Bool.false_eq_true, Bool.true_eq_false, reduceIte, true_and, and_true, decide_true, decide_false, vGet_0, vGet_1, slcT, addT])
          rcases hcase with ⟨_, _, z⟩ | ⟨n48, hn⟩
          · cases z
          · refine done (o := .bad b) ?_ rfl
            unfold intO
            rw [hbb, if_neg n48, if_pos hn.symm]
        · have e2 : ¬ (((b + k : Nat) : Int) = (b : Nat)) := by omega
          simp only [e2, decide_false, Bool.false_eq_true, if_false]
          refine wp_nil ?_
          refine wp_last ?_
          have hkl : b + k ≤ t.length := by
            rcases hcase with ⟨z, _, rfl⟩ | ⟨_, rfl⟩
            · have := some_lt z; omega
            · exact nd_le hbl.1
          (try simp only [DL.wpS, DL.wpE, DL.wpA, wpT, wpTs, wpBo, DL.wpI, wpIf, wpTg, wpTgs, optI, List.getElem?_cons_zero, List.getElem?_cons_succ, List.set_cons_succ, List.set_cons_zero, vTru, cmpS, vIsK, vLt, vLe, vGt, vGe, vOrd, DL.isNon, addE, subE, biS, rdS, rdL_new, Bool.not_true, Bool.not_false, if_true, if_false, Bool.false_eq_true, Bool.true_eq_false, reduceIte, true_and, and_true, decide_true, decide_false, vGet_0, vGet_1, slcT, addT, vSlc, cut_sl hkl (show i ≤ b + k by omega), hbig])
          rcases hcase with ⟨e48, n45, rfl⟩ | ⟨n48, rfl⟩
          · have hbi : b = i := by rw [hb', if_neg n45]
            have hs : sl t i (b + 1) = [48] := by
              rw [hbi, sl_cons (by rw [← hbi]; exact e48) (by omega)]
              have : sl t (i + 1) (i + 1) = [] := by unfold sl; simp
              rw [this]
            have hiv := iv_dig (l := [48]) (by simp) (by simp) (by simp)
            (try simp only [DL.wpS, DL.wpE, DL.wpA, wpT, wpTs, wpBo, DL.wpI, wpIf, wpTg, wpTgs, optI, List.getElem?_cons_zero, List.getElem?_cons_succ, List.set_cons_succ, List.set_cons_zero, vTru, cmpS, vIsK, vLt, vLe, vGt, vGe, vOrd, DL.isNon, addE, subE, biS, rdS, rdL_new, Bool.not_true, Bool.not_false, if_true, if_false, Bool.false_eq_true, Bool.true_eq_false, reduceIte, true_and, and_true, decide_true, decide_false, vGet_0, vGet_1, slcT, addT, hs, hiv])
            refine ⟨by decide, done (o := .ok (.int (iv [48])) (i + 1)) ?_ ?_⟩
            · unfold intO
              rw [hbb, if_pos e48, if_neg n45, ← hs, hbi]
            · simp only [enc, hbi]
          · have hsl := sl_len (t := t) (i := b) (j := b + nd t b) hkl (by omega)
            have hdig := sl_dig (t := t) (b := b) (k := nd t b) (Nat.le_refl _)
            have hn30 : nd t b ≤ 30 := nd30
            have hne : sl t b (b + nd t b) ≠ [] := fun z => by rw [z] at hsl; simp at hsl; omega
            by_cases h45 : t[i]? = some 45
            · have hbi : b = i + 1 := by rw [hb', if_pos h45]
              have hs : sl t i (b + nd t b) = 45 :: sl t b (b + nd t b) := by rw [sl_cons h45 (by omega), ← hbi]
              have hiv := iv_dneg hdig hne (by omega)
              (try simp only [DL.wpS, DL.wpE, DL.wpA, wpT, wpTs, wpBo, DL.wpI, wpIf, wpTg, wpTgs, optI, List.getElem?_cons_zero, List.getElem?_cons_succ, List.set_cons_succ, List.set_cons_zero, vTru, cmpS, vIsK, vLt, vLe, vGt, vGe, vOrd, DL.isNon, addE, subE, biS, rdS, rdL_new, Bool.not_true, Bool.not_false, if_true, if_false, Bool.false_eq_true, Bool.true_eq_false, reduceIte, true_and, and_true, decide_true, decide_false, vGet_0, vGet_1, slcT, addT, hs, hiv])
              refine ⟨by rw [List.length_cons]; omega, done (o := .ok (.int (iv (45 :: sl t b (b + nd t b)))) (b + nd t b)) ?_ rfl⟩
              unfold intO
              rw [hbb, if_neg n48, if_neg hk0, hs]
            · have hbi : b = i := by rw [hb', if_neg h45]
              have hs : sl t i (b + nd t b) = sl t b (b + nd t b) := by rw [hbi]
              have hiv := iv_dig hdig hne (by omega)
              (try simp only [DL.wpS, DL.wpE, DL.wpA, wpT, wpTs, wpBo, DL.wpI, wpIf, wpTg, wpTgs, optI, List.getElem?_cons_zero, List.getElem?_cons_succ, List.set_cons_succ, List.set_cons_zero, vTru, cmpS, vIsK, vLt, vLe, vGt, vGe, vOrd, DL.isNon, addE, subE, biS, rdS, rdL_new, Bool.not_true, Bool.not_false, if_true, if_false, Bool.false_eq_true, Bool.true_eq_false, reduceIte, true_and, and_true, decide_true, decide_false, vGet_0, vGet_1, slcT, addT, hs, hiv])
              refine ⟨by omega, done (o := .ok (.int (iv (sl t b (b + nd t b)))) (b + nd t b)) ?_ rfl⟩
              unfold intO
              rw [hbb, if_neg n48, if_neg hk0, hs]
  · exact h.elim
end H54
set_option Elab.async false
set_option linter.all false
set_option maxRecDepth 100000
set_option maxHeartbeats 1000000
namespace H54
open PySem PySem.Spec PyProof.Rows L2 DL TX
def sp_fw (j : Nat) : SpD := fun ds M Q _ => match ds with
  | [.str t, .int i, .int d] => ∃ i' d' : Nat, i = i' ∧ d = d' ∧ i' ≤ t.length ∧ t.length ≤ 10000000 ∧ d' ≤ 30 ∧ 30 < d' + j ∧ ∀ o, Rd t .fw d' i' o → Q (enc o) M
  | _ => False
def sp_rt (j : Nat) : SpD := fun ds M Q _ => match ds with
  | [.str t, .int i, .int d] => ∃ i' d' : Nat, i = i' ∧ d = d' ∧ i' ≤ t.length ∧ t.length ≤ 10000000 ∧ d' ≤ 30 ∧ 30 < d' + j ∧ (t[i']? = some 41 → Q (enc (.ok (.tup []) (i' + 1))) M) ∧ (t[i']? ≠ some 41 → ∀ o, Rd t (.it []) d' i' o → Q (enc o) M)
  | _ => False
theorem no_fw : ∀ ds M Q E, sp_fw 0 ds M Q E → False := fun ds M Q E h => by
  unfold sp_fw at h
  split at h
  · obtain ⟨_, _, _, _, _, _, _, _, _⟩ := h; omega
  · exact h
theorem h__law_first_wrong (k1 k2 k3 j : Nat) : ∀ ds M Q0 E0, sp_fw (j + 1) ds M Q0 E0 → ds.length = 3 ∧ wpSs ⟨[C__law_read_string k1 sp_rs, C__law_read_tuple k2 (sp_rt j), C__law_read_integer k3 sp_ri], sub, fdOf cf⟩ (wF E0) none m__law_first_wrong (endsF Q0) (startD N__law_first_wrong.length ds) M := by
  intro ds M Q0 E0 h
  unfold sp_fw at h
  split at h
  · rename_i t i0 d0
    obtain ⟨i, d, rfl, rfl, hi, hl, hd, hdj, hq⟩ := h
    have done : ∀ {o : Out} {x : D}, Rd t .fw d i o → enc o = x → (endsF Q0).rt x M := fun ho e => rt_of (by rw [← e]; exact hq _ ho) Sub.rfl'
    have hbig : t.length ≤ big := by unfold big; omega
    refine ⟨rfl, ?_⟩
    unfold m__law_first_wrong
    refine wp_cons ?_
    show DL.wpS _ _ _ _ _ [some (.str t), some (.int (i : Nat)), some (.int (d : Nat)), none] M
    (try simp only [DL.wpS, DL.wpE, DL.wpA, wpT, wpTs, wpBo, DL.wpI, wpIf, wpTg, wpTgs, optI, List.getElem?_cons_zero, List.getElem?_cons_succ, List.set_cons_succ, List.set_cons_zero, vTru, cmpS, vIsK, vLt, vLe, vGt, vGe, vOrd, DL.isNon, addE, subE, biS, rdS, rdL_new, Bool.not_true, Bool.not_false, if_true, if_false, Bool.false_eq_true, Bool.true_eq_false, reduceIte, true_and, and_true, decide_true, decide_false, vGet_0, vGet_1, slcT, addT, hbig])
    cases hc : t[i]? with
    | none =>
      have hge := List.getElem?_eq_none_iff.mp hc
      have : ((t.length : Nat) : Int) ≤ (i : Nat) := by omega
      (try simp only [DL.wpS, DL.wpE, DL.wpA, wpT, wpTs, wpBo, DL.wpI, wpIf, wpTg, wpTgs, optI, List.getElem?_cons_zero, List.getElem?_cons_succ, List.set_cons_succ, List.set_cons_zero, vTru, cmpS, vIsK, vLt, vLe, vGt, vGe, vOrd, DL.isNon, addE, subE, biS, rdS, rdL_new, Bool.not_true, Bool.not_false, if_true, if_false, Bool.false_eq_true, Bool.true_eq_false, reduceIte, true_and, and_true, decide_true, decide_false, vGet_0, vGet_1, slcT, addT, this])
      refine wp_last ?_
      (try simp only [DL.wpS, DL.wpE, DL.wpA, wpT, wpTs, wpBo, DL.wpI, wpIf, wpTg, wpTgs, optI, List.getElem?_cons_zero, List.getElem?_cons_succ, List.set_cons_succ, List.set_cons_zero, vTru, cmpS, vIsK, vLt, vLe, vGt, vGe, vOrd, DL.isNon, addE, subE, biS, rdS, rdL_new, Bool.not_true, Bool.not_false, if_true, if_false, Bool.false_eq_true, Bool.true_eq_false, reduceIte, true_and, and_true, decide_true, decide_false, vGet_0, vGet_1, slcT, addT])
      exact done (.eof hc) rfl
    | some c =>
      have hlt := some_lt hc
      have : ¬ ((t.length : Nat) : Int) ≤ (i : Nat) := by omega
      (try simp only [DL.wpS, DL.wpE, DL.wpA, wpT, wpTs, wpBo, DL.wpI, wpIf, wpTg, wpTgs, optI, List.getElem?_cons_zero, List.getElem?_cons_succ, List.set_cons_succ, List.set_cons_zero, vTru, cmpS, vIsK, vLt, vLe, vGt, vGe, vOrd, DL.isNon, addE, subE, biS, rdS, rdL_new, Bool.not_true, Bool.not_false, if_true, if_false, Bool.false_eq_true, Bool.true_eq_false, reduceIte, true_and, and_true, decide_true, decide_false, vGet_0, vGet_1, slcT, addT, this])
      refine wp_nil ?_
      refine wp_cons ?_
      (try simp only [DL.wpS, DL.wpE, DL.wpA, wpT, wpTs, wpBo, DL.wpI, wpIf, wpTg, wpTgs, optI, List.getElem?_cons_zero, List.getElem?_cons_succ, List.set_cons_succ, List.set_cons_zero, vTru, cmpS, vIsK, vLt, vLe, vGt, vGe, vOrd, DL.isNon, addE, subE, biS, rdS, rdL_new, Bool.not_true, Bool.not_false, if_true, if_false, Bool.false_eq_true, Bool.true_eq_false, reduceIte, true_and, and_true, decide_true, decide_false, vGet_0, vGet_1, slcT, addT, vGet_str hc hl])
      refine wp_cons ?_
      (try simp only [DL.wpS, DL.wpE, DL.wpA, wpT, wpTs, wpBo, DL.wpI, wpIf, wpTg, wpTgs, optI, List.getElem?_cons_zero, List.getElem?_cons_succ, List.set_cons_succ, List.set_cons_zero, vTru, cmpS, vIsK, vLt, vLe, vGt, vGe, vOrd, DL.isNon, addE, subE, biS, rdS, rdL_new, Bool.not_true, Bool.not_false, if_true, if_false, Bool.false_eq_true, Bool.true_eq_false, reduceIte, true_and, and_true, decide_true, decide_false, vGet_0, vGet_1, slcT, addT, vEq_s1])
      by_cases h46 : c = 46
      · subst h46
        (try simp only [DL.wpS, DL.wpE, DL.wpA, wpT, wpTs, wpBo, DL.wpI, wpIf, wpTg, wpTgs, optI, List.getElem?_cons_zero, List.getElem?_cons_succ, List.set_cons_succ, List.set_cons_zero, vTru, cmpS, vIsK, vLt, vLe, vGt, vGe, vOrd, DL.isNon, addE, subE, biS, rdS, rdL_new, Bool.not_true, Bool.not_false, if_true, if_false, Bool.false_eq_true, Bool.true_eq_false, reduceIte, true_and, and_true, decide_true, decide_false, vGet_0, vGet_1, slcT, addT])
        refine wp_last ?_
        (try simp only [DL.wpS, DL.wpE, DL.wpA, wpT, wpTs, wpBo, DL.wpI, wpIf, wpTg, wpTgs, optI, List.getElem?_cons_zero, List.getElem?_cons_succ, List.set_cons_succ, List.set_cons_zero, vTru, cmpS, vIsK, vLt, vLe, vGt, vGe, vOrd, DL.isNon, addE, subE, biS, rdS, rdL_new, Bool.not_true, Bool.not_false, if_true, if_false, Bool.false_eq_true, Bool.true_eq_false, reduceIte, true_and, and_true, decide_true, decide_false, vGet_0, vGet_1, slcT, addT])
        exact done (.dot hc) (by simp [enc])
      · simp only [h46, decide_false, Bool.false_eq_true, if_false]
        refine wp_nil ?_
        refine wp_cons ?_
        (try simp only [DL.wpS, DL.wpE, DL.wpA, wpT, wpTs, wpBo, DL.wpI, wpIf, wpTg, wpTgs, optI, List.getElem?_cons_zero, List.getElem?_cons_succ, List.set_cons_succ, List.set_cons_zero, vTru, cmpS, vIsK, vLt, vLe, vGt, vGe, vOrd, DL.isNon, addE, subE, biS, rdS, rdL_new, Bool.not_true, Bool.not_false, if_true, if_false, Bool.false_eq_true, Bool.true_eq_false, reduceIte, true_and, and_true, decide_true, decide_false, vGet_0, vGet_1, slcT, addT, vEq_s1])
        by_cases h39 : c = 39
        · subst h39
          (try simp only [DL.wpS, DL.wpE, DL.wpA, wpT, wpTs, wpBo, DL.wpI, wpIf, wpTg, wpTgs, optI, List.getElem?_cons_zero, List.getElem?_cons_succ, List.set_cons_succ, List.set_cons_zero, vTru, cmpS, vIsK, vLt, vLe, vGt, vGe, vOrd, DL.isNon, addE, subE, biS, rdS, rdL_new, Bool.not_true, Bool.not_false, if_true, if_false, Bool.false_eq_true, Bool.true_eq_false, reduceIte, true_and, and_true, decide_true, decide_false, vGet_0, vGet_1, slcT, addT])
          refine wp_last ?_
          (try simp only [DL.wpS, DL.wpE, DL.wpA, wpT, wpTs, wpBo, DL.wpI, wpIf, wpTg, wpTgs, optI, List.getElem?_cons_zero, List.getElem?_cons_succ, List.set_cons_succ, List.set_cons_zero, vTru, cmpS, vIsK, vLt, vLe, vGt, vGe, vOrd, DL.isNon, addE, subE, biS, rdS, rdL_new, Bool.not_true, Bool.not_false, if_true, if_false, Bool.false_eq_true, Bool.true_eq_false, reduceIte, true_and, and_true, decide_true, decide_false, vGet_0, vGet_1, slcT, addT])
          exact ⟨i + 1, by simp, by omega, hl, fun o ho => done (.str hc ho) rfl⟩
        · simp only [h39, decide_false, Bool.false_eq_true, if_false]
          refine wp_nil ?_
          refine wp_cons ?_
          (try simp only [DL.wpS, DL.wpE, DL.wpA, wpT, wpTs, wpBo, DL.wpI, wpIf, wpTg, wpTgs, optI, List.getElem?_cons_zero, List.getElem?_cons_succ, List.set_cons_succ, List.set_cons_zero, vTru, cmpS, vIsK, vLt, vLe, vGt, vGe, vOrd, DL.isNon, addE, subE, biS, rdS, rdL_new, Bool.not_true, Bool.not_false, if_true, if_false, Bool.false_eq_true, Bool.true_eq_false, reduceIte, true_and, and_true, decide_true, decide_false, vGet_0, vGet_1, slcT, addT, vEq_s1])
          by_cases h40 : c = 40
          · subst h40
            (try simp only [DL.wpS, DL.wpE, DL.wpA, wpT, wpTs, wpBo, DL.wpI, wpIf, wpTg, wpTgs, optI, List.getElem?_cons_zero, List.getElem?_cons_succ, List.set_cons_succ, List.set_cons_zero, vTru, cmpS, vIsK, vLt, vLe, vGt, vGe, vOrd, DL.isNon, addE, subE, biS, rdS, rdL_new, Bool.not_true, Bool.not_false, if_true, if_false, Bool.false_eq_true, Bool.true_eq_false, reduceIte, true_and, and_true, decide_true, decide_false, vGet_0, vGet_1, slcT, addT])
            refine wp_last ?_
            (try simp only [DL.wpS, DL.wpE, DL.wpA, wpT, wpTs, wpBo, DL.wpI, wpIf, wpTg, wpTgs, optI, List.getElem?_cons_zero, List.getElem?_cons_succ, List.set_cons_succ, List.set_cons_zero, vTru, cmpS, vIsK, vLt, vLe, vGt, vGe, vOrd, DL.isNon, addE, subE, biS, rdS, rdL_new, Bool.not_true, Bool.not_false, if_true, if_false, Bool.false_eq_true, Bool.true_eq_false, reduceIte, true_and, and_true, decide_true, decide_false, vGet_0, vGet_1, slcT, addT])
            by_cases h30 : d < 30
            · have : ((d : Nat) : Int) < 30 := by omega
              (try simp only [DL.wpS, DL.wpE, DL.wpA, wpT, wpTs, wpBo, DL.wpI, wpIf, wpTg, wpTgs, optI, List.getElem?_cons_zero, List.getElem?_cons_succ, List.set_cons_succ, List.set_cons_zero, vTru, cmpS, vIsK, vLt, vLe, vGt, vGe, vOrd, DL.isNon, addE, subE, biS, rdS, rdL_new, Bool.not_true, Bool.not_false, if_true, if_false, Bool.false_eq_true, Bool.true_eq_false, reduceIte, true_and, and_true, decide_true, decide_false, vGet_0, vGet_1, slcT, addT, this])
              refine ⟨i + 1, d + 1, by simp, by simp, by omega, hl, by omega, by omega, fun h41 => done (.tup0 hc h30 h41) ?_, fun n41 o ho => done (.tup hc h30 n41 ho) rfl⟩
              simp [enc] <;> omega
            · have : ¬ ((d : Nat) : Int) < 30 := by omega
              (try simp only [DL.wpS, DL.wpE, DL.wpA, wpT, wpTs, wpBo, DL.wpI, wpIf, wpTg, wpTgs, optI, List.getElem?_cons_zero, List.getElem?_cons_succ, List.set_cons_succ, List.set_cons_zero, vTru, cmpS, vIsK, vLt, vLe, vGt, vGe, vOrd, DL.isNon, addE, subE, biS, rdS, rdL_new, Bool.not_true, Bool.not_false, if_true, if_false, Bool.false_eq_true, Bool.true_eq_false, reduceIte, true_and, and_true, decide_true, decide_false, vGet_0, vGet_1, slcT, addT, this])
              exact done (.deep hc h30) rfl
          · simp only [h40, decide_false, Bool.false_eq_true, if_false]
            refine wp_nil ?_
            refine wp_last ?_
            (try simp only [DL.wpS, DL.wpE, DL.wpA, wpT, wpTs, wpBo, DL.wpI, wpIf, wpTg, wpTgs, optI, List.getElem?_cons_zero, List.getElem?_cons_succ, List.set_cons_succ, List.set_cons_zero, vTru, cmpS, vIsK, vLt, vLe, vGt, vGe, vOrd, DL.isNon, addE, subE, biS, rdS, rdL_new, Bool.not_true, Bool.not_false, if_true, if_false, Bool.false_eq_true, Bool.true_eq_false, reduceIte, true_and, and_true, decide_true, decide_false, vGet_0, vGet_1, slcT, addT])
            exact ⟨i, rfl, hlt, hl, done (.int hc h46 h39 h40) rfl⟩
  · exact h.elim
theorem h__law_read_tuple (k1 j : Nat) : ∀ ds M Q0 E0, sp_rt j ds M Q0 E0 → ds.length = 3 ∧ wpSs ⟨[C__law_first_wrong k1 (sp_fw j)], sub, fdOf cf⟩ (wF E0) none m__law_read_tuple (endsF Q0) (startD N__law_read_tuple.length ds) M := by
  intro ds M Q0 E0 h
  unfold sp_rt at h
  split at h
  · rename_i t i0 d0
    obtain ⟨i, d, rfl, rfl, hi, hl, hd, hdj, hq1, hq2⟩ := h
    have hbig : t.length ≤ big := by unfold big; omega
    refine ⟨rfl, ?_⟩
    unfold m__law_read_tuple
    refine wp_cons ?_
    show DL.wpS _ _ _ _ _ [some (.str t), some (.int (i : Nat)), some (.int (d : Nat)), none, none, none] M
    (try simp only [DL.wpS, DL.wpE, DL.wpA, wpT, wpTs, wpBo, DL.wpI, wpIf, wpTg, wpTgs, optI, List.getElem?_cons_zero, List.getElem?_cons_succ, List.set_cons_succ, List.set_cons_zero, vTru, cmpS, vIsK, vLt, vLe, vGt, vGe, vOrd, DL.isNon, addE, subE, biS, rdS, rdL_new, Bool.not_true, Bool.not_false, if_true, if_false, Bool.false_eq_true, Bool.true_eq_false, reduceIte, true_and, and_true, decide_true, decide_false, vGet_0, vGet_1, slcT, addT])
    refine wp_cut (fun ρ2 M2 => ρ2 = [some (.str t), some (.int (i : Nat)), some (.int (d : Nat)), some (.tup []), none, none] ∧ M2 = M ∧ t[i]? ≠ some 41) ?_ ?_
    · (try simp only [DL.wpS, DL.wpE, DL.wpA, wpT, wpTs, wpBo, DL.wpI, wpIf, wpTg, wpTgs, optI, List.getElem?_cons_zero, List.getElem?_cons_succ, List.set_cons_succ, List.set_cons_zero, vTru, cmpS, vIsK, vLt, vLe, vGt, vGe, vOrd, DL.isNon, addE, subE, biS, rdS, rdL_new, Bool.not_true, Bool.not_false, if_true, if_false, Bool.false_eq_true, Bool.true_eq_false, reduceIte, true_and, and_true, decide_true, decide_false, vGet_0, vGet_1, slcT, addT, hbig])
      cases hc : t[i]? with
      | none =>
        have hge := List.getElem?_eq_none_iff.mp hc
        have : ¬ ((i : Nat) : Int) < (t.length : Nat) := by omega
        (try simp only [DL.wpS, DL.wpE, DL.wpA, wpT, wpTs, wpBo, DL.wpI, wpIf, wpTg, wpTgs, optI, List.getElem?_cons_zero, List.getElem?_cons_succ, List.set_cons_succ, List.set_cons_zero, vTru, cmpS, vIsK, vLt, vLe, vGt, vGe, vOrd, DL.isNon, addE, subE, biS, rdS, rdL_new, Bool.not_true, Bool.not_false, if_true, if_false, Bool.false_eq_true, Bool.true_eq_false, reduceIte, true_and, and_true, decide_true, decide_false, vGet_0, vGet_1, slcT, addT, this])
        exact wp_nil ⟨rfl, rfl, fun z => by cases z⟩
      | some c =>
        have hlt := some_lt hc
        have : ((i : Nat) : Int) < (t.length : Nat) := by omega
        (try simp only [DL.wpS, DL.wpE, DL.wpA, wpT, wpTs, wpBo, DL.wpI, wpIf, wpTg, wpTgs, optI, List.getElem?_cons_zero, List.getElem?_cons_succ, List.set_cons_succ, List.set_cons_zero, vTru, cmpS, vIsK, vLt, vLe, vGt, vGe, vOrd, DL.isNon, addE, subE, biS, rdS, rdL_new, Bool.not_true, Bool.not_false, if_true, if_false, Bool.false_eq_true, Bool.true_eq_false, reduceIte, true_and, and_true, decide_true, decide_false, vGet_0, vGet_1, slcT, addT, this, vGet_str hc hl, vEq_s1])
        by_cases h41 : c = 41
        · subst h41
          (try simp only [DL.wpS, DL.wpE, DL.wpA, wpT, wpTs, wpBo, DL.wpI, wpIf, wpTg, wpTgs, optI, List.getElem?_cons_zero, List.getElem?_cons_succ, List.set_cons_succ, List.set_cons_zero, vTru, cmpS, vIsK, vLt, vLe, vGt, vGe, vOrd, DL.isNon, addE, subE, biS, rdS, rdL_new, Bool.not_true, Bool.not_false, if_true, if_false, Bool.false_eq_true, Bool.true_eq_false, reduceIte, true_and, and_true, decide_true, decide_false, vGet_0, vGet_1, slcT, addT])
          refine wp_last ?_
          (try simp only [DL.wpS, DL.wpE, DL.wpA, wpT, wpTs, wpBo, DL.wpI, wpIf, wpTg, wpTgs, optI, List.getElem?_cons_zero, List.getElem?_cons_succ, List.set_cons_succ, List.set_cons_zero, vTru, cmpS, vIsK, vLt, vLe, vGt, vGe, vOrd, DL.isNon, addE, subE, biS, rdS, rdL_new, Bool.not_true, Bool.not_false, if_true, if_false, Bool.false_eq_true, Bool.true_eq_false, reduceIte, true_and, and_true, decide_true, decide_false, vGet_0, vGet_1, slcT, addT])
          have := rt_of (hq1 hc) (Sub.rfl' (M := M))
          simpa [enc] using this
        · simp only [h41, decide_false, Bool.false_eq_true, if_false]
          exact wp_nil ⟨rfl, rfl, fun z => by cases z; exact h41 rfl⟩
    · rintro ρ2 M2 ⟨rfl, rfl, n41⟩
      refine ⟨M2, Sub.rfl', ?_⟩
      refine wp_last ?_
      unfold DL.wpS
      refine ⟨fun m ρ' M' => ∃ (i' : Nat) (f : List D) (x4 x5 : Option D), m = t.length + 1 - i' ∧ ρ' = [some (.str t), some (.int (i' : Nat)), some (.int (d : Nat)), some (.tup f), x4, x5] ∧ M' = M2 ∧ i' ≤ t.length ∧ f.length ≤ i' ∧ (∀ o, Rd t (.it f) d i' o → Rd t (.it []) d i o),
        ⟨_, i, [], none, none, rfl, rfl, rfl, hi, Nat.zero_le _, fun o z => z⟩, ?_⟩
      rintro m ρ' M' ⟨i', f, x4, x5, rfl, rfl, rfl, hi', hf, hS⟩
      have done : ∀ {o : Out} {x : D}, Rd t (.it f) d i' o → enc o = x → (endsF Q0).rt x M' := fun ho e => rt_of (by rw [← e]; exact hq2 n41 _ (hS _ ho)) Sub.rfl'
      (try simp only [DL.wpS, DL.wpE, DL.wpA, wpT, wpTs, wpBo, DL.wpI, wpIf, wpTg, wpTgs, optI, List.getElem?_cons_zero, List.getElem?_cons_succ, List.set_cons_succ, List.set_cons_zero, vTru, cmpS, vIsK, vLt, vLe, vGt, vGe, vOrd, DL.isNon, addE, subE, biS, rdS, rdL_new, Bool.not_true, Bool.not_false, if_true, if_false, Bool.false_eq_true, Bool.true_eq_false, reduceIte, true_and, and_true, decide_true, decide_false, vGet_0, vGet_1, slcT, addT])
      refine wp_cons ?_
      (try simp only [DL.wpS, DL.wpE, DL.wpA, wpT, wpTs, wpBo, DL.wpI, wpIf, wpTg, wpTgs, optI, List.getElem?_cons_zero, List.getElem?_cons_succ, List.set_cons_succ, List.set_cons_zero, vTru, cmpS, vIsK, vLt, vLe, vGt, vGe, vOrd, DL.isNon, addE, subE, biS, rdS, rdL_new, Bool.not_true, Bool.not_false, if_true, if_false, Bool.false_eq_true, Bool.true_eq_false, reduceIte, true_and, and_true, decide_true, decide_false, vGet_0, vGet_1, slcT, addT])
      refine ⟨i', d, rfl, rfl, hi', hl, hd, hdj, fun o ho => ?_⟩
      cases o with
      | bad jj =>
        (try simp only [DL.wpS, DL.wpE, DL.wpA, wpT, wpTs, wpBo, DL.wpI, wpIf, wpTg, wpTgs, optI, List.getElem?_cons_zero, List.getElem?_cons_succ, List.set_cons_succ, List.set_cons_zero, vTru, cmpS, vIsK, vLt, vLe, vGt, vGe, vOrd, DL.isNon, addE, subE, biS, rdS, rdL_new, Bool.not_true, Bool.not_false, if_true, if_false, Bool.false_eq_true, Bool.true_eq_false, reduceIte, true_and, and_true, decide_true, decide_false, vGet_0, vGet_1, slcT, addT, enc])
        refine wp_cons ?_
        (try simp only [DL.wpS, DL.wpE, DL.wpA, wpT, wpTs, wpBo, DL.wpI, wpIf, wpTg, wpTgs, optI, List.getElem?_cons_zero, List.getElem?_cons_succ, List.set_cons_succ, List.set_cons_zero, vTru, cmpS, vIsK, vLt, vLe, vGt, vGe, vOrd, DL.isNon, addE, subE, biS, rdS, rdL_new, Bool.not_true, Bool.not_false, if_true, if_false, Bool.false_eq_true, Bool.true_eq_false, reduceIte, true_and, and_true, decide_true, decide_false, vGet_0, vGet_1, slcT, addT])
        refine wp_last ?_
        (try simp only [DL.wpS, DL.wpE, DL.wpA, wpT, wpTs, wpBo, DL.wpI, wpIf, wpTg, wpTgs, optI, List.getElem?_cons_zero, List.getElem?_cons_succ, List.set_cons_succ, List.set_cons_zero, vTru, cmpS, vIsK, vLt, vLe, vGt, vGe, vOrd, DL.isNon, addE, subE, biS, rdS, rdL_new, Bool.not_true, Bool.not_false, if_true, if_false, Bool.false_eq_true, Bool.true_eq_false, reduceIte, true_and, and_true, decide_true, decide_false, vGet_0, vGet_1, slcT, addT])
        exact done (.iBad ho) rfl
      | ok v jj =>
        obtain ⟨l1, l2⟩ := rd_le ho v jj rfl
        (try simp only [DL.wpS, DL.wpE, DL.wpA, wpT, wpTs, wpBo, DL.wpI, wpIf, wpTg, wpTgs, optI, List.getElem?_cons_zero, List.getElem?_cons_succ, List.set_cons_succ, List.set_cons_zero, vTru, cmpS, vIsK, vLt, vLe, vGt, vGe, vOrd, DL.isNon, addE, subE, biS, rdS, rdL_new, Bool.not_true, Bool.not_false, if_true, if_false, Bool.false_eq_true, Bool.true_eq_false, reduceIte, true_and, and_true, decide_true, decide_false, vGet_0, vGet_1, slcT, addT, enc])
        refine wp_cons ?_
        (try simp only [DL.wpS, DL.wpE, DL.wpA, wpT, wpTs, wpBo, DL.wpI, wpIf, wpTg, wpTgs, optI, List.getElem?_cons_zero, List.getElem?_cons_succ, List.set_cons_succ, List.set_cons_zero, vTru, cmpS, vIsK, vLt, vLe, vGt, vGe, vOrd, DL.isNon, addE, subE, biS, rdS, rdL_new, Bool.not_true, Bool.not_false, if_true, if_false, Bool.false_eq_true, Bool.true_eq_false, reduceIte, true_and, and_true, decide_true, decide_false, vGet_0, vGet_1, slcT, addT])
        refine wp_nil ?_
        refine wp_cons ?_
        (try simp only [DL.wpS, DL.wpE, DL.wpA, wpT, wpTs, wpBo, DL.wpI, wpIf, wpTg, wpTgs, optI, List.getElem?_cons_zero, List.getElem?_cons_succ, List.set_cons_succ, List.set_cons_zero, vTru, cmpS, vIsK, vLt, vLe, vGt, vGe, vOrd, DL.isNon, addE, subE, biS, rdS, rdL_new, Bool.not_true, Bool.not_false, if_true, if_false, Bool.false_eq_true, Bool.true_eq_false, reduceIte, true_and, and_true, decide_true, decide_false, vGet_0, vGet_1, slcT, addT, List.length_cons, List.length_nil])
        refine ⟨by unfold big; omega, ?_⟩
        refine wp_cons ?_
        (try simp only [DL.wpS, DL.wpE, DL.wpA, wpT, wpTs, wpBo, DL.wpI, wpIf, wpTg, wpTgs, optI, List.getElem?_cons_zero, List.getElem?_cons_succ, List.set_cons_succ, List.set_cons_zero, vTru, cmpS, vIsK, vLt, vLe, vGt, vGe, vOrd, DL.isNon, addE, subE, biS, rdS, rdL_new, Bool.not_true, Bool.not_false, if_true, if_false, Bool.false_eq_true, Bool.true_eq_false, reduceIte, true_and, and_true, decide_true, decide_false, vGet_0, vGet_1, slcT, addT, hbig])
        cases hc : t[jj]? with
        | none =>
          have hge := List.getElem?_eq_none_iff.mp hc
          have e1 : ¬ ((jj : Nat) : Int) < (t.length : Nat) := by omega
          have e2 : ((jj : Nat) : Int) = (t.length : Nat) := by omega
          (try simp only [DL.wpS, DL.wpE, DL.wpA, wpT, wpTs, wpBo, DL.wpI, wpIf, wpTg, wpTgs, optI, List.getElem?_cons_zero, List.getElem?_cons_succ, List.set_cons_succ, List.set_cons_zero, vTru, cmpS, vIsK, vLt, vLe, vGt, vGe, vOrd, DL.isNon, addE, subE, biS, rdS, rdL_new, Bool.not_true, Bool.not_false, if_true, if_false, Bool.false_eq_true, Bool.true_eq_false, reduceIte, true_and, and_true, decide_true, decide_false, vGet_0, vGet_1, slcT, addT, e1])
          refine wp_nil ?_
          refine wp_cons ?_
          (try simp only [DL.wpS, DL.wpE, DL.wpA, wpT, wpTs, wpBo, DL.wpI, wpIf, wpTg, wpTgs, optI, List.getElem?_cons_zero, List.getElem?_cons_succ, List.set_cons_succ, List.set_cons_zero, vTru, cmpS, vIsK, vLt, vLe, vGt, vGe, vOrd, DL.isNon, addE, subE, biS, rdS, rdL_new, Bool.not_true, Bool.not_false, if_true, if_false, Bool.false_eq_true, Bool.true_eq_false, reduceIte, true_and, and_true, decide_true, decide_false, vGet_0, vGet_1, slcT, addT, vEqK, e2, hbig])
          refine wp_last ?_
          (try simp only [DL.wpS, DL.wpE, DL.wpA, wpT, wpTs, wpBo, DL.wpI, wpIf, wpTg, wpTgs, optI, List.getElem?_cons_zero, List.getElem?_cons_succ, List.set_cons_succ, List.set_cons_zero, vTru, cmpS, vIsK, vLt, vLe, vGt, vGe, vOrd, DL.isNon, addE, subE, biS, rdS, rdL_new, Bool.not_true, Bool.not_false, if_true, if_false, Bool.false_eq_true, Bool.true_eq_false, reduceIte, true_and, and_true, decide_true, decide_false, vGet_0, vGet_1, slcT, addT])
          refine done (.iStop ho (by rw [hc]; exact fun z => by cases z) (by rw [hc]; exact fun z => by cases z)) ?_
          simp only [enc, e2]
        | some c =>
          have hlt := some_lt hc
          have e1 : ((jj : Nat) : Int) < (t.length : Nat) := by omega
          have e2 : ¬ ((jj : Nat) : Int) = (t.length : Nat) := by omega
          (try simp only [DL.wpS, DL.wpE, DL.wpA, wpT, wpTs, wpBo, DL.wpI, wpIf, wpTg, wpTgs, optI, List.getElem?_cons_zero, List.getElem?_cons_succ, List.set_cons_succ, List.set_cons_zero, vTru, cmpS, vIsK, vLt, vLe, vGt, vGe, vOrd, DL.isNon, addE, subE, biS, rdS, rdL_new, Bool.not_true, Bool.not_false, if_true, if_false, Bool.false_eq_true, Bool.true_eq_false, reduceIte, true_and, and_true, decide_true, decide_false, vGet_0, vGet_1, slcT, addT, e1, vGet_str hc hl, vEq_s1])
          by_cases h41 : c = 41
          · subst h41
            (try simp only [DL.wpS, DL.wpE, DL.wpA, wpT, wpTs, wpBo, DL.wpI, wpIf, wpTg, wpTgs, optI, List.getElem?_cons_zero, List.getElem?_cons_succ, List.set_cons_succ, List.set_cons_zero, vTru, cmpS, vIsK, vLt, vLe, vGt, vGe, vOrd, DL.isNon, addE, subE, biS, rdS, rdL_new, Bool.not_true, Bool.not_false, if_true, if_false, Bool.false_eq_true, Bool.true_eq_false, reduceIte, true_and, and_true, decide_true, decide_false, vGet_0, vGet_1, slcT, addT])
            refine wp_last ?_
            (try simp only [DL.wpS, DL.wpE, DL.wpA, wpT, wpTs, wpBo, DL.wpI, wpIf, wpTg, wpTgs, optI, List.getElem?_cons_zero, List.getElem?_cons_succ, List.set_cons_succ, List.set_cons_zero, vTru, cmpS, vIsK, vLt, vLe, vGt, vGe, vOrd, DL.isNon, addE, subE, biS, rdS, rdL_new, Bool.not_true, Bool.not_false, if_true, if_false, Bool.false_eq_true, Bool.true_eq_false, reduceIte, true_and, and_true, decide_true, decide_false, vGet_0, vGet_1, slcT, addT])
            exact done (.iEnd ho hc) (by simp [enc])
          · simp only [h41, decide_false, Bool.false_eq_true, if_false]
            refine wp_nil ?_
            refine wp_cons ?_
            (try simp only [DL.wpS, DL.wpE, DL.wpA, wpT, wpTs, wpBo, DL.wpI, wpIf, wpTg, wpTgs, optI, List.getElem?_cons_zero, List.getElem?_cons_succ, List.set_cons_succ, List.set_cons_zero, vTru, cmpS, vIsK, vLt, vLe, vGt, vGe, vOrd, DL.isNon, addE, subE, biS, rdS, rdL_new, Bool.not_true, Bool.not_false, if_true, if_false, Bool.false_eq_true, Bool.true_eq_false, reduceIte, true_and, and_true, decide_true, decide_false, vGet_0, vGet_1, slcT, addT, vEqK, e2, hbig, vGet_str hc hl])
            by_cases h44 : c = 44
            · subst h44
              (try simp only [DL.wpS, DL.wpE, DL.wpA, wpT, wpTs, wpBo, DL.wpI, wpIf, wpTg, wpTgs, optI, List.getElem?_cons_zero, List.getElem?_cons_succ, List.set_cons_succ, List.set_cons_zero, vTru, cmpS, vIsK, vLt, vLe, vGt, vGe, vOrd, DL.isNon, addE, subE, biS, rdS, rdL_new, Bool.not_true, Bool.not_false, if_true, if_false, Bool.false_eq_true, Bool.true_eq_false, reduceIte, true_and, and_true, decide_true, decide_false, vGet_0, vGet_1, slcT, addT])
              refine wp_nil ?_
              refine wp_last ?_
              (try simp only [DL.wpS, DL.wpE, DL.wpA, wpT, wpTs, wpBo, DL.wpI, wpIf, wpTg, wpTgs, optI, List.getElem?_cons_zero, List.getElem?_cons_succ, List.set_cons_succ, List.set_cons_zero, vTru, cmpS, vIsK, vLt, vLe, vGt, vGe, vOrd, DL.isNon, addE, subE, biS, rdS, rdL_new, Bool.not_true, Bool.not_false, if_true, if_false, Bool.false_eq_true, Bool.true_eq_false, reduceIte, true_and, and_true, decide_true, decide_false, vGet_0, vGet_1, slcT, addT])
              refine ⟨t.length + 1 - (jj + 1), M', by omega, Sub.rfl', jj + 1, f ++ [v], some v, some (.bl false), rfl, ?_, rfl, by omega, ?_, fun o ho' => hS o (.iMore ho hc ho')⟩
              · simp
              · rw [List.length_append, List.length_singleton]; omega
            · have e3 : decide (([c] : List Nat) = [44]) = false := by simp [h44]
              simp only [e3, Bool.not_false, if_true]
              refine wp_last ?_
              (try simp only [DL.wpS, DL.wpE, DL.wpA, wpT, wpTs, wpBo, DL.wpI, wpIf, wpTg, wpTgs, optI, List.getElem?_cons_zero, List.getElem?_cons_succ, List.set_cons_succ, List.set_cons_zero, vTru, cmpS, vIsK, vLt, vLe, vGt, vGe, vOrd, DL.isNon, addE, subE, biS, rdS, rdL_new, Bool.not_true, Bool.not_false, if_true, if_false, Bool.false_eq_true, Bool.true_eq_false, reduceIte, true_and, and_true, decide_true, decide_false, vGet_0, vGet_1, slcT, addT])
              exact done (.iStop ho (by rw [hc]; exact fun z => by cases z; exact h41 rfl) (by rw [hc]; exact fun z => by cases z; exact h44 rfl)) rfl
  · exact h.elim
def wrongS : List Nat := [119, 114, 111, 110, 103]
def thingS : List Nat := [116, 104, 105, 110, 103]
def whole (t : List Nat) : Out → D
  | .bad j => .tup [.str wrongS, .int (j : Nat)]
  | .ok v j => if j = t.length then .tup [.str thingS, v] else .tup [.str wrongS, .int (j : Nat)]
def sp_unpacked : SpD := fun ds M Q _ => match ds with
  | [.str t] => t.length ≤ 10000000 ∧ ∀ o, Rd t .fw 0 0 o → Q (whole t o) M
  | _ => False
theorem h__law_unpacked (k1 : Nat) : ∀ ds M Q0 E0, sp_unpacked ds M Q0 E0 → ds.length = 1 ∧ wpSs ⟨[C__law_first_wrong k1 (sp_fw 31)], sub, fdOf cf⟩ (wF E0) none m__law_unpacked (endsF Q0) (startD N__law_unpacked.length ds) M := by
  intro ds M Q0 E0 h
  unfold sp_unpacked at h
  split at h
  · rename_i t
    obtain ⟨hl, hq⟩ := h
    have hbig : t.length ≤ big := by unfold big; omega
    refine ⟨rfl, ?_⟩
    unfold m__law_unpacked
    refine wp_cons ?_
    show DL.wpS _ _ _ _ _ [some (.str t), none, none, none] M
    (try simp only [DL.wpS, DL.wpE, DL.wpA, wpT, wpTs, wpBo, DL.wpI, wpIf, wpTg, wpTgs, optI, List.getElem?_cons_zero, List.getElem?_cons_succ, List.set_cons_succ, List.set_cons_zero, vTru, cmpS, vIsK, vLt, vLe, vGt, vGe, vOrd, DL.isNon, addE, subE, biS, rdS, rdL_new, Bool.not_true, Bool.not_false, if_true, if_false, Bool.false_eq_true, Bool.true_eq_false, reduceIte, true_and, and_true, decide_true, decide_false, vGet_0, vGet_1, slcT, addT])
    refine ⟨0, 0, rfl, rfl, Nat.zero_le _, hl, by decide, by decide, fun o ho => ?_⟩
    have done : ∀ {x : D}, whole t o = x → (endsF Q0).rt x M := fun e => rt_of (by rw [← e]; exact hq _ ho) Sub.rfl'
    cases o with
    | bad jj =>
      (try simp only [DL.wpS, DL.wpE, DL.wpA, wpT, wpTs, wpBo, DL.wpI, wpIf, wpTg, wpTgs, optI, List.getElem?_cons_zero, List.getElem?_cons_succ, List.set_cons_succ, List.set_cons_zero, vTru, cmpS, vIsK, vLt, vLe, vGt, vGe, vOrd, DL.isNon, addE, subE, biS, rdS, rdL_new, Bool.not_true, Bool.not_false, if_true, if_false, Bool.false_eq_true, Bool.true_eq_false, reduceIte, true_and, and_true, decide_true, decide_false, vGet_0, vGet_1, slcT, addT, enc])
      refine wp_cons ?_
      (try simp only [DL.wpS, DL.wpE, DL.wpA, wpT, wpTs, wpBo, DL.wpI, wpIf, wpTg, wpTgs, optI, List.getElem?_cons_zero, List.getElem?_cons_succ, List.set_cons_succ, List.set_cons_zero, vTru, cmpS, vIsK, vLt, vLe, vGt, vGe, vOrd, DL.isNon, addE, subE, biS, rdS, rdL_new, Bool.not_true, Bool.not_false, if_true, if_false, Bool.false_eq_true, Bool.true_eq_false, reduceIte, true_and, and_true, decide_true, decide_false, vGet_0, vGet_1, slcT, addT])
      refine wp_last ?_
      (try simp only [DL.wpS, DL.wpE, DL.wpA, wpT, wpTs, wpBo, DL.wpI, wpIf, wpTg, wpTgs, optI, List.getElem?_cons_zero, List.getElem?_cons_succ, List.set_cons_succ, List.set_cons_zero, vTru, cmpS, vIsK, vLt, vLe, vGt, vGe, vOrd, DL.isNon, addE, subE, biS, rdS, rdL_new, Bool.not_true, Bool.not_false, if_true, if_false, Bool.false_eq_true, Bool.true_eq_false, reduceIte, true_and, and_true, decide_true, decide_false, vGet_0, vGet_1, slcT, addT])
      exact done rfl
    | ok v jj =>
      (try simp only [DL.wpS, DL.wpE, DL.wpA, wpT, wpTs, wpBo, DL.wpI, wpIf, wpTg, wpTgs, optI, List.getElem?_cons_zero, List.getElem?_cons_succ, List.set_cons_succ, List.set_cons_zero, vTru, cmpS, vIsK, vLt, vLe, vGt, vGe, vOrd, DL.isNon, addE, subE, biS, rdS, rdL_new, Bool.not_true, Bool.not_false, if_true, if_false, Bool.false_eq_true, Bool.true_eq_false, reduceIte, true_and, and_true, decide_true, decide_false, vGet_0, vGet_1, slcT, addT, enc])
      refine wp_cons ?_
      (try simp only [DL.wpS, DL.wpE, DL.wpA, wpT, wpTs, wpBo, DL.wpI, wpIf, wpTg, wpTgs, optI, List.getElem?_cons_zero, List.getElem?_cons_succ, List.set_cons_succ, List.set_cons_zero, vTru, cmpS, vIsK, vLt, vLe, vGt, vGe, vOrd, DL.isNon, addE, subE, biS, rdS, rdL_new, Bool.not_true, Bool.not_false, if_true, if_false, Bool.false_eq_true, Bool.true_eq_false, reduceIte, true_and, and_true, decide_true, decide_false, vGet_0, vGet_1, slcT, addT])
      refine wp_nil ?_
      refine wp_last ?_
      (try simp only [DL.wpS, DL.wpE, DL.wpA, wpT, wpTs, wpBo, DL.wpI, wpIf, wpTg, wpTgs, optI, List.getElem?_cons_zero, List.getElem?_cons_succ, List.set_cons_succ, List.set_cons_zero, vTru, cmpS, vIsK, vLt, vLe, vGt, vGe, vOrd, DL.isNon, addE, subE, biS, rdS, rdL_new, Bool.not_true, Bool.not_false, if_true, if_false, Bool.false_eq_true, Bool.true_eq_false, reduceIte, true_and, and_true, decide_true, decide_false, vGet_0, vGet_1, slcT, addT, hbig, vEqK])
      by_cases e : jj = t.length
      · have : ((jj : Nat) : Int) = (t.length : Nat) := by omega
        (try simp only [DL.wpS, DL.wpE, DL.wpA, wpT, wpTs, wpBo, DL.wpI, wpIf, wpTg, wpTgs, optI, List.getElem?_cons_zero, List.getElem?_cons_succ, List.set_cons_succ, List.set_cons_zero, vTru, cmpS, vIsK, vLt, vLe, vGt, vGe, vOrd, DL.isNon, addE, subE, biS, rdS, rdL_new, Bool.not_true, Bool.not_false, if_true, if_false, Bool.false_eq_true, Bool.true_eq_false, reduceIte, true_and, and_true, decide_true, decide_false, vGet_0, vGet_1, slcT, addT, this])
        exact done (by simp [whole, e, thingS])
      · have : ¬ ((jj : Nat) : Int) = (t.length : Nat) := by omega
        (try simp only [DL.wpS, DL.wpE, DL.wpA, wpT, wpTs, wpBo, DL.wpI, wpIf, wpTg, wpTgs, optI, List.getElem?_cons_zero, List.getElem?_cons_succ, List.set_cons_succ, List.set_cons_zero, vTru, cmpS, vIsK, vLt, vLe, vGt, vGe, vOrd, DL.isNon, addE, subE, biS, rdS, rdL_new, Bool.not_true, Bool.not_false, if_true, if_false, Bool.false_eq_true, Bool.true_eq_false, reduceIte, true_and, and_true, decide_true, decide_false, vGet_0, vGet_1, slcT, addT, this])
        exact done (by simp [whole, e, wrongS])
  · exact h.elim
def sp_told : SpD := fun ds M Q _ => match ds with
  | [.str t] => t.length ≤ 10000000 ∧ ∀ o, Rd t .fw 0 0 o → Q (whole t o) M
  | [d] => kn M d = true ∧ isS d = false ∧ Q (.tup [.str wrongS, .int (-1)]) M
  | _ => False
theorem h__law_told (k1 : Nat) : ∀ ds M Q0 E0, sp_told ds M Q0 E0 → ds.length = 1 ∧ wpSs ⟨[C_read_thing k1 sp_read_thing], sub, fdOf cf⟩ (wF E0) none m__law_told (endsF Q0) (startD N__law_told.length ds) M := by
  intro ds M Q0 E0 h
  unfold sp_told at h
  have s22 : sub 2 2 = true := by decide
  have f2 : DL.fdOf cf 2 = some ("place" : Str) := rfl
  split at h
  · rename_i t
    obtain ⟨hl, hq⟩ := h
    refine ⟨rfl, ?_⟩
    unfold m__law_told
    refine wp_cons ?_
    show DL.wpS _ _ _ _ _ [some (.str t), none, none] M
    (try simp only [DL.wpS, DL.wpE, DL.wpA, wpT, wpTs, wpBo, DL.wpI, wpIf, wpTg, wpTgs, optI, List.getElem?_cons_zero, List.getElem?_cons_succ, List.set_cons_succ, List.set_cons_zero, vTru, cmpS, vIsK, vLt, vLe, vGt, vGe, vOrd, DL.isNon, addE, subE, biS, rdS, rdL_new, Bool.not_true, Bool.not_false, if_true, if_false, Bool.false_eq_true, Bool.true_eq_false, reduceIte, true_and, and_true, decide_true, decide_false, vGet_0, vGet_1, slcT, addT])
    refine wp_cut (fun ρ2 M2 => ∃ d, ρ2 = [some (.str t), some d, none] ∧ M2 = M ∧ (endsF Q0).rt d M) ?_ ?_
    · unfold DL.wpS
      refine wp_last ?_
      (try simp only [DL.wpS, DL.wpE, DL.wpA, wpT, wpTs, wpBo, DL.wpI, wpIf, wpTg, wpTgs, optI, List.getElem?_cons_zero, List.getElem?_cons_succ, List.set_cons_succ, List.set_cons_zero, vTru, cmpS, vIsK, vLt, vLe, vGt, vGe, vOrd, DL.isNon, addE, subE, biS, rdS, rdL_new, Bool.not_true, Bool.not_false, if_true, if_false, Bool.false_eq_true, Bool.true_eq_false, reduceIte, true_and, and_true, decide_true, decide_false, vGet_0, vGet_1, slcT, addT])
      refine ⟨hl, fun v j r hj => ?_, fun j r => ?_⟩
      · have hle := (rd_le r v j rfl).2
        have hge := List.getElem?_eq_none_iff.mp hj
        refine ⟨_, rfl, rfl, rt_of (d := .tup [.str thingS, v]) ?_ Sub.rfl'⟩
        have := hq _ r
        rw [whole, if_pos (by omega)] at this
        exact this
      · simp only [wpHs, s22, if_true]
        intro a
        refine wp_last ?_
        (try simp only [DL.wpS, DL.wpE, DL.wpA, wpT, wpTs, wpBo, DL.wpI, wpIf, wpTg, wpTgs, optI, List.getElem?_cons_zero, List.getElem?_cons_succ, List.set_cons_succ, List.set_cons_zero, vTru, cmpS, vIsK, vLt, vLe, vGt, vGe, vOrd, DL.isNon, addE, subE, biS, rdS, rdL_new, Bool.not_true, Bool.not_false, if_true, if_false, Bool.false_eq_true, Bool.true_eq_false, reduceIte, true_and, and_true, decide_true, decide_false, vGet_0, vGet_1, slcT, addT, f2])
        refine ⟨_, rfl, rt_of (d := .tup [.str wrongS, .int (j : Nat)]) ?_ Sub.rfl'⟩
        rcases r with r | ⟨v, r, hj⟩
        · exact hq _ r
        · have := hq _ r
          rw [whole, if_neg (fun z => hj (by rw [z]; exact List.getElem?_eq_none (Nat.le_refl _)))] at this
          exact this
    · rintro ρ2 M2 ⟨d, rfl, rfl, hr⟩
      refine ⟨M2, Sub.rfl', ?_⟩
      refine wp_last ?_
      (try simp only [DL.wpS, DL.wpE, DL.wpA, wpT, wpTs, wpBo, DL.wpI, wpIf, wpTg, wpTgs, optI, List.getElem?_cons_zero, List.getElem?_cons_succ, List.set_cons_succ, List.set_cons_zero, vTru, cmpS, vIsK, vLt, vLe, vGt, vGe, vOrd, DL.isNon, addE, subE, biS, rdS, rdL_new, Bool.not_true, Bool.not_false, if_true, if_false, Bool.false_eq_true, Bool.true_eq_false, reduceIte, true_and, and_true, decide_true, decide_false, vGet_0, vGet_1, slcT, addT])
      exact hr
  · rename_i d hd
    obtain ⟨hk, hs, hq⟩ := h
    refine ⟨rfl, ?_⟩
    unfold m__law_told
    refine wp_cons ?_
    show DL.wpS _ _ _ _ _ [some d, none, none] M
    (try simp only [DL.wpS, DL.wpE, DL.wpA, wpT, wpTs, wpBo, DL.wpI, wpIf, wpTg, wpTgs, optI, List.getElem?_cons_zero, List.getElem?_cons_succ, List.set_cons_succ, List.set_cons_zero, vTru, cmpS, vIsK, vLt, vLe, vGt, vGe, vOrd, DL.isNon, addE, subE, biS, rdS, rdL_new, Bool.not_true, Bool.not_false, if_true, if_false, Bool.false_eq_true, Bool.true_eq_false, reduceIte, true_and, and_true, decide_true, decide_false, vGet_0, vGet_1, slcT, addT])
    refine wp_cut (fun ρ2 M2 => ∃ d', ρ2 = [some d, some d', none] ∧ M2 = M ∧ (endsF Q0).rt d' M) ?_ ?_
    · unfold DL.wpS
      refine wp_last ?_
      (try simp only [DL.wpS, DL.wpE, DL.wpA, wpT, wpTs, wpBo, DL.wpI, wpIf, wpTg, wpTgs, optI, List.getElem?_cons_zero, List.getElem?_cons_succ, List.set_cons_succ, List.set_cons_zero, vTru, cmpS, vIsK, vLt, vLe, vGt, vGe, vOrd, DL.isNon, addE, subE, biS, rdS, rdL_new, Bool.not_true, Bool.not_false, if_true, if_false, Bool.false_eq_true, Bool.true_eq_false, reduceIte, true_and, and_true, decide_true, decide_false, vGet_0, vGet_1, slcT, addT])
      have hE : sp_read_thing [d] M = fun Q E => kn M d = true ∧ isS d = false ∧ E ⟨2, [.int (-1)]⟩ M := by
        funext Q E
        cases d <;> first | rfl | (cases hs)
      rw [hE]
      refine ⟨hk, hs, ?_⟩
      simp only [wpHs, s22, if_true]
      intro a
      refine wp_last ?_
      (try simp only [DL.wpS, DL.wpE, DL.wpA, wpT, wpTs, wpBo, DL.wpI, wpIf, wpTg, wpTgs, optI, List.getElem?_cons_zero, List.getElem?_cons_succ, List.set_cons_succ, List.set_cons_zero, vTru, cmpS, vIsK, vLt, vLe, vGt, vGe, vOrd, DL.isNon, addE, subE, biS, rdS, rdL_new, Bool.not_true, Bool.not_false, if_true, if_false, Bool.false_eq_true, Bool.true_eq_false, reduceIte, true_and, and_true, decide_true, decide_false, vGet_0, vGet_1, slcT, addT, f2])
      exact ⟨_, rfl, rt_of hq Sub.rfl'⟩
    · rintro ρ2 M2 ⟨d', rfl, rfl, hr⟩
      refine ⟨M2, Sub.rfl', ?_⟩
      refine wp_last ?_
      (try simp only [DL.wpS, DL.wpE, DL.wpA, wpT, wpTs, wpBo, DL.wpI, wpIf, wpTg, wpTgs, optI, List.getElem?_cons_zero, List.getElem?_cons_succ, List.set_cons_succ, List.set_cons_zero, vTru, cmpS, vIsK, vLt, vLe, vGt, vGe, vOrd, DL.isNon, addE, subE, biS, rdS, rdL_new, Bool.not_true, Bool.not_false, if_true, if_false, Bool.false_eq_true, Bool.true_eq_false, reduceIte, true_and, and_true, decide_true, decide_false, vGet_0, vGet_1, slcT, addT])
      exact hr
  · exact h.elim
end H54
set_option Elab.async false
set_option linter.all false
set_option maxRecDepth 100000
set_option maxHeartbeats 1000000
namespace H54
open PySem PySem.Spec PyProof.Rows L2 DL TX
/-! ### what the law draws -/
def sp_any2 : SpD := fun ds M Q _ => match ds with
  | [.obj p, d] => ∃ (cl : Addr) (f : Nat) (xs : List D), Hand M p cl f ∧ f < 2 ^ 60 ∧ ((d = .tup xs ∨ ∃ a, d = .obj a ∧ a ≠ p ∧ rdL M a = some xs) ∨ ∃ l, d = .str l ∧ xs = l.map fun c => .str [c]) ∧ xs ≠ [] ∧ xs.length < 1000000 ∧ ∀ N x, Upd p M N → Hand N p cl (f + 1) → x ∈ xs → Q x N
  | _ => False
theorem h__law_any2 (k : Nat) : ∀ ds M Q0 E0, sp_any2 ds M Q0 E0 → ds.length = 2 ∧ wpSs ⟨[C__law_draw k sp_draw], sub, fdOf cf⟩ (wF E0) none m__law_any (endsF Q0) (startD N__law_any.length ds) M := by
  intro ds M Q0 E0 hh
  unfold sp_any2 at hh
  split at hh
  · rename_i p d
    obtain ⟨cl, f, xs, hH, hf, hd | ⟨l, rfl, rfl⟩, hne, hlen, hq⟩ := hh
    · exact h__law_any k _ M Q0 E0 ⟨cl, f, xs, hH, hf, hd, hne, hlen, hq⟩
    · refine ⟨rfl, ?_⟩
      unfold m__law_any
      refine wp_last ?_
      show DL.wpS _ _ _ _ _ [some (.obj p), some (.str l)] M
      rw [List.length_map] at hlen
      have hpos : 0 < l.length := by
        cases l with
        | nil => exact absurd rfl hne
        | cons c l => simp
      (try simp only [DL.wpS, DL.wpE, DL.wpA, wpT, wpTs, wpBo, DL.wpI, wpIf, wpTg, wpTgs, optI, List.getElem?_cons_zero, List.getElem?_cons_succ, List.set_cons_succ, List.set_cons_zero, vTru, cmpS, vIsK, vLt, vLe, vGt, vGe, vOrd, DL.isNon, addE, subE, biS, rdS, rdL_new, Bool.not_true, Bool.not_false, if_true, if_false, Bool.false_eq_true, Bool.true_eq_false, reduceIte, true_and, and_true, decide_true, decide_false, vGet_0, vGet_1, slcT, addT])
      refine ⟨by unfold big; omega, cl, f, hH, hf, by omega, by omega, fun N r hU hN r0 r1 => ?_⟩
      have hr : l[r.toNat]? = some l[r.toNat] := List.getElem?_eq_getElem (by omega)
      have hg := vGet_str (M := N) hr (by omega)
      rw [show ((r.toNat : Nat) : Int) = r by omega] at hg
      (try simp only [DL.wpS, DL.wpE, DL.wpA, wpT, wpTs, wpBo, DL.wpI, wpIf, wpTg, wpTgs, optI, List.getElem?_cons_zero, List.getElem?_cons_succ, List.set_cons_succ, List.set_cons_zero, vTru, cmpS, vIsK, vLt, vLe, vGt, vGe, vOrd, DL.isNon, addE, subE, biS, rdS, rdL_new, Bool.not_true, Bool.not_false, if_true, if_false, Bool.false_eq_true, Bool.true_eq_false, reduceIte, true_and, and_true, decide_true, decide_false, vGet_0, vGet_1, slcT, addT, hg])
      exact rt_of (hq N _ hU hN (List.mem_map.mpr ⟨_, List.mem_of_getElem? hr, rfl⟩)) Sub.rfl'
  · exact hh.elim
def sp_word : SpD := fun ds M Q _ => match ds with
  | [.obj p] => ∃ (cl : Addr) (f : Nat), Hand M p cl f ∧ f < 2 ^ 58 ∧ ∀ N l, UpX p M N → Hand N p cl (f + 8) → l.length ≤ 6 → l.all sg = true → Q (.str l) N
  | _ => False
theorem h__law_word (k k2 : Nat) : ∀ ds M Q0 E0, sp_word ds M Q0 E0 → ds.length = 1 ∧ wpSs ⟨[C__law_draw k sp_draw, C__law_any k2 sp_any2], sub, fdOf cf⟩ (wF E0) none m__law_word (endsF Q0) (startD N__law_word.length ds) M := by
  intro ds M Q0 E0 hh
  unfold sp_word at hh
  split at hh
  · rename_i p
    obtain ⟨cl, f, hH, hf, hq⟩ := hh
    refine ⟨rfl, ?_⟩
    unfold m__law_word
    refine wp_cons ?_
    show DL.wpS _ _ _ _ _ [some (.obj p), none, none] M
    (try simp only [DL.wpS, DL.wpE, DL.wpA, wpT, wpTs, wpBo, DL.wpI, wpIf, wpTg, wpTgs, optI, List.getElem?_cons_zero, List.getElem?_cons_succ, List.set_cons_succ, List.set_cons_zero, vTru, cmpS, vIsK, vLt, vLe, vGt, vGe, vOrd, DL.isNon, addE, subE, biS, rdS, rdL_new, Bool.not_true, Bool.not_false, if_true, if_false, Bool.false_eq_true, Bool.true_eq_false, reduceIte, true_and, and_true, decide_true, decide_false, vGet_0, vGet_1, slcT, addT])
    refine wp_last ?_
    (try simp only [DL.wpS, DL.wpE, DL.wpA, wpT, wpTs, wpBo, DL.wpI, wpIf, wpTg, wpTgs, optI, List.getElem?_cons_zero, List.getElem?_cons_succ, List.set_cons_succ, List.set_cons_zero, vTru, cmpS, vIsK, vLt, vLe, vGt, vGe, vOrd, DL.isNon, addE, subE, biS, rdS, rdL_new, Bool.not_true, Bool.not_false, if_true, if_false, Bool.false_eq_true, Bool.true_eq_false, reduceIte, true_and, and_true, decide_true, decide_false, vGet_0, vGet_1, slcT, addT, recv, BM.ty])
    refine ⟨cl, f, hH, by omega, by decide, by decide, fun N r U H r0 r1 => ?_⟩
    (try simp only [DL.wpS, DL.wpE, DL.wpA, wpT, wpTs, wpBo, DL.wpI, wpIf, wpTg, wpTgs, optI, List.getElem?_cons_zero, List.getElem?_cons_succ, List.set_cons_succ, List.set_cons_zero, vTru, cmpS, vIsK, vLt, vLe, vGt, vGe, vOrd, DL.isNon, addE, subE, biS, rdS, rdL_new, Bool.not_true, Bool.not_false, if_true, if_false, Bool.false_eq_true, Bool.true_eq_false, reduceIte, true_and, and_true, decide_true, decide_false, vGet_0, vGet_1, slcT, addT, rngOf])
    refine ⟨by omega, by omega, ?_⟩
    refine lc_inv (fun j acc M2 => ∃ l : List Nat, acc = l.map (fun c => D.str [c]) ∧ l.length = j ∧ l.all sg = true ∧ UpX p M M2 ∧ Hand M2 p cl (f + 1 + j) ∧ (j : Int) ≤ r) (fun _ _ _ _ => trivial) (fun j d acc M2 Kn hd hP hK => ?_) ⟨[], rfl, rfl, rfl, U.upx, H, r0⟩ ?_
    · obtain ⟨l, rfl, hj, hs, U2, H2, hjr⟩ := hP
      rw [range_get_z] at hd
      split at hd
      · cases hd
        simp only [wipeD, List.map_cons, List.map_nil]
        (try simp only [DL.wpS, DL.wpE, DL.wpA, wpT, wpTs, wpBo, DL.wpI, wpIf, wpTg, wpTgs, optI, List.getElem?_cons_zero, List.getElem?_cons_succ, List.set_cons_succ, List.set_cons_zero, vTru, cmpS, vIsK, vLt, vLe, vGt, vGe, vOrd, DL.isNon, addE, subE, biS, rdS, rdL_new, Bool.not_true, Bool.not_false, if_true, if_false, Bool.false_eq_true, Bool.true_eq_false, reduceIte, true_and, and_true, decide_true, decide_false, vGet_0, vGet_1, slcT, addT])
        refine ⟨cl, _, _, H2, by omega, .inr ⟨_, rfl, rfl⟩, by simp, by simp, fun N3 x U3 H3 hx => ?_⟩
        obtain ⟨c, hc, rfl⟩ := List.mem_map.mp hx
        have hsc : sg c = true := by
          simp only [List.mem_cons, List.not_mem_nil, or_false] at hc
          rcases hc with rfl | rfl | rfl | rfl | rfl | rfl | rfl | rfl | rfl | rfl | rfl | rfl | rfl | rfl | rfl | rfl | rfl | rfl | rfl <;> decide
        refine ⟨by rw [List.length_map, hj]; unfold big; omega, hK _ _ ⟨l ++ [c], by simp, by simp [hj], by simp [hs, hsc], U2.trans U3.upx, H3.mono (by omega), by omega⟩⟩
      · cases hd
    · rintro acc M2 ⟨l, rfl, hj, hs, U2, H2, hjr⟩ q2 hq2
      have hj6 : l.length ≤ 6 := by rw [hj]; simp; omega
      have e : (l.map fun c : Nat => D.str [c]).mapM asStr = some (l.map fun c => [c]) := mapM_asStr (fun c => [c]) l
      have e2 : ∀ acc : List Nat, (acc.map fun c => [c]).flatten = acc := fun acc => by induction acc <;> simp_all
      have e3 : ∀ acc : List Nat, ((acc.map fun c => [c]).map (·.length)).sum = acc.length := fun acc => by induction acc <;> simp_all <;> omega
      have H2' : Hand M2 p cl (f + 8) := H2.mono (by simp; omega)
      (try simp only [DL.wpS, DL.wpE, DL.wpA, wpT, wpTs, wpBo, DL.wpI, wpIf, wpTg, wpTgs, optI, List.getElem?_cons_zero, List.getElem?_cons_succ, List.set_cons_succ, List.set_cons_zero, vTru, cmpS, vIsK, vLt, vLe, vGt, vGe, vOrd, DL.isNon, addE, subE, biS, rdS, rdL_new, Bool.not_true, Bool.not_false, if_true, if_false, Bool.false_eq_true, Bool.true_eq_false, reduceIte, true_and, and_true, decide_true, decide_false, vGet_0, vGet_1, slcT, addT, bmS])
      simp only [e, joinC_nil, e2, e3]
      refine ⟨by simp; omega, rt_of (hq _ l (U2.new hq2) (H2'.new hq2) hj6 hs) Sub.rfl'⟩
  · exact hh.elim
def T : Nat → Nat
  | 0 => 12
  | n + 1 => 3 * T n + 12
def Lb : Nat → Nat
  | 0 => 40
  | n + 1 => 3 * Lb n + 10
theorem Lb_ge (n : Nat) : 40 ≤ Lb n := by
  cases n with
  | zero => exact Nat.le_refl _
  | succ n => have := Lb_ge n; show 40 ≤ 3 * Lb n + 10; omega
theorem T_ge (n : Nat) : 12 ≤ T n := by
  cases n with
  | zero => exact Nat.le_refl _
  | succ n => show 12 ≤ 3 * T n + 12; omega
theorem sum_le {L : Nat} : ∀ {l : List Nat}, (∀ x ∈ l, x ≤ L) → l.sum ≤ l.length * L
  | [], _ => by simp
  | x :: l, h => by
    have := sum_le (l := l) fun y hy => h y (List.mem_cons_of_mem _ hy)
    have := h x (List.mem_cons_self ..)
    rw [List.sum_cons, List.length_cons, Nat.add_mul]
    omega
theorem pk_tup_len {L : Nat} {xs : List D} (hl : xs.length ≤ 3) (h : ∀ x ∈ xs, (pk x).length ≤ L) : (pk (.tup xs)).length ≤ 3 * L + 10 := by
  have e : (pk (.tup xs)).length = (joinC [44] (xs.map pk)).length + 2 := by simp [pk, pks_eq] <;> omega
  rw [e]
  cases xs with
  | nil => simp [joinC]
  | cons x xs =>
    have h1 := joinC_len 44 ((x :: xs).map pk) (by simp)
    have h2 := sum_le (L := L) (l := ((x :: xs).map pk).map (·.length)) fun y hy => by
      obtain ⟨z, hz, rfl⟩ := List.mem_map.mp hy
      obtain ⟨w, hw, rfl⟩ := List.mem_map.mp hz
      exact h w hw
    rw [List.length_map, List.length_map] at h2
    rw [List.length_map] at h1
    have : (x :: xs).length * L ≤ 3 * L := Nat.mul_le_mul_right _ hl
    omega
theorem pk_int_len {n : Nat} {i : Int} (h : isTh n (.int i) = true) : (pk (.int i)).length ≤ 31 := by
  rw [isTh_int, Bool.and_eq_true, decide_eq_true_eq, decide_eq_true_eq] at h
  unfold great at h
  show (icodes i).length ≤ 31
  by_cases h0 : 0 ≤ i
  · obtain ⟨m, rfl⟩ := Int.eq_ofNat_of_zero_le h0
    rw [icodes_nat m]
    have : (TL.numL m).length ≤ 30 := TL.numL_len (by decide) (by omega)
    omega
  · obtain ⟨m, rfl⟩ : ∃ m : Nat, i = -((m + 1 : Nat) : Int) := ⟨(-i - 1).toNat, by omega⟩
    rw [icodes_neg, List.length_cons]
    have : (TL.numL (m + 1)).length ≤ 30 := TL.numL_len (by decide) (by omega)
    omega
theorem pk_str_len {l : List Nat} : (pk (.str l)).length ≤ 2 * l.length + 2 := by
  have e : (pk (.str l)).length = (escL l).length + 2 := by simp [pk] <;> omega
  have : ∀ l : List Nat, (escL l).length ≤ 2 * l.length := by
    intro l
    induction l with
    | nil => simp [escL]
    | cons c l ih =>
      have : escL (c :: l) = q1 c ++ escL l := by simp [escL, q1]
      rw [this, List.length_append, List.length_cons]
      have : (q1 c).length ≤ 2 := by unfold q1; split <;> simp
      omega
  have := this l
  omega
theorem pow30 {M : Mem} : binS .Pow (.int 10) (.int 30) M = fun Q => Q (.int 1000000000000000000000000000000) M := by
  funext Q
  have : (10 : Int) ^ (30 : Int).toNat = 1000000000000000000000000000000 := by decide
  simp [binS, vPow, vI]
def sp_thing (j : Nat) : SpD := fun ds M Q _ => match ds with
  | [.obj p, .int deep] => ∃ (cl : Addr) (f n : Nat), deep = n ∧ n < j ∧ Hand M p cl f ∧ f + T n < 2 ^ 50 ∧ ∀ N d, UpX p M N → Hand N p cl (f + T n) → isTh n d = true → (pk d).length ≤ Lb n → Q d N
  | _ => False
theorem no_thing : ∀ ds M Q E, sp_thing 0 ds M Q E → False := fun ds M Q E h => by
  unfold sp_thing at h
  split at h
  · obtain ⟨_, _, _, _, h, _⟩ := h; omega
  · exact h
theorem h__law_thing (k1 k2 k3 k4 j : Nat) : ∀ ds M Q0 E0, sp_thing (j + 1) ds M Q0 E0 → ds.length = 2 ∧ wpSs ⟨[C__law_draw k1 sp_draw, C__law_any k2 sp_any2, C__law_word k3 sp_word, C__law_thing k4 (sp_thing j)], sub, fdOf cf⟩ (wF E0) none m__law_thing (endsF Q0) (startD N__law_thing.length ds) M := by
  intro ds M Q0 E0 hh
  unfold sp_thing at hh
  split at hh
  · rename_i p deep
    obtain ⟨cl, f, n, rfl, hnj, hH, hf, hq⟩ := hh
    have hT := T_ge n
    have hL := Lb_ge n
    refine ⟨rfl, ?_⟩
    unfold m__law_thing
    refine wp_cons ?_
    show DL.wpS _ _ _ _ _ [some (.obj p), some (.int (n : Nat)), none, none] M
    (try simp only [DL.wpS, DL.wpE, DL.wpA, wpT, wpTs, wpBo, DL.wpI, wpIf, wpTg, wpTgs, optI, List.getElem?_cons_zero, List.getElem?_cons_succ, List.set_cons_succ, List.set_cons_zero, vTru, cmpS, vIsK, vLt, vLe, vGt, vGe, vOrd, DL.isNon, addE, subE, biS, rdS, rdL_new, Bool.not_true, Bool.not_false, if_true, if_false, Bool.false_eq_true, Bool.true_eq_false, reduceIte, true_and, and_true, decide_true, decide_false, vGet_0, vGet_1, slcT, addT])
    have main : ∀ many : Int, 0 < many → many < 2 ^ 60 → (many ≤ 4 ∨ 0 < n) → sp_draw [.obj p, .int many] M (fun d M1 => wpSs ⟨[C__law_draw k1 sp_draw, C__law_any k2 sp_any2, C__law_word k3 sp_word, C__law_thing k4 (sp_thing j)], sub, fdOf cf⟩ (wF E0) none (match m__law_thing with | .cons _ r => r | .nil => .nil) (endsF Q0) [some (.obj p), some (.int (n : Nat)), some d, none] M1) (fun x M' => (wF E0) x [some (.obj p), some (.int (n : Nat)), none, none] M') := by
      intro many m0 m1 hmany
      refine ⟨cl, f, hH, by omega, m0, m1, fun N r U H r0 r1 => ?_⟩
      show wpSs _ _ _ (match m__law_thing with | .cons _ r => r | .nil => .nil) _ _ _
      unfold m__law_thing
      refine wp_cons ?_
      (try simp only [DL.wpS, DL.wpE, DL.wpA, wpT, wpTs, wpBo, DL.wpI, wpIf, wpTg, wpTgs, optI, List.getElem?_cons_zero, List.getElem?_cons_succ, List.set_cons_succ, List.set_cons_zero, vTru, cmpS, vIsK, vLt, vLe, vGt, vGe, vOrd, DL.isNon, addE, subE, biS, rdS, rdL_new, Bool.not_true, Bool.not_false, if_true, if_false, Bool.false_eq_true, Bool.true_eq_false, reduceIte, true_and, and_true, decide_true, decide_false, vGet_0, vGet_1, slcT, addT, vEqK])
      by_cases h0 : r = 0
      · simp only [h0, decide_true, if_true]
        refine wp_last ?_
        (try simp only [DL.wpS, DL.wpE, DL.wpA, wpT, wpTs, wpBo, DL.wpI, wpIf, wpTg, wpTgs, optI, List.getElem?_cons_zero, List.getElem?_cons_succ, List.set_cons_succ, List.set_cons_zero, vTru, cmpS, vIsK, vLt, vLe, vGt, vGe, vOrd, DL.isNon, addE, subE, biS, rdS, rdL_new, Bool.not_true, Bool.not_false, if_true, if_false, Bool.false_eq_true, Bool.true_eq_false, reduceIte, true_and, and_true, decide_true, decide_false, vGet_0, vGet_1, slcT, addT, pow30])
        intro q hq0
        have qp := H.fresh hq0
        refine ⟨cl, _, _, H.new hq0, by omega, .inl (.inr ⟨q, rfl, qp, rdL_new⟩), by simp, by simp, fun N2 x U2 H2 hx => ?_⟩
        have hx' : ∃ i : Int, x = .int i ∧ -great ≤ i ∧ i ≤ great := by
          simp only [List.mem_cons, List.not_mem_nil, or_false] at hx
          unfold great
          rcases hx with rfl | rfl | rfl | rfl | rfl | rfl | rfl | rfl | rfl <;> exact ⟨_, rfl, by decide, by decide⟩
        obtain ⟨i, rfl, i1, i2⟩ := hx'
        have hth : isTh n (.int i) = true := by rw [isTh_int, decide_eq_true i1, decide_eq_true i2]; rfl
        have := pk_int_len hth
        exact rt_of (hq N2 _ ((U.upx.new hq0).trans U2.upx) (H2.mono (by omega)) hth (by omega)) Sub.rfl'
      · simp only [h0, decide_false, Bool.false_eq_true, if_false]
        refine wp_nil ?_
        refine wp_cons ?_
        (try simp only [DL.wpS, DL.wpE, DL.wpA, wpT, wpTs, wpBo, DL.wpI, wpIf, wpTg, wpTgs, optI, List.getElem?_cons_zero, List.getElem?_cons_succ, List.set_cons_succ, List.set_cons_zero, vTru, cmpS, vIsK, vLt, vLe, vGt, vGe, vOrd, DL.isNon, addE, subE, biS, rdS, rdL_new, Bool.not_true, Bool.not_false, if_true, if_false, Bool.false_eq_true, Bool.true_eq_false, reduceIte, true_and, and_true, decide_true, decide_false, vGet_0, vGet_1, slcT, addT, vEqK])
        by_cases h1 : r = 1
        · simp only [h1, decide_true, if_true]
          refine wp_last ?_
          (try simp only [DL.wpS, DL.wpE, DL.wpA, wpT, wpTs, wpBo, DL.wpI, wpIf, wpTg, wpTgs, optI, List.getElem?_cons_zero, List.getElem?_cons_succ, List.set_cons_succ, List.set_cons_zero, vTru, cmpS, vIsK, vLt, vLe, vGt, vGe, vOrd, DL.isNon, addE, subE, biS, rdS, rdL_new, Bool.not_true, Bool.not_false, if_true, if_false, Bool.false_eq_true, Bool.true_eq_false, reduceIte, true_and, and_true, decide_true, decide_false, vGet_0, vGet_1, slcT, addT])
          exact rt_of (hq N _ U.upx (H.mono (by omega)) isTh_non (by simp [pk]; omega)) Sub.rfl'
        · simp only [h1, decide_false, Bool.false_eq_true, if_false]
          refine wp_nil ?_
          refine wp_cons ?_
          (try simp only [DL.wpS, DL.wpE, DL.wpA, wpT, wpTs, wpBo, DL.wpI, wpIf, wpTg, wpTgs, optI, List.getElem?_cons_zero, List.getElem?_cons_succ, List.set_cons_succ, List.set_cons_zero, vTru, cmpS, vIsK, vLt, vLe, vGt, vGe, vOrd, DL.isNon, addE, subE, biS, rdS, rdL_new, Bool.not_true, Bool.not_false, if_true, if_false, Bool.false_eq_true, Bool.true_eq_false, reduceIte, true_and, and_true, decide_true, decide_false, vGet_0, vGet_1, slcT, addT])
          by_cases h4 : r < 4
          · (try simp only [DL.wpS, DL.wpE, DL.wpA, wpT, wpTs, wpBo, DL.wpI, wpIf, wpTg, wpTgs, optI, List.getElem?_cons_zero, List.getElem?_cons_succ, List.set_cons_succ, List.set_cons_zero, vTru, cmpS, vIsK, vLt, vLe, vGt, vGe, vOrd, DL.isNon, addE, subE, biS, rdS, rdL_new, Bool.not_true, Bool.not_false, if_true, if_false, Bool.false_eq_true, Bool.true_eq_false, reduceIte, true_and, and_true, decide_true, decide_false, vGet_0, vGet_1, slcT, addT, h4])
            refine wp_last ?_
            (try simp only [DL.wpS, DL.wpE, DL.wpA, wpT, wpTs, wpBo, DL.wpI, wpIf, wpTg, wpTgs, optI, List.getElem?_cons_zero, List.getElem?_cons_succ, List.set_cons_succ, List.set_cons_zero, vTru, cmpS, vIsK, vLt, vLe, vGt, vGe, vOrd, DL.isNon, addE, subE, biS, rdS, rdL_new, Bool.not_true, Bool.not_false, if_true, if_false, Bool.false_eq_true, Bool.true_eq_false, reduceIte, true_and, and_true, decide_true, decide_false, vGet_0, vGet_1, slcT, addT])
            refine ⟨cl, _, H, by omega, fun N2 l U2 H2 hl hs => ?_⟩
            have := pk_str_len (l := l)
            exact rt_of (hq N2 _ (U.upx.trans U2) (H2.mono (by omega)) (by rw [isTh_str]; exact hs) (by omega)) Sub.rfl'
          · (try simp only [DL.wpS, DL.wpE, DL.wpA, wpT, wpTs, wpBo, DL.wpI, wpIf, wpTg, wpTgs, optI, List.getElem?_cons_zero, List.getElem?_cons_succ, List.set_cons_succ, List.set_cons_zero, vTru, cmpS, vIsK, vLt, vLe, vGt, vGe, vOrd, DL.isNon, addE, subE, biS, rdS, rdL_new, Bool.not_true, Bool.not_false, if_true, if_false, Bool.false_eq_true, Bool.true_eq_false, reduceIte, true_and, and_true, decide_true, decide_false, vGet_0, vGet_1, slcT, addT, h4])
            refine wp_nil ?_
            refine wp_last ?_
            have hn0 : 0 < n := by omega
            obtain ⟨n', rfl⟩ : ∃ n', n = n' + 1 := ⟨n - 1, by omega⟩
            have hTn : T (n' + 1) = 3 * T n' + 12 := rfl
            have hLn : Lb (n' + 1) = 3 * Lb n' + 10 := rfl
            (try simp only [DL.wpS, DL.wpE, DL.wpA, wpT, wpTs, wpBo, DL.wpI, wpIf, wpTg, wpTgs, optI, List.getElem?_cons_zero, List.getElem?_cons_succ, List.set_cons_succ, List.set_cons_zero, vTru, cmpS, vIsK, vLt, vLe, vGt, vGe, vOrd, DL.isNon, addE, subE, biS, rdS, rdL_new, Bool.not_true, Bool.not_false, if_true, if_false, Bool.false_eq_true, Bool.true_eq_false, reduceIte, true_and, and_true, decide_true, decide_false, vGet_0, vGet_1, slcT, addT])
            refine ⟨cl, _, H, by omega, by decide, by decide, fun N2 r2 U2 H2 r20 r21 => ?_⟩
            (try simp only [DL.wpS, DL.wpE, DL.wpA, wpT, wpTs, wpBo, DL.wpI, wpIf, wpTg, wpTgs, optI, List.getElem?_cons_zero, List.getElem?_cons_succ, List.set_cons_succ, List.set_cons_zero, vTru, cmpS, vIsK, vLt, vLe, vGt, vGe, vOrd, DL.isNon, addE, subE, biS, rdS, rdL_new, Bool.not_true, Bool.not_false, if_true, if_false, Bool.false_eq_true, Bool.true_eq_false, reduceIte, true_and, and_true, decide_true, decide_false, vGet_0, vGet_1, slcT, addT, rngOf])
            refine ⟨by omega, by omega, ?_⟩
            refine lc_inv (fun jj acc M2 => acc.length = jj ∧ (∀ x ∈ acc, isTh n' x = true ∧ (pk x).length ≤ Lb n') ∧ UpX p M M2 ∧ Hand M2 p cl (f + 2 + jj * T n') ∧ (jj : Int) ≤ r2) (fun _ _ _ _ => trivial) (fun jj d acc M2 Kn hd hP hK => ?_) ⟨rfl, (fun x hx => by cases hx), U.upx.trans U2.upx, H2.mono (by omega), r20⟩ ?_
            · obtain ⟨hj, ha, U3, H3, hjr⟩ := hP
              rw [range_get_z] at hd
              split at hd
              · rename_i hlt
                cases hd
                simp only [wipeD, List.map_cons, List.map_nil]
                (try simp only [DL.wpS, DL.wpE, DL.wpA, wpT, wpTs, wpBo, DL.wpI, wpIf, wpTg, wpTgs, optI, List.getElem?_cons_zero, List.getElem?_cons_succ, List.set_cons_succ, List.set_cons_zero, vTru, cmpS, vIsK, vLt, vLe, vGt, vGe, vOrd, DL.isNon, addE, subE, biS, rdS, rdL_new, Bool.not_true, Bool.not_false, if_true, if_false, Bool.false_eq_true, Bool.true_eq_false, reduceIte, true_and, and_true, decide_true, decide_false, vGet_0, vGet_1, slcT, addT])
                have hjj : jj ≤ 2 := by omega
                have hmul : jj * T n' ≤ 2 * T n' := Nat.mul_le_mul_right _ hjj
                refine ⟨cl, _, n', by omega, by omega, H3, by omega, fun N4 d U4 H4 hth hlen => ?_⟩
                refine ⟨by rw [hj]; unfold big; omega, hK _ _ ⟨by simp [hj], fun x hx => ?_, U3.trans U4, ?_, by omega⟩⟩
                · rcases List.mem_append.mp hx with hx | hx
                  · exact ha x hx
                  · rw [List.mem_singleton] at hx; rw [hx]; exact ⟨hth, hlen⟩
                · exact H4.mono (by rw [Nat.add_mul, Nat.one_mul]; omega)
              · cases hd
            · rintro acc M2 ⟨hj, ha, U3, H3, hjr⟩ q2 hq2
              have hj3 : acc.length ≤ 3 := by rw [hj]; simp; omega
              have H3' : Hand M2 p cl (f + T (n' + 1)) := H3.mono (by
                have : ((List.range r2.toNat).map fun k => D.int ((k : Nat) : Int)).length ≤ 3 := by simp; omega
                have := Nat.mul_le_mul_right (T n') this
                omega)
              (try simp only [DL.wpS, DL.wpE, DL.wpA, wpT, wpTs, wpBo, DL.wpI, wpIf, wpTg, wpTgs, optI, List.getElem?_cons_zero, List.getElem?_cons_succ, List.set_cons_succ, List.set_cons_zero, vTru, cmpS, vIsK, vLt, vLe, vGt, vGe, vOrd, DL.isNon, addE, subE, biS, rdS, rdL_new, Bool.not_true, Bool.not_false, if_true, if_false, Bool.false_eq_true, Bool.true_eq_false, reduceIte, true_and, and_true, decide_true, decide_false, vGet_0, vGet_1, slcT, addT])
              refine rt_of (hq _ _ (U3.new hq2) (H3'.new hq2) ?_ ?_) Sub.rfl'
              · rw [isTh_tup]
                simp only [Nat.add_sub_cancel, Nat.zero_lt_succ, decide_true, Bool.true_and]
                exact List.all_eq_true.mpr fun x hx => (ha x hx).1
              · rw [hLn]
                exact pk_tup_len hj3 fun x hx => (ha x hx).2
    by_cases hn : 0 < n
    · have : (0 : Int) < (n : Nat) := by omega
      (try simp only [DL.wpS, DL.wpE, DL.wpA, wpT, wpTs, wpBo, DL.wpI, wpIf, wpTg, wpTgs, optI, List.getElem?_cons_zero, List.getElem?_cons_succ, List.set_cons_succ, List.set_cons_zero, vTru, cmpS, vIsK, vLt, vLe, vGt, vGe, vOrd, DL.isNon, addE, subE, biS, rdS, rdL_new, Bool.not_true, Bool.not_false, if_true, if_false, Bool.false_eq_true, Bool.true_eq_false, reduceIte, true_and, and_true, decide_true, decide_false, vGet_0, vGet_1, slcT, addT, this])
      exact main 6 (by decide) (by decide) (.inr hn)
    · have : ¬ (0 : Int) < (n : Nat) := by omega
      (try simp only [DL.wpS, DL.wpE, DL.wpA, wpT, wpTs, wpBo, DL.wpI, wpIf, wpTg, wpTgs, optI, List.getElem?_cons_zero, List.getElem?_cons_succ, List.set_cons_succ, List.set_cons_zero, vTru, cmpS, vIsK, vLt, vLe, vGt, vGe, vOrd, DL.isNon, addE, subE, biS, rdS, rdL_new, Bool.not_true, Bool.not_false, if_true, if_false, Bool.false_eq_true, Bool.true_eq_false, reduceIte, true_and, and_true, decide_true, decide_false, vGet_0, vGet_1, slcT, addT, this])
      exact main 4 (by decide) (by decide) (.inl (by decide))
  · exact hh.elim
end H54
set_option Elab.async false
set_option linter.all false
set_option maxRecDepth 100000
set_option maxHeartbeats 1000000
namespace H54
open PySem PySem.Spec PyProof.Rows L2 DL TX
theorem isTh_mono : ∀ {n m : Nat} {d : D}, isTh n d = true → n ≤ m → isTh m d = true := by
  intro n
  induction n with
  | zero =>
    intro m d h l
    cases d with
    | tup xs => cases h
    | non => exact isTh_non
    | int i => rw [isTh_int] at h ⊢; exact h
    | str l => rw [isTh_str] at h ⊢; exact h
    | bl b => cases h
    | obj a => cases h
  | succ n ih =>
    intro m d h l
    cases d with
    | tup xs =>
      rw [isTh_tup, Bool.and_eq_true] at h ⊢
      refine ⟨decide_eq_true (by omega), List.all_eq_true.mpr fun x hx => ih (List.all_eq_true.mp h.2 x hx) (by omega)⟩
    | non => exact isTh_non
    | int i => rw [isTh_int] at h ⊢; exact h
    | str l => rw [isTh_str] at h ⊢; exact h
    | bl b => cases h
    | obj a => cases h
theorem pk_one {x : D} : (pk (.tup [x])).length = (pk x).length + 2 := by simp [pk, pks, joinC]
theorem pk_two {x : D} : (pk (.tup [.non, x])).length = (pk x).length + 4 := by simp [pk, pks, joinC] <;> omega
def sp_nested : SpD := fun ds M Q _ => match ds with
  | [.obj p, .int many] => ∃ (cl : Addr) (f : Nat), 1 ≤ many ∧ many ≤ 30 ∧ Hand M p cl f ∧ f < 2 ^ 50 ∧ ∀ N d, UpX p M N → Hand N p cl (f + 40) → isTh 30 d = true → (pk d).length ≤ 200 → Q d N
  | _ => False
theorem h__law_nested (k1 k2 : Nat) : ∀ ds M Q0 E0, sp_nested ds M Q0 E0 → ds.length = 2 ∧ wpSs ⟨[C__law_any k1 sp_any2, C__law_draw k2 sp_draw], sub, fdOf cf⟩ (wF E0) none m__law_nested (endsF Q0) (startD N__law_nested.length ds) M := by
  intro ds M Q0 E0 hh
  unfold sp_nested at hh
  split at hh
  · rename_i p many
    obtain ⟨cl, f, m1, m30, hH, hf, hq⟩ := hh
    refine ⟨rfl, ?_⟩
    unfold m__law_nested
    refine wp_cons ?_
    show DL.wpS _ _ _ _ _ [some (.obj p), some (.int many), none, none] M
    (try simp only [DL.wpS, DL.wpE, DL.wpA, wpT, wpTs, wpBo, DL.wpI, wpIf, wpTg, wpTgs, optI, List.getElem?_cons_zero, List.getElem?_cons_succ, List.set_cons_succ, List.set_cons_zero, vTru, cmpS, vIsK, vLt, vLe, vGt, vGe, vOrd, DL.isNon, addE, subE, biS, rdS, rdL_new, Bool.not_true, Bool.not_false, if_true, if_false, Bool.false_eq_true, Bool.true_eq_false, reduceIte, true_and, and_true, decide_true, decide_false, vGet_0, vGet_1, slcT, addT])
    intro q hq0
    have qp := hH.fresh hq0
    refine ⟨cl, _, _, hH.new hq0, by omega, .inl (.inr ⟨q, rfl, qp, rdL_new⟩), by simp, by simp, fun N x U H hx => ?_⟩
    have U' : UpX p M N := (UpX.rfl'.new hq0).trans U.upx
    have hx' : isTh 1 x = true ∧ (pk x).length ≤ 5 := by
      simp only [List.mem_cons, List.not_mem_nil, or_false] at hx
      rcases hx with rfl | rfl | rfl
      · exact ⟨by decide, by decide⟩
      · refine ⟨by decide, ?_⟩
        rw [pk_one]
        have : pk (.int 3) = [51] := by
          show icodes ((3 : Nat) : Int) = _
          rw [icodes_nat]; exact TL.numL_lt (by decide)
        rw [this]; decide
      · exact ⟨by decide, by decide⟩
    refine wp_cons ?_
    (try simp only [DL.wpS, DL.wpE, DL.wpA, wpT, wpTs, wpBo, DL.wpI, wpIf, wpTg, wpTgs, optI, List.getElem?_cons_zero, List.getElem?_cons_succ, List.set_cons_succ, List.set_cons_zero, vTru, cmpS, vIsK, vLt, vLe, vGt, vGe, vOrd, DL.isNon, addE, subE, biS, rdS, rdL_new, Bool.not_true, Bool.not_false, if_true, if_false, Bool.false_eq_true, Bool.true_eq_false, reduceIte, true_and, and_true, decide_true, decide_false, vGet_0, vGet_1, slcT, addT, rngOf])
    refine ⟨by omega, by omega, ?_⟩
    refine ⟨fun i ρ M' => ∃ d x3, ρ = [some (.obj p), some (.int many), some d, x3] ∧ UpX p M M' ∧ Hand M' p cl (f + 1 + i) ∧ isTh (i + 1) d = true ∧ (pk d).length ≤ 5 + 4 * i ∧ (i : Int) ≤ many - 1, ⟨x, none, rfl, U', H, hx'.1, by have := hx'.2; omega, by omega⟩, ?_⟩
    rintro i ρ M' ⟨d, x3, rfl, UM, HM, hth, hlen, him⟩
    simp only [range_get_z]
    by_cases hi : (i : Int) < many - 1
    · simp only [hi, if_true]
      (try simp only [DL.wpS, DL.wpE, DL.wpA, wpT, wpTs, wpBo, DL.wpI, wpIf, wpTg, wpTgs, optI, List.getElem?_cons_zero, List.getElem?_cons_succ, List.set_cons_succ, List.set_cons_zero, vTru, cmpS, vIsK, vLt, vLe, vGt, vGe, vOrd, DL.isNon, addE, subE, biS, rdS, rdL_new, Bool.not_true, Bool.not_false, if_true, if_false, Bool.false_eq_true, Bool.true_eq_false, reduceIte, true_and, and_true, decide_true, decide_false, vGet_0, vGet_1, slcT, addT])
      refine wp_last ?_
      (try simp only [DL.wpS, DL.wpE, DL.wpA, wpT, wpTs, wpBo, DL.wpI, wpIf, wpTg, wpTgs, optI, List.getElem?_cons_zero, List.getElem?_cons_succ, List.set_cons_succ, List.set_cons_zero, vTru, cmpS, vIsK, vLt, vLe, vGt, vGe, vOrd, DL.isNon, addE, subE, biS, rdS, rdL_new, Bool.not_true, Bool.not_false, if_true, if_false, Bool.false_eq_true, Bool.true_eq_false, reduceIte, true_and, and_true, decide_true, decide_false, vGet_0, vGet_1, slcT, addT])
      refine ⟨cl, _, HM, by omega, by decide, by decide, fun N2 r U2 H2 r0 r1 => ?_⟩
      (try simp only [DL.wpS, DL.wpE, DL.wpA, wpT, wpTs, wpBo, DL.wpI, wpIf, wpTg, wpTgs, optI, List.getElem?_cons_zero, List.getElem?_cons_succ, List.set_cons_succ, List.set_cons_zero, vTru, cmpS, vIsK, vLt, vLe, vGt, vGe, vOrd, DL.isNon, addE, subE, biS, rdS, rdL_new, Bool.not_true, Bool.not_false, if_true, if_false, Bool.false_eq_true, Bool.true_eq_false, reduceIte, true_and, and_true, decide_true, decide_false, vGet_0, vGet_1, slcT, addT])
      have ht1 : isTh (i + 1 + 1) (.tup [d]) = true := by rw [isTh_tup]; simp [hth]
      have ht2 : isTh (i + 1 + 1) (.tup [.non, d]) = true := by rw [isTh_tup]; simp [hth, isTh_non]
      by_cases hr : 0 < r
      · (try simp only [DL.wpS, DL.wpE, DL.wpA, wpT, wpTs, wpBo, DL.wpI, wpIf, wpTg, wpTgs, optI, List.getElem?_cons_zero, List.getElem?_cons_succ, List.set_cons_succ, List.set_cons_zero, vTru, cmpS, vIsK, vLt, vLe, vGt, vGe, vOrd, DL.isNon, addE, subE, biS, rdS, rdL_new, Bool.not_true, Bool.not_false, if_true, if_false, Bool.false_eq_true, Bool.true_eq_false, reduceIte, true_and, and_true, decide_true, decide_false, vGet_0, vGet_1, slcT, addT, hr])
        exact ⟨N2, Sub.rfl', .tup [d], _, rfl, UM.trans U2.upx, H2.mono (by omega), ht1, by rw [pk_one]; omega, by omega⟩
      · (try simp only [DL.wpS, DL.wpE, DL.wpA, wpT, wpTs, wpBo, DL.wpI, wpIf, wpTg, wpTgs, optI, List.getElem?_cons_zero, List.getElem?_cons_succ, List.set_cons_succ, List.set_cons_zero, vTru, cmpS, vIsK, vLt, vLe, vGt, vGe, vOrd, DL.isNon, addE, subE, biS, rdS, rdL_new, Bool.not_true, Bool.not_false, if_true, if_false, Bool.false_eq_true, Bool.true_eq_false, reduceIte, true_and, and_true, decide_true, decide_false, vGet_0, vGet_1, slcT, addT, hr])
        exact ⟨N2, Sub.rfl', .tup [.non, d], _, rfl, UM.trans U2.upx, H2.mono (by omega), ht2, by rw [pk_two]; omega, by omega⟩
    · simp only [hi, if_false]
      refine wp_last ?_
      (try simp only [DL.wpS, DL.wpE, DL.wpA, wpT, wpTs, wpBo, DL.wpI, wpIf, wpTg, wpTgs, optI, List.getElem?_cons_zero, List.getElem?_cons_succ, List.set_cons_succ, List.set_cons_zero, vTru, cmpS, vIsK, vLt, vLe, vGt, vGe, vOrd, DL.isNon, addE, subE, biS, rdS, rdL_new, Bool.not_true, Bool.not_false, if_true, if_false, Bool.false_eq_true, Bool.true_eq_false, reduceIte, true_and, and_true, decide_true, decide_false, vGet_0, vGet_1, slcT, addT])
      exact rt_of (hq M' d UM (HM.mono (by omega)) (isTh_mono hth (by omega)) (by omega)) Sub.rfl'
  · exact hh.elim
def sp_is_none : SpD := fun ds M Q _ => match ds with
  | [d] => Kw M d ∧ (isTh 30 d = true → (pk d).length ≤ 10000000) ∧ Q (.bl (!isTh 30 d)) M
  | _ => False
theorem h__law_is_none (k1 : Nat) : ∀ ds M Q0 E0, sp_is_none ds M Q0 E0 → ds.length = 1 ∧ wpSs ⟨[C_thing_text k1 sp_thing_text], sub, fdOf cf⟩ (wF E0) none m__law_is_none (endsF Q0) (startD N__law_is_none.length ds) M := by
  intro ds M Q0 E0 h
  unfold sp_is_none at h
  split at h
  · rename_i d
    obtain ⟨hw, hl, hq⟩ := h
    have s11 : sub 1 1 = true := by decide
    have s10 : sub 1 0 = true := by decide
    have f1 : DL.fdOf cf 1 = none := rfl
    refine ⟨rfl, ?_⟩
    unfold m__law_is_none
    refine wp_cons ?_
    show DL.wpS _ _ _ _ _ [some d, none, none] M
    (try simp only [DL.wpS, DL.wpE, DL.wpA, wpT, wpTs, wpBo, DL.wpI, wpIf, wpTg, wpTgs, optI, List.getElem?_cons_zero, List.getElem?_cons_succ, List.set_cons_succ, List.set_cons_zero, vTru, cmpS, vIsK, vLt, vLe, vGt, vGe, vOrd, DL.isNon, addE, subE, biS, rdS, rdL_new, Bool.not_true, Bool.not_false, if_true, if_false, Bool.false_eq_true, Bool.true_eq_false, reduceIte, true_and, and_true, decide_true, decide_false, vGet_0, vGet_1, slcT, addT])
    refine wp_cut (fun ρ2 M2 => ∃ b, ρ2 = [some d, some (.bl b), none] ∧ M2 = M ∧ b = !isTh 30 d) ?_ ?_
    · unfold DL.wpS
      refine wp_last ?_
      (try simp only [DL.wpS, DL.wpE, DL.wpA, wpT, wpTs, wpBo, DL.wpI, wpIf, wpTg, wpTgs, optI, List.getElem?_cons_zero, List.getElem?_cons_succ, List.set_cons_succ, List.set_cons_zero, vTru, cmpS, vIsK, vLt, vLe, vGt, vGe, vOrd, DL.isNon, addE, subE, biS, rdS, rdL_new, Bool.not_true, Bool.not_false, if_true, if_false, Bool.false_eq_true, Bool.true_eq_false, reduceIte, true_and, and_true, decide_true, decide_false, vGet_0, vGet_1, slcT, addT])
      refine ⟨hw, fun ht => ⟨hl ht, ?_⟩, fun ht => ?_⟩
      · exact ⟨false, rfl, rfl, by rw [ht]; rfl⟩
      · simp only [wpHs, s11, if_true]
        intro a
        refine wp_last ?_
        (try simp only [DL.wpS, DL.wpE, DL.wpA, wpT, wpTs, wpBo, DL.wpI, wpIf, wpTg, wpTgs, optI, List.getElem?_cons_zero, List.getElem?_cons_succ, List.set_cons_succ, List.set_cons_zero, vTru, cmpS, vIsK, vLt, vLe, vGt, vGe, vOrd, DL.isNon, addE, subE, biS, rdS, rdL_new, Bool.not_true, Bool.not_false, if_true, if_false, Bool.false_eq_true, Bool.true_eq_false, reduceIte, true_and, and_true, decide_true, decide_false, vGet_0, vGet_1, slcT, addT, f1, s10])
        first
        | exact ⟨true, rfl, by rw [ht]; rfl⟩
        | exact ⟨true, rfl, rfl, by rw [ht]; rfl⟩
    · rintro ρ2 M2 ⟨b, rfl, rfl, rfl⟩
      refine ⟨M2, Sub.rfl', ?_⟩
      refine wp_last ?_
      (try simp only [DL.wpS, DL.wpE, DL.wpA, wpT, wpTs, wpBo, DL.wpI, wpIf, wpTg, wpTgs, optI, List.getElem?_cons_zero, List.getElem?_cons_succ, List.set_cons_succ, List.set_cons_zero, vTru, cmpS, vIsK, vLt, vLe, vGt, vGe, vOrd, DL.isNon, addE, subE, biS, rdS, rdL_new, Bool.not_true, Bool.not_false, if_true, if_false, Bool.false_eq_true, Bool.true_eq_false, reduceIte, true_and, and_true, decide_true, decide_false, vGet_0, vGet_1, slcT, addT])
      exact rt_of hq Sub.rfl'
  · exact h.elim
/-! ### plain things -/
inductive Lf (M : Mem) : D → Prop
  | non : Lf M .non
  | bl (b : Bool) : Lf M (.bl b)
  | int (i : Int) : Lf M (.int i)
  | str (l : List Nat) (h : (l.all fun c => decide (c < 0x110000)) = true) : Lf M (.str l)
  | nil : Lf M (.tup [])
  | two : Lf M (.tup [.int 1, .bl true])
  | obj (a : Addr) (h : isLd M a = true) : Lf M (.obj a)
inductive Un (M : Mem) : D → Prop
  | lf (d : D) (h : Lf M d) : Un M d
  | one (d : D) (h : Un M d) : Un M (.tup [d])
def isP : D → Bool
  | .non => true
  | .int i => decide (i = 0)
  | .tup [] => true
  | .tup [x] => isP x
  | _ => false
theorem isLd_kn {M : Mem} {a : Addr} (h : isLd M a = true) : kn M (.obj a) = true := by
  unfold isLd at h
  show (match M a with | some (.lst _) => some "list" | some (.ro _) => some "list" | some (.dct _) => some "dict" | _ => (none : Option String)).isSome = true
  cases hM : M a with
  | none => rw [hM] at h; cases h
  | some o =>
    rw [hM] at h
    cases o <;> first | rfl | exact h | cases h
theorem Un.kn {M : Mem} {d : D} (h : Un M d) : kn M d = true := by
  cases h with
  | lf _ h => cases h with
    | obj a h => exact isLd_kn h
    | _ => rfl
  | one _ _ => rfl
def dep : D → Nat
  | .tup [x] => dep x + 1
  | _ => 0
def sp_is_plain : SpD := fun ds M Q _ => match ds with
  | [d] => Un M d ∧ Q (.bl (isP d)) M
  | _ => False
theorem h__law_is_plain : ∀ ds M Q0 E0, sp_is_plain ds M Q0 E0 → ds.length = 1 ∧ wpSs ⟨[], sub, fdOf cf⟩ (wF E0) none m__law_is_plain (endsF Q0) (startD N__law_is_plain.length ds) M := by
  intro ds M Q0 E0 h
  unfold sp_is_plain at h
  split at h
  · rename_i d
    obtain ⟨hU, hq⟩ := h
    refine ⟨rfl, ?_⟩
    unfold m__law_is_plain
    refine wp_cut (fun ρ2 M2 => ∃ x, ρ2 = [some x] ∧ M2 = M ∧ Lf M x ∧ isP x = isP d) ?_ ?_
    · show DL.wpS _ _ _ _ _ [some d] M
      unfold DL.wpS
      refine ⟨fun m ρ' M' => ∃ x, m = dep x ∧ ρ' = [some x] ∧ M' = M ∧ Un M x ∧ isP x = isP d, ⟨_, d, rfl, rfl, rfl, hU, rfl⟩, ?_⟩
      rintro m ρ' M' ⟨x, rfl, rfl, rfl, hx, hp⟩
      have hk := hx.kn
      (try simp only [DL.wpS, DL.wpE, DL.wpA, wpT, wpTs, wpBo, DL.wpI, wpIf, wpTg, wpTgs, optI, List.getElem?_cons_zero, List.getElem?_cons_succ, List.set_cons_succ, List.set_cons_zero, vTru, cmpS, vIsK, vLt, vLe, vGt, vGe, vOrd, DL.isNon, addE, subE, biS, rdS, rdL_new, Bool.not_true, Bool.not_false, if_true, if_false, Bool.false_eq_true, Bool.true_eq_false, reduceIte, true_and, and_true, decide_true, decide_false, vGet_0, vGet_1, slcT, addT, isi_tup hk])
      cases hx with
      | one y hy =>
        (try simp only [DL.wpS, DL.wpE, DL.wpA, wpT, wpTs, wpBo, DL.wpI, wpIf, wpTg, wpTgs, optI, List.getElem?_cons_zero, List.getElem?_cons_succ, List.set_cons_succ, List.set_cons_zero, vTru, cmpS, vIsK, vLt, vLe, vGt, vGe, vOrd, DL.isNon, addE, subE, biS, rdS, rdL_new, Bool.not_true, Bool.not_false, if_true, if_false, Bool.false_eq_true, Bool.true_eq_false, reduceIte, true_and, and_true, decide_true, decide_false, vGet_0, vGet_1, slcT, addT, isTp, List.length_cons, List.length_nil, vEqK])
        refine wp_last ?_
        (try simp only [DL.wpS, DL.wpE, DL.wpA, wpT, wpTs, wpBo, DL.wpI, wpIf, wpTg, wpTgs, optI, List.getElem?_cons_zero, List.getElem?_cons_succ, List.set_cons_succ, List.set_cons_zero, vTru, cmpS, vIsK, vLt, vLe, vGt, vGe, vOrd, DL.isNon, addE, subE, biS, rdS, rdL_new, Bool.not_true, Bool.not_false, if_true, if_false, Bool.false_eq_true, Bool.true_eq_false, reduceIte, true_and, and_true, decide_true, decide_false, vGet_0, vGet_1, slcT, addT])
        exact ⟨dep y, M', by simp [dep], Sub.rfl', y, rfl, rfl, rfl, hy, hp⟩
      | lf _ hl =>
        cases hl with
        | nil =>
          (try simp only [DL.wpS, DL.wpE, DL.wpA, wpT, wpTs, wpBo, DL.wpI, wpIf, wpTg, wpTgs, optI, List.getElem?_cons_zero, List.getElem?_cons_succ, List.set_cons_succ, List.set_cons_zero, vTru, cmpS, vIsK, vLt, vLe, vGt, vGe, vOrd, DL.isNon, addE, subE, biS, rdS, rdL_new, Bool.not_true, Bool.not_false, if_true, if_false, Bool.false_eq_true, Bool.true_eq_false, reduceIte, true_and, and_true, decide_true, decide_false, vGet_0, vGet_1, slcT, addT, isTp, List.length_nil, vEqK])
          exact ⟨_, rfl, .nil, hp⟩
        | two =>
          (try simp only [DL.wpS, DL.wpE, DL.wpA, wpT, wpTs, wpBo, DL.wpI, wpIf, wpTg, wpTgs, optI, List.getElem?_cons_zero, List.getElem?_cons_succ, List.set_cons_succ, List.set_cons_zero, vTru, cmpS, vIsK, vLt, vLe, vGt, vGe, vOrd, DL.isNon, addE, subE, biS, rdS, rdL_new, Bool.not_true, Bool.not_false, if_true, if_false, Bool.false_eq_true, Bool.true_eq_false, reduceIte, true_and, and_true, decide_true, decide_false, vGet_0, vGet_1, slcT, addT, isTp, List.length_cons, List.length_nil, vEqK])
          exact ⟨_, rfl, .two, hp⟩
        | non => (try simp only [DL.wpS, DL.wpE, DL.wpA, wpT, wpTs, wpBo, DL.wpI, wpIf, wpTg, wpTgs, optI, List.getElem?_cons_zero, List.getElem?_cons_succ, List.set_cons_succ, List.set_cons_zero, vTru, cmpS, vIsK, vLt, vLe, vGt, vGe, vOrd, DL.isNon, addE, subE, biS, rdS, rdL_new, Bool.not_true, Bool.not_false, if_true, if_false, Bool.false_eq_true, Bool.true_eq_false, reduceIte, true_and, and_true, decide_true, decide_false, vGet_0, vGet_1, slcT, addT, isTp]); exact ⟨_, rfl, .non, hp⟩
        | bl b => (try simp only [DL.wpS, DL.wpE, DL.wpA, wpT, wpTs, wpBo, DL.wpI, wpIf, wpTg, wpTgs, optI, List.getElem?_cons_zero, List.getElem?_cons_succ, List.set_cons_succ, List.set_cons_zero, vTru, cmpS, vIsK, vLt, vLe, vGt, vGe, vOrd, DL.isNon, addE, subE, biS, rdS, rdL_new, Bool.not_true, Bool.not_false, if_true, if_false, Bool.false_eq_true, Bool.true_eq_false, reduceIte, true_and, and_true, decide_true, decide_false, vGet_0, vGet_1, slcT, addT, isTp]); exact ⟨_, rfl, .bl b, hp⟩
        | int i => (try simp only [DL.wpS, DL.wpE, DL.wpA, wpT, wpTs, wpBo, DL.wpI, wpIf, wpTg, wpTgs, optI, List.getElem?_cons_zero, List.getElem?_cons_succ, List.set_cons_succ, List.set_cons_zero, vTru, cmpS, vIsK, vLt, vLe, vGt, vGe, vOrd, DL.isNon, addE, subE, biS, rdS, rdL_new, Bool.not_true, Bool.not_false, if_true, if_false, Bool.false_eq_true, Bool.true_eq_false, reduceIte, true_and, and_true, decide_true, decide_false, vGet_0, vGet_1, slcT, addT, isTp]); exact ⟨_, rfl, .int i, hp⟩
        | str l h => (try simp only [DL.wpS, DL.wpE, DL.wpA, wpT, wpTs, wpBo, DL.wpI, wpIf, wpTg, wpTgs, optI, List.getElem?_cons_zero, List.getElem?_cons_succ, List.set_cons_succ, List.set_cons_zero, vTru, cmpS, vIsK, vLt, vLe, vGt, vGe, vOrd, DL.isNon, addE, subE, biS, rdS, rdL_new, Bool.not_true, Bool.not_false, if_true, if_false, Bool.false_eq_true, Bool.true_eq_false, reduceIte, true_and, and_true, decide_true, decide_false, vGet_0, vGet_1, slcT, addT, isTp]); exact ⟨_, rfl, .str l h, hp⟩
        | obj a h => (try simp only [DL.wpS, DL.wpE, DL.wpA, wpT, wpTs, wpBo, DL.wpI, wpIf, wpTg, wpTgs, optI, List.getElem?_cons_zero, List.getElem?_cons_succ, List.set_cons_succ, List.set_cons_zero, vTru, cmpS, vIsK, vLt, vLe, vGt, vGe, vOrd, DL.isNon, addE, subE, biS, rdS, rdL_new, Bool.not_true, Bool.not_false, if_true, if_false, Bool.false_eq_true, Bool.true_eq_false, reduceIte, true_and, and_true, decide_true, decide_false, vGet_0, vGet_1, slcT, addT, isTp]); exact ⟨_, rfl, .obj a h, hp⟩
    · rintro ρ2 M2 ⟨x, rfl, rfl, hl, hp⟩
      refine ⟨M2, Sub.rfl', ?_⟩
      have hk := (Un.lf x hl).kn
      have done : ∀ {b : Bool}, isP x = b → (endsF Q0).rt (.bl b) M2 := fun e => rt_of (by rw [← e, hp]; exact hq) Sub.rfl'
      refine wp_last ?_
      (try simp only [DL.wpS, DL.wpE, DL.wpA, wpT, wpTs, wpBo, DL.wpI, wpIf, wpTg, wpTgs, optI, List.getElem?_cons_zero, List.getElem?_cons_succ, List.set_cons_succ, List.set_cons_zero, vTru, cmpS, vIsK, vLt, vLe, vGt, vGe, vOrd, DL.isNon, addE, subE, biS, rdS, rdL_new, Bool.not_true, Bool.not_false, if_true, if_false, Bool.false_eq_true, Bool.true_eq_false, reduceIte, true_and, and_true, decide_true, decide_false, vGet_0, vGet_1, slcT, addT, isi_tup hk, isi_bool hk])
      cases hl with
      | non => (try simp only [DL.wpS, DL.wpE, DL.wpA, wpT, wpTs, wpBo, DL.wpI, wpIf, wpTg, wpTgs, optI, List.getElem?_cons_zero, List.getElem?_cons_succ, List.set_cons_succ, List.set_cons_zero, vTru, cmpS, vIsK, vLt, vLe, vGt, vGe, vOrd, DL.isNon, addE, subE, biS, rdS, rdL_new, Bool.not_true, Bool.not_false, if_true, if_false, Bool.false_eq_true, Bool.true_eq_false, reduceIte, true_and, and_true, decide_true, decide_false, vGet_0, vGet_1, slcT, addT]); exact done rfl
      | bl b => (try simp only [DL.wpS, DL.wpE, DL.wpA, wpT, wpTs, wpBo, DL.wpI, wpIf, wpTg, wpTgs, optI, List.getElem?_cons_zero, List.getElem?_cons_succ, List.set_cons_succ, List.set_cons_zero, vTru, cmpS, vIsK, vLt, vLe, vGt, vGe, vOrd, DL.isNon, addE, subE, biS, rdS, rdL_new, Bool.not_true, Bool.not_false, if_true, if_false, Bool.false_eq_true, Bool.true_eq_false, reduceIte, true_and, and_true, decide_true, decide_false, vGet_0, vGet_1, slcT, addT, isTp, isB]); exact done rfl
      | int i => (try simp only [DL.wpS, DL.wpE, DL.wpA, wpT, wpTs, wpBo, DL.wpI, wpIf, wpTg, wpTgs, optI, List.getElem?_cons_zero, List.getElem?_cons_succ, List.set_cons_succ, List.set_cons_zero, vTru, cmpS, vIsK, vLt, vLe, vGt, vGe, vOrd, DL.isNon, addE, subE, biS, rdS, rdL_new, Bool.not_true, Bool.not_false, if_true, if_false, Bool.false_eq_true, Bool.true_eq_false, reduceIte, true_and, and_true, decide_true, decide_false, vGet_0, vGet_1, slcT, addT, isTp, isB, vEqK]); exact done rfl
      | str l h =>
        have e := vEq_pl (neg := false) (d := .str l) (e := .int 0) (M := M2) (by simpa [plD] using h) rfl
        (try simp only [DL.wpS, DL.wpE, DL.wpA, wpT, wpTs, wpBo, DL.wpI, wpIf, wpTg, wpTgs, optI, List.getElem?_cons_zero, List.getElem?_cons_succ, List.set_cons_succ, List.set_cons_zero, vTru, cmpS, vIsK, vLt, vLe, vGt, vGe, vOrd, DL.isNon, addE, subE, biS, rdS, rdL_new, Bool.not_true, Bool.not_false, if_true, if_false, Bool.false_eq_true, Bool.true_eq_false, reduceIte, true_and, and_true, decide_true, decide_false, vGet_0, vGet_1, slcT, addT, isTp, isB, e])
        have e2 : eqX (.str l) (.int 0) = false := by simp [eqX, toPd, PyData.eqv]
        rw [e2]
        exact done rfl
      | nil =>
        have e := vEq_nil (neg := false) (xs := []) (M := M2) rfl
        (try simp only [DL.wpS, DL.wpE, DL.wpA, wpT, wpTs, wpBo, DL.wpI, wpIf, wpTg, wpTgs, optI, List.getElem?_cons_zero, List.getElem?_cons_succ, List.set_cons_succ, List.set_cons_zero, vTru, cmpS, vIsK, vLt, vLe, vGt, vGe, vOrd, DL.isNon, addE, subE, biS, rdS, rdL_new, Bool.not_true, Bool.not_false, if_true, if_false, Bool.false_eq_true, Bool.true_eq_false, reduceIte, true_and, and_true, decide_true, decide_false, vGet_0, vGet_1, slcT, addT, isTp, e])
        exact done rfl
      | two =>
        have e := vEq_nil (neg := false) (xs := [.int 1, .bl true]) (M := M2) rfl
        have e' := vEq_pl (neg := false) (d := .tup [.int 1, .bl true]) (e := .int 0) (M := M2) rfl rfl
        (try simp only [DL.wpS, DL.wpE, DL.wpA, wpT, wpTs, wpBo, DL.wpI, wpIf, wpTg, wpTgs, optI, List.getElem?_cons_zero, List.getElem?_cons_succ, List.set_cons_succ, List.set_cons_zero, vTru, cmpS, vIsK, vLt, vLe, vGt, vGe, vOrd, DL.isNon, addE, subE, biS, rdS, rdL_new, Bool.not_true, Bool.not_false, if_true, if_false, Bool.false_eq_true, Bool.true_eq_false, reduceIte, true_and, and_true, decide_true, decide_false, vGet_0, vGet_1, slcT, addT, isTp, e, List.isEmpty_cons])
        (try simp only [DL.wpS, DL.wpE, DL.wpA, wpT, wpTs, wpBo, DL.wpI, wpIf, wpTg, wpTgs, optI, List.getElem?_cons_zero, List.getElem?_cons_succ, List.set_cons_succ, List.set_cons_zero, vTru, cmpS, vIsK, vLt, vLe, vGt, vGe, vOrd, DL.isNon, addE, subE, biS, rdS, rdL_new, Bool.not_true, Bool.not_false, if_true, if_false, Bool.false_eq_true, Bool.true_eq_false, reduceIte, true_and, and_true, decide_true, decide_false, vGet_0, vGet_1, slcT, addT, isi_bool hk, isB, e'])
        have e2 : eqX (.tup [.int 1, .bl true]) (.int 0) = false := by simp [eqX, toPd, PyData.eqv]
        rw [e2]
        exact done rfl
      | obj a h =>
        (try simp only [DL.wpS, DL.wpE, DL.wpA, wpT, wpTs, wpBo, DL.wpI, wpIf, wpTg, wpTgs, optI, List.getElem?_cons_zero, List.getElem?_cons_succ, List.set_cons_succ, List.set_cons_zero, vTru, cmpS, vIsK, vLt, vLe, vGt, vGe, vOrd, DL.isNon, addE, subE, biS, rdS, rdL_new, Bool.not_true, Bool.not_false, if_true, if_false, Bool.false_eq_true, Bool.true_eq_false, reduceIte, true_and, and_true, decide_true, decide_false, vGet_0, vGet_1, slcT, addT, isTp, isB, vEqK, h])
        exact done rfl
  · exact h.elim
end H54
set_option Elab.async false
set_option linter.all false
set_option maxRecDepth 100000
set_option maxHeartbeats 1000000
namespace H54
open PySem PySem.Spec PyProof.Rows L2 DL TX
abbrev okc (l : List Nat) : Prop := (l.all fun c => decide (c < 0x110000)) = true
theorem cut_len {xs : List Nat} (lo hi : Option Int) : (cut xs lo hi).length ≤ xs.length := by
  unfold cut
  rw [List.length_take, List.length_drop]; omega
theorem cut_ok {xs : List Nat} (h : okc xs) (lo hi : Option Int) : okc (cut xs lo hi) := by
  unfold cut okc at *
  rw [List.all_eq_true] at h ⊢
  exact fun x hx => h x (List.mem_of_mem_drop (List.mem_of_mem_take hx))
theorem ok_app {a b : List Nat} (h : okc a) (h' : okc b) : okc (a ++ b) := by
  unfold okc at *
  rw [List.all_append, h, h']; rfl
theorem ok_rev {a : List Nat} (h : okc a) : okc a.reverse := by
  unfold okc at *
  rw [List.all_reverse]; exact h
def sp_changed : SpD := fun ds M Q _ => match ds with
  | [.obj p, .str t] => ∃ (cl : Addr) (f : Nat), Hand M p cl f ∧ f < 2 ^ 50 ∧ t.length ≤ 10000 ∧ okc t ∧ ∀ N l, UpX p M N → Hand N p cl (f + 3) → l.length ≤ 30000 → okc l → Q (.str l) N
  | _ => False
theorem h__law_changed (k1 k2 : Nat) : ∀ ds M Q0 E0, sp_changed ds M Q0 E0 → ds.length = 2 ∧ wpSs ⟨[C__law_draw k1 sp_draw, C__law_any k2 sp_any2], sub, fdOf cf⟩ (wF E0) none m__law_changed (endsF Q0) (startD N__law_changed.length ds) M := by
  intro ds M Q0 E0 hh
  unfold sp_changed at hh
  split at hh
  · rename_i p t
    obtain ⟨cl, f, hH, hf, hl, ht, hq⟩ := hh
    have hbig : t.length ≤ big := by unfold big; omega
    refine ⟨rfl, ?_⟩
    unfold m__law_changed
    refine wp_cons ?_
    show DL.wpS _ _ _ _ _ [some (.obj p), some (.str t), none, none, none] M
    (try simp only [DL.wpS, DL.wpE, DL.wpA, wpT, wpTs, wpBo, DL.wpI, wpIf, wpTg, wpTgs, optI, List.getElem?_cons_zero, List.getElem?_cons_succ, List.set_cons_succ, List.set_cons_zero, vTru, cmpS, vIsK, vLt, vLe, vGt, vGe, vOrd, DL.isNon, addE, subE, biS, rdS, rdL_new, Bool.not_true, Bool.not_false, if_true, if_false, Bool.false_eq_true, Bool.true_eq_false, reduceIte, true_and, and_true, decide_true, decide_false, vGet_0, vGet_1, slcT, addT, hbig])
    refine ⟨cl, f, hH, by omega, by omega, by omega, fun N r U H r0 r1 => ?_⟩
    (try simp only [DL.wpS, DL.wpE, DL.wpA, wpT, wpTs, wpBo, DL.wpI, wpIf, wpTg, wpTgs, optI, List.getElem?_cons_zero, List.getElem?_cons_succ, List.set_cons_succ, List.set_cons_zero, vTru, cmpS, vIsK, vLt, vLe, vGt, vGe, vOrd, DL.isNon, addE, subE, biS, rdS, rdL_new, Bool.not_true, Bool.not_false, if_true, if_false, Bool.false_eq_true, Bool.true_eq_false, reduceIte, true_and, and_true, decide_true, decide_false, vGet_0, vGet_1, slcT, addT])
    refine wp_cons ?_
    (try simp only [DL.wpS, DL.wpE, DL.wpA, wpT, wpTs, wpBo, DL.wpI, wpIf, wpTg, wpTgs, optI, List.getElem?_cons_zero, List.getElem?_cons_succ, List.set_cons_succ, List.set_cons_zero, vTru, cmpS, vIsK, vLt, vLe, vGt, vGe, vOrd, DL.isNon, addE, subE, biS, rdS, rdL_new, Bool.not_true, Bool.not_false, if_true, if_false, Bool.false_eq_true, Bool.true_eq_false, reduceIte, true_and, and_true, decide_true, decide_false, vGet_0, vGet_1, slcT, addT])
    refine ⟨cl, _, _, H, by omega, .inr ⟨_, rfl, rfl⟩, by simp, by simp, fun N2 x U2 H2 hx => ?_⟩
    obtain ⟨sc, hsc, rfl⟩ := List.mem_map.mp hx
    have hok : okc [sc] := by
      simp only [List.mem_cons, List.not_mem_nil, or_false] at hsc
      rcases hsc with rfl | rfl | rfl | rfl | rfl | rfl | rfl | rfl | rfl | rfl | rfl | rfl | rfl | rfl | rfl | rfl <;> decide
    have UU : UpX p M N2 := U.upx.trans U2.upx
    have l1 := cut_len (xs := t) none (some r)
    have o1 := cut_ok ht none (some r)
    have l2 := cut_len (xs := t) (some r) none
    have o2 := cut_ok ht (some r) none
    have l3 := cut_len (xs := t) (some (r + 1)) none
    have o3 := cut_ok ht (some (r + 1)) none
    have l4 := cut_len (xs := t) (some r) (some (r + 2))
    have o4 := cut_ok ht (some r) (some (r + 2))
    have l5 := cut_len (xs := t) (some (r + 2)) none
    have o5 := cut_ok ht (some (r + 2)) none
    refine wp_cons ?_
    (try simp only [DL.wpS, DL.wpE, DL.wpA, wpT, wpTs, wpBo, DL.wpI, wpIf, wpTg, wpTgs, optI, List.getElem?_cons_zero, List.getElem?_cons_succ, List.set_cons_succ, List.set_cons_zero, vTru, cmpS, vIsK, vLt, vLe, vGt, vGe, vOrd, DL.isNon, addE, subE, biS, rdS, rdL_new, Bool.not_true, Bool.not_false, if_true, if_false, Bool.false_eq_true, Bool.true_eq_false, reduceIte, true_and, and_true, decide_true, decide_false, vGet_0, vGet_1, slcT, addT, vSlc, hbig, vAdd, binS])
    generalize hc1 : cut t none (some r) = c1 at l1 o1 ⊢
    generalize hc2 : cut t (some r) none = c2 at l2 o2 ⊢
    generalize cut t (some (r + 1)) none = c3 at l3 o3 ⊢
    refine ⟨by simp [big]; omega, by simp [big]; omega, by simp [big]; omega, by simp [big]; omega, by simp [big]; omega, fun q hq0 => ?_⟩
    have qp := H2.fresh hq0
    refine wp_cons ?_
    (try simp only [DL.wpS, DL.wpE, DL.wpA, wpT, wpTs, wpBo, DL.wpI, wpIf, wpTg, wpTgs, optI, List.getElem?_cons_zero, List.getElem?_cons_succ, List.set_cons_succ, List.set_cons_zero, vTru, cmpS, vIsK, vLt, vLe, vGt, vGe, vOrd, DL.isNon, addE, subE, biS, rdS, rdL_new, Bool.not_true, Bool.not_false, if_true, if_false, Bool.false_eq_true, Bool.true_eq_false, reduceIte, true_and, and_true, decide_true, decide_false, vGet_0, vGet_1, slcT, addT, recv, BM.ty, vSlc, hbig, vAdd, binS, vRev, hc1, hc2])
    generalize cut t (some r) (some (r + 2)) = c4 at l4 o4 ⊢
    generalize cut t (some (r + 2)) none = c5 at l5 o5 ⊢
    refine ⟨by simp, by omega, by simp [big]; omega, by simp [big]; omega, by simp [big]; omega, by simp [big]; omega, fun q2 hq2 => ?_⟩
    obtain ⟨n21, hq2'⟩ := mup_none hq2
    have Mq : mup (mup N2 q (.lst [.str (c1 ++ [sc] ++ c2), .str (c1 ++ c3), .str (c1 ++ [sc] ++ c3), .str c1])) q2 (.lst [.str (c1 ++ c4.reverse ++ c5), .str (t ++ [sc]), .str (t ++ t), .str c2]) q = some (.lst [.str (c1 ++ [sc] ++ c2), .str (c1 ++ c3), .str (c1 ++ [sc] ++ c3), .str c1]) := by
      rw [mup_ne (Ne.symm n21), mup_same]
    (try simp only [DL.wpS, DL.wpE, DL.wpA, wpT, wpTs, wpBo, DL.wpI, wpIf, wpTg, wpTgs, optI, List.getElem?_cons_zero, List.getElem?_cons_succ, List.set_cons_succ, List.set_cons_zero, vTru, cmpS, vIsK, vLt, vLe, vGt, vGe, vOrd, DL.isNon, addE, subE, biS, rdS, rdL_new, Bool.not_true, Bool.not_false, if_true, if_false, Bool.false_eq_true, Bool.true_eq_false, reduceIte, true_and, and_true, decide_true, decide_false, vGet_0, vGet_1, slcT, addT, bmS, Mq, mup_same, List.length_cons, List.length_nil])
    refine ⟨by decide, ?_⟩
    have UN : UpX p M (mup (mup N2 q (.lst [.str (c1 ++ [sc] ++ c2), .str (c1 ++ c3), .str (c1 ++ [sc] ++ c3), .str c1])) q2 (.lst [.str (c1 ++ c4.reverse ++ c5), .str (t ++ [sc]), .str (t ++ t), .str c2])) := (UU.new hq0).new hq2
    have HN := (H2.new (o := .lst [.str (c1 ++ [sc] ++ c2), .str (c1 ++ c3), .str (c1 ++ [sc] ++ c3), .str c1]) hq0).new (o := .lst [.str (c1 ++ c4.reverse ++ c5), .str (t ++ [sc]), .str (t ++ t), .str c2]) hq2
    have hqN : N2 q = none := hq0
    have hcl : q ≠ cl := fun z => by
      obtain ⟨xs, h1, h2⟩ := H2.cell
      exact rdL_some h1 (z ▸ hq0)
    have hqM : M q = none := UU.none H2.ne hq0
    refine wp_last ?_
    (try simp only [DL.wpS, DL.wpE, DL.wpA, wpT, wpTs, wpBo, DL.wpI, wpIf, wpTg, wpTgs, optI, List.getElem?_cons_zero, List.getElem?_cons_succ, List.set_cons_succ, List.set_cons_zero, vTru, cmpS, vIsK, vLt, vLe, vGt, vGe, vOrd, DL.isNon, addE, subE, biS, rdS, rdL_new, Bool.not_true, Bool.not_false, if_true, if_false, Bool.false_eq_true, Bool.true_eq_false, reduceIte, true_and, and_true, decide_true, decide_false, vGet_0, vGet_1, slcT, addT])
    refine ⟨cl, _, _, HN.put qp hcl, by omega, .inl (.inr ⟨q, rfl, qp, rdL_new⟩), by simp, by simp, fun N5 x U5 H5 hx => ?_⟩
    have : ∃ l, x = .str l ∧ l.length ≤ 30000 ∧ okc l := by
      simp only [List.cons_append, List.nil_append, List.mem_cons, List.not_mem_nil, or_false] at hx
      rcases hx with rfl | rfl | rfl | rfl | rfl | rfl | rfl | rfl
      · exact ⟨_, rfl, by simp; omega, by first | exact ok_app (ok_app o1 hok) o2 | (have := ok_app (ok_app o1 hok) o2; simpa using this)⟩
      · exact ⟨_, rfl, by simp; omega, ok_app o1 o3⟩
      · exact ⟨_, rfl, by simp; omega, by first | exact ok_app (ok_app o1 hok) o3 | (have := ok_app (ok_app o1 hok) o3; simpa using this)⟩
      · exact ⟨_, rfl, by omega, o1⟩
      · exact ⟨_, rfl, by simp; omega, ok_app (ok_app o1 (ok_rev o4)) o5⟩
      · exact ⟨_, rfl, by simp; omega, ok_app ht hok⟩
      · exact ⟨_, rfl, by simp; omega, ok_app ht ht⟩
      · exact ⟨_, rfl, by omega, o2⟩
    obtain ⟨l, rfl, hll, hlo⟩ := this
    exact rt_of (hq N5 l ((UN.put hqM).trans U5.upx) (H5.mono (by omega)) hll hlo) Sub.rfl'
  · exact hh.elim
theorem isLd_upx {p : Addr} {M N : Mem} (h : UpX p M N) (hp : isLd N p = true) {a : Addr} (k : isLd M a = true) : isLd N a = true := by
  by_cases z : a = p
  · rw [z]; exact hp
  · unfold isLd at k ⊢
    cases e : M a with
    | none => rw [e] at k; cases k
    | some o => rw [h a o z e]; rw [e] at k; exact k
theorem Lf.upx {p : Addr} {M N : Mem} (h : UpX p M N) (hp : isLd N p = true) {d : D} (k : Lf M d) : Lf N d := by
  cases k with
  | obj a z => exact .obj a (isLd_upx h hp z)
  | non => exact .non
  | bl b => exact .bl b
  | int i => exact .int i
  | str l z => exact .str l z
  | nil => exact .nil
  | two => exact .two
theorem Un.upx {p : Addr} {M N : Mem} (h : UpX p M N) (hp : isLd N p = true) {d : D} (k : Un M d) : Un N d := by
  induction k with
  | lf d z => exact .lf d (z.upx h hp)
  | one d _ ih => exact .one d ih
theorem Hand.ld {M : Mem} {p cl : Addr} {f : Nat} (h : Hand M p cl f) : isLd M p = true := by
  obtain ⟨cells, h', a, b⟩ := h
  unfold isLd
  rw [a.at_]
theorem isLd_lst {M : Mem} {q : Addr} {xs : List D} (h : M q = some (.lst xs)) : isLd M q = true := by unfold isLd; rw [h]
theorem isLd_dct {M : Mem} {q : Addr} {xs : List (D × D)} (h : M q = some (.dct xs)) : isLd M q = true := by unfold isLd; rw [h]
structure Odd (M : Mem) (d : D) (k : Nat) : Prop where
  un : Un M d
  kw : Kw M d
  pl : ∀ n, isTh n d = true → isP d = true
  ln : (pk d).length ≤ k
theorem Odd.upx {p : Addr} {M N : Mem} {d : D} {k : Nat} (o : Odd M d k) (h : UpX p M N) (hp : isLd N p = true) : Odd N d k := ⟨o.un.upx h hp, o.kw.upx h (isLd_kn hp), o.pl, o.ln⟩
theorem Odd.mono {M : Mem} {d : D} {k j : Nat} (o : Odd M d k) (h : k ≤ j) : Odd M d j := ⟨o.un, o.kw, o.pl, Nat.le_trans o.ln h⟩
theorem Odd.obj {M : Mem} {a : Addr} (h : isLd M a = true) (k : Nat) : Odd M (.obj a) k := ⟨.lf _ (.obj a h), .obj a (isLd_kn h), (fun n z => by rw [isTh_obj] at z; cases z), by simp [pk]⟩
theorem Odd.one {M : Mem} {d : D} {k : Nat} (o : Odd M d k) : Odd M (.tup [d]) (k + 2) :=
  ⟨.one d o.un, .tup _ (by simp) (fun x hx => by rw [List.mem_singleton] at hx; rw [hx]; exact o.kw), fun n z => by
    rw [isTh_tup, Bool.and_eq_true] at z
    show isP d = true
    exact o.pl (n - 1) (List.all_eq_true.mp z.2 d (List.mem_singleton.mpr rfl)), by rw [pk_one]; have := o.ln; omega⟩
def sp_deep : SpD := fun ds M Q _ => match ds with
  | [.obj p] => ∃ (cl : Addr) (f : Nat), Hand M p cl f ∧ f < 2 ^ 50 ∧ ∀ N d, UpX p M N → Hand N p cl (f + 30) → Odd N d 100 → Q d N
  | _ => False
theorem h__law_deep (k1 : Nat) : ∀ ds M Q0 E0, sp_deep ds M Q0 E0 → ds.length = 1 ∧ wpSs ⟨[C__law_draw k1 sp_draw], sub, fdOf cf⟩ (wF E0) none m__law_deep (endsF Q0) (startD N__law_deep.length ds) M := by
  intro ds M Q0 E0 hh
  unfold sp_deep at hh
  split at hh
  · rename_i p
    obtain ⟨cl, f, hH, hf, hq⟩ := hh
    refine ⟨rfl, ?_⟩
    unfold m__law_deep
    refine wp_cons ?_
    show DL.wpS _ _ _ _ _ [some (.obj p), none, none] M
    (try simp only [DL.wpS, DL.wpE, DL.wpA, wpT, wpTs, wpBo, DL.wpI, wpIf, wpTg, wpTgs, optI, List.getElem?_cons_zero, List.getElem?_cons_succ, List.set_cons_succ, List.set_cons_zero, vTru, cmpS, vIsK, vLt, vLe, vGt, vGe, vOrd, DL.isNon, addE, subE, biS, rdS, rdL_new, Bool.not_true, Bool.not_false, if_true, if_false, Bool.false_eq_true, Bool.true_eq_false, reduceIte, true_and, and_true, decide_true, decide_false, vGet_0, vGet_1, slcT, addT])
    intro q hq0
    have qp := hH.fresh hq0
    refine ⟨cl, f, hH.new hq0, by omega, by decide, by decide, fun N r U H r0 r1 => ?_⟩
    have Nq : rdL N q = some [.non, .tup [], .int 0] := rdL_of (U.get qp mup_same)
    have UU : UpX p M N := (UpX.rfl'.new hq0).trans U.upx
    obtain ⟨x, hx, hxo⟩ : ∃ x, ([D.non, .tup [], .int 0])[r.toNat]? = some x ∧ Odd N x 5 := by
      have : r.toNat = 0 ∨ r.toNat = 1 ∨ r.toNat = 2 := by omega
      rcases this with e | e | e <;> rw [e]
      · exact ⟨_, rfl, .lf _ .non, .non, fun _ _ => rfl, by decide⟩
      · exact ⟨_, rfl, .lf _ .nil, .tup _ (by simp) (fun x hx => by cases hx), fun _ _ => rfl, by decide⟩
      · refine ⟨_, rfl, .lf _ (.int 0), .int 0, fun _ _ => rfl, ?_⟩
        have : pk (.int 0) = [48] := by
          show icodes ((0 : Nat) : Int) = _
          rw [icodes_nat]; exact TL.numL_lt (by decide)
        rw [this]; decide
    have hg : ∀ Q, vGet (.obj q) (.int r) N Q = Q x N := fun Q => by
      have := vGet_lst (Q := Q) Nq hx
      rw [show ((r.toNat : Nat) : Int) = r by omega] at this
      exact this
    (try simp only [DL.wpS, DL.wpE, DL.wpA, wpT, wpTs, wpBo, DL.wpI, wpIf, wpTg, wpTgs, optI, List.getElem?_cons_zero, List.getElem?_cons_succ, List.set_cons_succ, List.set_cons_zero, vTru, cmpS, vIsK, vLt, vLe, vGt, vGe, vOrd, DL.isNon, addE, subE, biS, rdS, rdL_new, Bool.not_true, Bool.not_false, if_true, if_false, Bool.false_eq_true, Bool.true_eq_false, reduceIte, true_and, and_true, decide_true, decide_false, vGet_0, vGet_1, slcT, addT, hg])
    refine wp_cons ?_
    (try simp only [DL.wpS, DL.wpE, DL.wpA, wpT, wpTs, wpBo, DL.wpI, wpIf, wpTg, wpTgs, optI, List.getElem?_cons_zero, List.getElem?_cons_succ, List.set_cons_succ, List.set_cons_zero, vTru, cmpS, vIsK, vLt, vLe, vGt, vGe, vOrd, DL.isNon, addE, subE, biS, rdS, rdL_new, Bool.not_true, Bool.not_false, if_true, if_false, Bool.false_eq_true, Bool.true_eq_false, reduceIte, true_and, and_true, decide_true, decide_false, vGet_0, vGet_1, slcT, addT])
    refine ⟨cl, _, H, by omega, by decide, by decide, fun N2 r2 U2 H2 r20 r21 => ?_⟩
    (try simp only [DL.wpS, DL.wpE, DL.wpA, wpT, wpTs, wpBo, DL.wpI, wpIf, wpTg, wpTgs, optI, List.getElem?_cons_zero, List.getElem?_cons_succ, List.set_cons_succ, List.set_cons_zero, vTru, cmpS, vIsK, vLt, vLe, vGt, vGe, vOrd, DL.isNon, addE, subE, biS, rdS, rdL_new, Bool.not_true, Bool.not_false, if_true, if_false, Bool.false_eq_true, Bool.true_eq_false, reduceIte, true_and, and_true, decide_true, decide_false, vGet_0, vGet_1, slcT, addT, rngOf])
    refine ⟨by omega, by omega, ?_⟩
    refine ⟨fun i ρ M' => ∃ d x2, ρ = [some (.obj p), some d, x2] ∧ UpX p M M' ∧ Hand M' p cl (f + 2 + i) ∧ Odd M' d (5 + 2 * i) ∧ (i : Int) ≤ 14 + r2, ⟨x, none, rfl, UU.trans U2.upx, H2, hxo.upx U2.upx H2.ld, by omega⟩, ?_⟩
    rintro i ρ M' ⟨d, x2, rfl, UM, HM, od, hi⟩
    simp only [range_get_z]
    by_cases hlt : (i : Int) < 14 + r2
    · simp only [hlt, if_true]
      (try simp only [DL.wpS, DL.wpE, DL.wpA, wpT, wpTs, wpBo, DL.wpI, wpIf, wpTg, wpTgs, optI, List.getElem?_cons_zero, List.getElem?_cons_succ, List.set_cons_succ, List.set_cons_zero, vTru, cmpS, vIsK, vLt, vLe, vGt, vGe, vOrd, DL.isNon, addE, subE, biS, rdS, rdL_new, Bool.not_true, Bool.not_false, if_true, if_false, Bool.false_eq_true, Bool.true_eq_false, reduceIte, true_and, and_true, decide_true, decide_false, vGet_0, vGet_1, slcT, addT])
      refine wp_last ?_
      (try simp only [DL.wpS, DL.wpE, DL.wpA, wpT, wpTs, wpBo, DL.wpI, wpIf, wpTg, wpTgs, optI, List.getElem?_cons_zero, List.getElem?_cons_succ, List.set_cons_succ, List.set_cons_zero, vTru, cmpS, vIsK, vLt, vLe, vGt, vGe, vOrd, DL.isNon, addE, subE, biS, rdS, rdL_new, Bool.not_true, Bool.not_false, if_true, if_false, Bool.false_eq_true, Bool.true_eq_false, reduceIte, true_and, and_true, decide_true, decide_false, vGet_0, vGet_1, slcT, addT])
      intro a ha b hb
      have hba := (mup_none hb).1
      refine ⟨mup_same, rfl, ?_⟩
      rw [mup_mup]
      intro c hc
      obtain ⟨hcb, hc'⟩ := mup_none hc
      obtain ⟨hca, hc''⟩ := mup_none hc'
      have HM3 := ((HM.new (o := .lst [d]) ha).new (o := .dct [(.int 0, d)]) hb).new (o := .lst [.obj a, .tup [d], .obj b]) hc
      have UM3 : UpX p M' (mup (mup (mup M' a (.lst [d])) b (.dct [(.int 0, d)])) c (.lst [.obj a, .tup [d], .obj b])) := ((UpX.rfl'.new ha).new hb).new hc
      have Ma : mup (mup (mup M' a (.lst [d])) b (.dct [(.int 0, d)])) c (.lst [.obj a, .tup [d], .obj b]) a = some (.lst [d]) := by rw [mup_ne (Ne.symm hca), mup_ne (Ne.symm hba), mup_same]
      have Mb : mup (mup (mup M' a (.lst [d])) b (.dct [(.int 0, d)])) c (.lst [.obj a, .tup [d], .obj b]) b = some (.dct [(.int 0, d)]) := by rw [mup_ne (Ne.symm hcb), mup_same]
      have Mc : mup (mup (mup M' a (.lst [d])) b (.dct [(.int 0, d)])) c (.lst [.obj a, .tup [d], .obj b]) c = some (.lst [.obj a, .tup [d], .obj b]) := mup_same
      generalize mup (mup (mup M' a (.lst [d])) b (.dct [(.int 0, d)])) c (.lst [.obj a, .tup [d], .obj b]) = M3 at HM3 UM3 Ma Mb Mc
      refine ⟨cl, _, HM3, by omega, by decide, by decide, fun N4 r4 U4 H4 r40 r41 => ?_⟩
      have hcp := HM3.ne
      have cp : c ≠ p := fun z => HM.ne (z ▸ hc'')
      have ap : a ≠ p := HM.fresh ha
      have bp : b ≠ p := fun z => HM.ne (z ▸ (mup_none hb).2)
      have Nc : rdL N4 c = some [.obj a, .tup [d], .obj b] := rdL_of (U4.get cp Mc)
      obtain ⟨y, hy, hyo⟩ : ∃ y, ([D.obj a, .tup [d], .obj b])[r4.toNat]? = some y ∧ Odd N4 y (5 + 2 * i + 2) := by
        have : r4.toNat = 0 ∨ r4.toNat = 1 ∨ r4.toNat = 2 := by omega
        rcases this with e | e | e <;> rw [e]
        · exact ⟨_, rfl, .obj (isLd_lst (U4.get ap Ma)) _⟩
        · exact ⟨_, rfl, ((od.upx UM3 HM3.ld).upx U4.upx H4.ld).one⟩
        · exact ⟨_, rfl, .obj (isLd_dct (U4.get bp Mb)) _⟩
      have hg4 : ∀ Q, vGet (.obj c) (.int r4) N4 Q = Q y N4 := fun Q => by
        have := vGet_lst (Q := Q) Nc hy
        rw [show ((r4.toNat : Nat) : Int) = r4 by omega] at this
        exact this
      (try simp only [DL.wpS, DL.wpE, DL.wpA, wpT, wpTs, wpBo, DL.wpI, wpIf, wpTg, wpTgs, optI, List.getElem?_cons_zero, List.getElem?_cons_succ, List.set_cons_succ, List.set_cons_zero, vTru, cmpS, vIsK, vLt, vLe, vGt, vGe, vOrd, DL.isNon, addE, subE, biS, rdS, rdL_new, Bool.not_true, Bool.not_false, if_true, if_false, Bool.false_eq_true, Bool.true_eq_false, reduceIte, true_and, and_true, decide_true, decide_false, vGet_0, vGet_1, slcT, addT, hg4])
      exact ⟨N4, Sub.rfl', y, _, rfl, (UM.trans UM3).trans U4.upx, H4.mono (by omega), hyo.mono (by omega), by omega⟩
    · simp only [hlt, if_false]
      refine wp_last ?_
      (try simp only [DL.wpS, DL.wpE, DL.wpA, wpT, wpTs, wpBo, DL.wpI, wpIf, wpTg, wpTgs, optI, List.getElem?_cons_zero, List.getElem?_cons_succ, List.set_cons_succ, List.set_cons_zero, vTru, cmpS, vIsK, vLt, vLe, vGt, vGe, vOrd, DL.isNon, addE, subE, biS, rdS, rdL_new, Bool.not_true, Bool.not_false, if_true, if_false, Bool.false_eq_true, Bool.true_eq_false, reduceIte, true_and, and_true, decide_true, decide_false, vGet_0, vGet_1, slcT, addT])
      exact rt_of (hq M' d UM (HM.mono (by omega)) (od.mono (by omega))) Sub.rfl'
  · exact hh.elim
end H54
set_option Elab.async false
set_option linter.all false
set_option maxRecDepth 100000
set_option maxHeartbeats 1000000
namespace H54
open PySem PySem.Spec PyProof.Rows L2 DL TX
/-! ### what is read is plain data -/
theorem plD_up : ∀ {n : Nat} {d : D}, plD n d = true → plD (n + 1) d = true := by
  intro n
  induction n with
  | zero => intro d h; cases h
  | succ n ih =>
    intro d h
    cases d with
    | tup xs =>
      have h' : xs.all (plD n) = true := h
      show xs.all (plD (n + 1)) = true
      rw [List.all_eq_true] at h' ⊢
      exact fun x hx => ih (h' x hx)
    | _ => exact h
theorem plD_le {n m : Nat} {d : D} (h : plD n d = true) (l : n ≤ m) : plD m d = true := by
  induction m with
  | zero => have : n = 0 := by omega
            rw [this] at h; exact h
  | succ m ih =>
    rcases Nat.lt_or_eq_of_le l with z | z
    · exact plD_up (ih (by omega))
    · rw [← z]; exact h
theorem st_pl {t : List Nat} (ht : okc t) {i : Nat} {acc : List Nat} {o : Out} (h : St t i acc o) : okc acc → ∀ v j, o = .ok v j → ∃ l, v = .str l ∧ okc l := by
  have at_ : ∀ {i c : Nat}, t[i]? = some c → okc [c] := fun e => by
    have := List.all_eq_true.mp ht _ (List.mem_of_getElem? e)
    simp only [okc, List.all_cons, List.all_nil, this, Bool.and_self]
  induction h with
  | eof e => intro _ v j z; cases z
  | close e => intro ha v j z; cases z; exact ⟨_, rfl, ha⟩
  | odd e n => intro _ v j z; cases z
  | esc e e1 he hs ih => intro ha v j z; exact ih (ok_app ha (at_ e1)) v j z
  | escBad e hn => intro _ v j z; cases z
  | step e a b n hs ih => intro ha v j z; exact ih (ok_app ha (at_ e)) v j z
theorem rd_pl {t : List Nat} (ht : okc t) {k : Kd} {d i : Nat} {o : Out} (h : Rd t k d i o) : ∀ v j, o = .ok v j → d ≤ 30 → match k with
    | .fw => plD (32 - d) v = true
    | .it f => (∀ x ∈ f, plD (32 - d) x = true) → plD (33 - d) v = true := by
  have leaf : ∀ {n : Nat} {d : D}, (match d with | .tup _ => false | .obj _ => false | .str l => l.all fun c => decide (c < 0x110000) | _ => true) = true → plD (n + 1) d = true := fun {n d} h => by
    cases d <;> first | exact h | cases h
  have sc : ∀ d, d ≤ 30 → ∃ n, 32 - d = n + 1 ∧ 33 - d = n + 1 + 1 := fun d hd => ⟨31 - d, by omega, by omega⟩
  induction h with
  | eof e => intro v j z; cases z
  | @dot d i e => intro v j z hd; cases z; obtain ⟨n, e1, _⟩ := sc d hd; show plD (32 - d) _ = true; rw [e1]; exact leaf rfl
  | @str d i o e hs =>
    intro v j z hd
    obtain ⟨l, rfl, hl⟩ := st_pl ht hs rfl v j z
    obtain ⟨n, e1, _⟩ := sc d hd
    show plD (32 - d) _ = true
    rw [e1]; exact leaf hl
  | deep e n => intro v j z; cases z
  | @tup0 d i e hd e1 =>
    intro v j z hd
    cases z
    obtain ⟨n, e1, _⟩ := sc d hd
    show plD (32 - d) _ = true
    rw [e1]; rfl
  | @tup d i o e hd e1 _ ih =>
    intro v j z _
    have := ih v j z (by omega) (fun x hx => by cases hx)
    show plD (32 - d) v = true
    rw [show 32 - d = 33 - (d + 1) by omega]
    exact this
  | @int d i c e _ _ _ =>
    intro v j z hd
    obtain ⟨n, e1, _⟩ := sc d hd
    have : ∃ m, v = .int m := by
      unfold intO at z
      split at z
      · split at z <;> cases z
        exact ⟨_, rfl⟩
      · split at z <;> cases z
        exact ⟨_, rfl⟩
    obtain ⟨m, rfl⟩ := this
    show plD (32 - d) _ = true
    rw [e1]; exact leaf rfl
  | iBad _ _ => intro v j z; cases z
  | @iEnd d i j f v _ e ih =>
    intro v' j' z hd hf
    cases z
    obtain ⟨n, e1, e2⟩ := sc d hd
    have hv := ih v j rfl hd
    rw [e2]
    show (f ++ [v]).all (plD (n + 1)) = true
    rw [List.all_eq_true]
    intro x hx
    rw [← e1]
    rcases List.mem_append.mp hx with hx | hx
    · exact hf x hx
    · rw [List.mem_singleton] at hx; rw [hx]; exact hv
  | iStop _ _ _ _ => intro v j z; cases z
  | @iMore d i j f v o _ e _ ih ih2 =>
    intro v' j' z hd hf
    have hv := ih v j rfl hd
    refine ih2 v' j' z hd fun x hx => ?_
    rcases List.mem_append.mp hx with hx | hx
    · exact hf x hx
    · rw [List.mem_singleton] at hx; rw [hx]; exact hv
theorem whole_pl {t : List Nat} (ht : okc t) {o : Out} (h : Rd t .fw 0 0 o) : plD 59 (whole t o) = true := by
  have w : plD 58 (.str wrongS) = true := rfl
  have th : plD 58 (.str thingS) = true := rfl
  have i : ∀ k : Int, plD 58 (.int k) = true := fun k => rfl
  cases o with
  | bad j => show ([D.str wrongS, .int (j : Nat)]).all (plD 58) = true; simp [w, i]
  | ok v j =>
    have hv : plD 58 v = true := plD_le (rd_pl ht h v j rfl (by decide)) (by decide)
    have e : whole t (.ok v j) = if j = t.length then .tup [.str thingS, v] else .tup [.str wrongS, .int (j : Nat)] := rfl
    rw [e]
    by_cases z : j = t.length
    · rw [if_pos z]; show ([D.str thingS, v]).all (plD 58) = true; simp [th, hv]
    · rw [if_neg z]; show ([D.str wrongS, .int (j : Nat)]).all (plD 58) = true; simp [w, i]
theorem eqX_refl {d : D} {n : Nat} (h : plD n d = true) : eqX d d = true := SeqAt.eqv_refl _ (toP_pl n (fun _ => none) d h).2
theorem vNe_same {d : D} {M : Mem} (h : plD 59 d = true) : vEqK true d d M = fun Q => Q (.bl false) M := by
  rw [vEq_pl h h]
  simp [eqX_refl h]
/-! ### things are plain data -/
theorem ok_join {c : Nat} (hc : okc [c]) : ∀ ys : List (List Nat), (∀ y ∈ ys, okc y) → okc (joinC [c] ys)
  | [], _ => rfl
  | [x], h => h x (List.mem_singleton.mpr rfl)
  | x :: y :: r, h => by
    show okc (x ++ [c] ++ joinC [c] (y :: r))
    exact ok_app (ok_app (h x (List.mem_cons_self ..)) hc) (ok_join hc (y :: r) fun z hz => h z (List.mem_cons_of_mem _ hz))
theorem ok_digs {l : List Nat} (h : NumText.AllDigits l) : okc l := by
  unfold okc
  rw [List.all_eq_true]
  intro c hc
  have := h c hc
  exact decide_eq_true (by omega)
theorem ok_int {i : Int} : okc (icodes i) := by
  by_cases h0 : 0 ≤ i
  · obtain ⟨m, rfl⟩ := Int.eq_ofNat_of_zero_le h0
    rw [icodes_nat m]; exact ok_digs (TL.numL_digits m)
  · obtain ⟨m, rfl⟩ : ∃ m : Nat, i = -((m + 1 : Nat) : Int) := ⟨(-i - 1).toNat, by omega⟩
    rw [icodes_neg]
    exact ok_app (a := [45]) rfl (ok_digs (TL.numL_digits _))
theorem ok_esc {l : List Nat} (h : l.all sg = true) : okc (escL l) := by
  unfold okc escL
  rw [List.all_eq_true]
  intro c hc
  obtain ⟨x, hx, hcx⟩ := List.mem_flatMap.mp hc
  have := List.all_eq_true.mp h x hx
  simp [sg] at this
  split at hcx
  · simp only [List.mem_cons, List.not_mem_nil, or_false] at hcx
    rcases hcx with rfl | rfl <;> exact decide_eq_true (by omega)
  · simp only [List.mem_cons, List.not_mem_nil, or_false] at hcx
    subst hcx; exact decide_eq_true (by omega)
theorem ok_sg {l : List Nat} (h : l.all sg = true) : okc l := by
  unfold okc
  rw [List.all_eq_true] at h ⊢
  intro c hc
  have := h c hc
  simp [sg] at this
  exact decide_eq_true (by omega)
theorem th_leaf {n : Nat} {d : D} (h : isTh n d = true) (ht : ∀ xs, d ≠ .tup xs) : okc (pk d) ∧ plD 1 d = true := by
  cases d with
  | non => exact ⟨by decide, rfl⟩
  | int i => exact ⟨ok_int, rfl⟩
  | str l =>
    rw [isTh_str] at h
    exact ⟨ok_app (ok_app (a := [39]) rfl (ok_esc h)) (b := [39]) rfl, ok_sg h⟩
  | tup xs => exact absurd rfl (ht xs)
  | bl b => rw [isTh_bl] at h; cases h
  | obj a => rw [isTh_obj] at h; cases h
theorem th_pl : ∀ {n : Nat} {d : D}, isTh n d = true → okc (pk d) ∧ plD (n + 1) d = true := by
  intro n
  induction n with
  | zero =>
    intro d h
    refine th_leaf h fun xs e => ?_
    rw [e] at h; cases h
  | succ n ih =>
    intro d h
    cases d with
    | tup xs =>
      have h' : xs.all (isTh n) = true := h
      rw [List.all_eq_true] at h'
      refine ⟨?_, ?_⟩
      · show okc ([40] ++ joinC [44] (pks xs) ++ [41])
        rw [pks_eq]
        refine ok_app (ok_app (a := [40]) rfl (ok_join rfl _ fun y hy => ?_)) (b := [41]) rfl
        obtain ⟨x, hx, rfl⟩ := List.mem_map.mp hy
        exact (ih (h' x hx)).1
      · show xs.all (plD (n + 1)) = true
        rw [List.all_eq_true]
        exact fun x hx => (ih (h' x hx)).2
    | _ =>
      obtain ⟨a, b⟩ := th_leaf h (fun xs e => by cases e)
      exact ⟨a, plD_le b (by omega)⟩
theorem th_kw : ∀ {n : Nat} {d : D} (M : Mem), isTh n d = true → (pk d).length ≤ 1000000 → Kw M d := by
  intro n
  induction n with
  | zero =>
    intro d M h hl
    cases d with
    | non => exact .non
    | int i => exact .int i
    | str l => exact .str l (by
        have : (pk (.str l)).length = (escL l).length + 2 := by simp [pk] <;> omega
        have h2 : ∀ l : List Nat, l.length ≤ (escL l).length := by
          intro l
          induction l with
          | nil => simp
          | cons c l ih =>
            have : escL (c :: l) = q1 c ++ escL l := by simp [escL, q1]
            rw [this, List.length_append, List.length_cons]
            have : 1 ≤ (q1 c).length := by unfold q1; split <;> simp
            omega
        have := h2 l
        omega)
    | tup xs => cases h
    | bl b => cases h
    | obj a => cases h
  | succ n ih =>
    intro d M h hl
    cases d with
    | tup xs =>
      have h' : xs.all (isTh n) = true := h
      rw [List.all_eq_true] at h'
      obtain ⟨g1, g2, g3⟩ := pk_items (xs := xs) (by omega)
      have e : (pk (.tup xs)).length = (joinC [44] (xs.map pk)).length + 2 := by simp [pk, pks_eq] <;> omega
      have hle := joinC_le 44 (xs.map pk)
      rw [List.length_map] at hle
      refine .tup xs (by omega) fun x hx => ih M (h' x hx) ?_
      have : (pk x).length ≤ ((xs.map pk).map (·.length)).sum := le_sum (List.mem_map.mpr ⟨pk x, List.mem_map_of_mem hx, rfl⟩)
      omega
    | non => exact .non
    | int i => exact .int i
    | str l => exact .str l (by
        have : (pk (.str l)).length = (escL l).length + 2 := by simp [pk] <;> omega
        have h2 : ∀ l : List Nat, l.length ≤ (escL l).length := by
          intro l
          induction l with
          | nil => simp
          | cons c l ih =>
            have : escL (c :: l) = q1 c ++ escL l := by simp [escL, q1]
            rw [this, List.length_append, List.length_cons]
            have : 1 ≤ (q1 c).length := by unfold q1; split <;> simp
            omega
        have := h2 l
        omega)
    | bl b => cases h
    | obj a => cases h
end H54
set_option Elab.async false
set_option linter.all false
set_option maxRecDepth 100000
set_option maxHeartbeats 2000000
namespace H54
open PySem PySem.Spec PyProof.Rows L2 DL TX
theorem Rd.packed {d : D} (h : isTh 30 d = true) {o : Out} (r : Rd (pk d) .fw 0 0 o) : o = .ok d (pk d).length := by
  have := TX.Rd.pack 30 0 d h (by decide) [] [] (fun c r e => by cases e)
  rw [List.append_nil, List.nil_append, List.length_nil, Nat.zero_add] at this
  exact (this.det r).symm
theorem whole_pk {d : D} : whole (pk d) (.ok d (pk d).length) = .tup [.str thingS, d] := by show (if (pk d).length = (pk d).length then _ else _) = _; rw [if_pos rfl]
theorem vNe_str {M : Mem} {l : List Nat} : vEqK true (.str l) (.str l) M = fun Q => Q (.bl false) M := by
  funext Q; simp [vEqK]
theorem odd_leaf {M : Mem} {d : D} (h : Lf M d) (k : Kw M d) (e : ∀ n, isTh n d = true → isP d = true) (l : (pk d).length ≤ 100) : Odd M d 100 := ⟨.lf d h, k, e, l⟩
def sp_law : SpD := fun ds M Q _ => match ds with
  | [.obj a] => ∃ ns : List Int, rdL M a = some (ns.map .int) ∧ ns.length ≤ 63 ∧ ∀ N, Q (.bl true) N
  | _ => False
theorem h_law (k0 k1 k2 k3 k4 k5 k6 k7 k8 k9 k10 k11 k12 : Nat) : ∀ ds M Q0 E0, sp_law ds M Q0 E0 → ds.length = 1 ∧ wpSs ⟨[C__law_hand k0 sp_pot, C__law_thing k1 (sp_thing 5), C__law_draw k2 sp_draw, C__law_nested k3 sp_nested, C__law_packed k4 (sp_pk 31), C__law_unpacked k5 sp_unpacked, C__law_told k6 sp_told, C_thing_text k7 sp_thing_text, C__law_changed k8 sp_changed, C__law_deep k9 sp_deep, C__law_is_none k10 sp_is_none, C__law_is_plain k11 sp_is_plain, C__law_any k12 sp_any2], sub, fdOf cf⟩ (wF E0) none m_law (endsF Q0) (startD N_law.length ds) M := by
  intro ds M Q0 E0 hh
  unfold sp_law at hh
  split at hh
  · rename_i a
    obtain ⟨ns, ha, hl, hq⟩ := hh
    refine ⟨rfl, ?_⟩
    unfold m_law
    refine wp_cons ?_
    show DL.wpS _ _ _ _ _ [some (.obj a), none, none, none, none, none, none, none, none, none] M
    (try simp only [DL.wpS, DL.wpE, DL.wpA, wpT, wpTs, wpBo, DL.wpI, wpIf, wpTg, wpTgs, optI, List.getElem?_cons_zero, List.getElem?_cons_succ, List.set_cons_succ, List.set_cons_zero, vTru, cmpS, vIsK, vLt, vLe, vGt, vGe, vOrd, DL.isNon, addE, subE, biS, rdS, rdL_new, Bool.not_true, Bool.not_false, if_true, if_false, Bool.false_eq_true, Bool.true_eq_false, reduceIte, true_and, and_true, decide_true, decide_false, vGet_0, vGet_1, slcT, addT])
    refine ⟨ns, ha, hl, fun N0 p cl _ _ _ H0 => ?_⟩
    (try simp only [DL.wpS, DL.wpE, DL.wpA, wpT, wpTs, wpBo, DL.wpI, wpIf, wpTg, wpTgs, optI, List.getElem?_cons_zero, List.getElem?_cons_succ, List.set_cons_succ, List.set_cons_zero, vTru, cmpS, vIsK, vLt, vLe, vGt, vGe, vOrd, DL.isNon, addE, subE, biS, rdS, rdL_new, Bool.not_true, Bool.not_false, if_true, if_false, Bool.false_eq_true, Bool.true_eq_false, reduceIte, true_and, and_true, decide_true, decide_false, vGet_0, vGet_1, slcT, addT])
    refine wp_cut (fun ρ' M' => ∃ x2 x3 x4 x5 x6, ρ' = [some (.obj a), some (.obj p), x2, x3, x4, x5, x6, none, none, none] ∧ Hand M' p cl 9000) ?_ ?_
    · (try simp only [DL.wpS, DL.wpE, DL.wpA, wpT, wpTs, wpBo, DL.wpI, wpIf, wpTg, wpTgs, optI, List.getElem?_cons_zero, List.getElem?_cons_succ, List.set_cons_succ, List.set_cons_zero, vTru, cmpS, vIsK, vLt, vLe, vGt, vGe, vOrd, DL.isNon, addE, subE, biS, rdS, rdL_new, Bool.not_true, Bool.not_false, if_true, if_false, Bool.false_eq_true, Bool.true_eq_false, reduceIte, true_and, and_true, decide_true, decide_false, vGet_0, vGet_1, slcT, addT, rngOf])
      refine ⟨by decide, by decide, ?_⟩
      refine ⟨fun i ρ M' => ∃ x2 x3 x4 x5 x6, ρ = [some (.obj a), some (.obj p), x2, x3, x4, x5, x6, none, none, none] ∧ Hand M' p cl (3000 * i) ∧ i ≤ 3, ⟨none, none, none, none, none, rfl, H0, by omega⟩, ?_⟩
      rintro i ρ M ⟨x2, x3, x4, x5, x6, rfl, HM, hi3⟩
      simp only [range_get_z]
      by_cases hi : (i : Int) < 3
      · simp only [hi, if_true]
        (try simp only [DL.wpS, DL.wpE, DL.wpA, wpT, wpTs, wpBo, DL.wpI, wpIf, wpTg, wpTgs, optI, List.getElem?_cons_zero, List.getElem?_cons_succ, List.set_cons_succ, List.set_cons_zero, vTru, cmpS, vIsK, vLt, vLe, vGt, vGe, vOrd, DL.isNon, addE, subE, biS, rdS, rdL_new, Bool.not_true, Bool.not_false, if_true, if_false, Bool.false_eq_true, Bool.true_eq_false, reduceIte, true_and, and_true, decide_true, decide_false, vGet_0, vGet_1, slcT, addT])
        refine wp_cons ?_
        (try simp only [DL.wpS, DL.wpE, DL.wpA, wpT, wpTs, wpBo, DL.wpI, wpIf, wpTg, wpTgs, optI, List.getElem?_cons_zero, List.getElem?_cons_succ, List.set_cons_succ, List.set_cons_zero, vTru, cmpS, vIsK, vLt, vLe, vGt, vGe, vOrd, DL.isNon, addE, subE, biS, rdS, rdL_new, Bool.not_true, Bool.not_false, if_true, if_false, Bool.false_eq_true, Bool.true_eq_false, reduceIte, true_and, and_true, decide_true, decide_false, vGet_0, vGet_1, slcT, addT])
        refine ⟨cl, _, 4, rfl, by decide, HM, by have : T 4 ≤ 2000 := by decide
                                                 omega, fun N1 d U1 H1 hth hlen => ?_⟩
        have hT4 : T 4 ≤ 2000 := by decide
        have hL4 : Lb 4 ≤ 5000 := by decide
        (try simp only [DL.wpS, DL.wpE, DL.wpA, wpT, wpTs, wpBo, DL.wpI, wpIf, wpTg, wpTgs, optI, List.getElem?_cons_zero, List.getElem?_cons_succ, List.set_cons_succ, List.set_cons_zero, vTru, cmpS, vIsK, vLt, vLe, vGt, vGe, vOrd, DL.isNon, addE, subE, biS, rdS, rdL_new, Bool.not_true, Bool.not_false, if_true, if_false, Bool.false_eq_true, Bool.true_eq_false, reduceIte, true_and, and_true, decide_true, decide_false, vGet_0, vGet_1, slcT, addT])
        refine wp_cut (fun ρ' M' => ∃ d, ρ' = [some (.obj a), some (.obj p), some (.int (i : Nat)), some d, x4, x5, x6, none, none, none] ∧ Hand M' p cl (3000 * i + 2100) ∧ isTh 30 d = true ∧ (pk d).length ≤ 5000) ?_ ?_
        · (try simp only [DL.wpS, DL.wpE, DL.wpA, wpT, wpTs, wpBo, DL.wpI, wpIf, wpTg, wpTgs, optI, List.getElem?_cons_zero, List.getElem?_cons_succ, List.set_cons_succ, List.set_cons_zero, vTru, cmpS, vIsK, vLt, vLe, vGt, vGe, vOrd, DL.isNon, addE, subE, biS, rdS, rdL_new, Bool.not_true, Bool.not_false, if_true, if_false, Bool.false_eq_true, Bool.true_eq_false, reduceIte, true_and, and_true, decide_true, decide_false, vGet_0, vGet_1, slcT, addT])
          refine ⟨cl, _, H1, by omega, by decide, by decide, fun N2 r U2 H2 r0 r1 => ?_⟩
          (try simp only [DL.wpS, DL.wpE, DL.wpA, wpT, wpTs, wpBo, DL.wpI, wpIf, wpTg, wpTgs, optI, List.getElem?_cons_zero, List.getElem?_cons_succ, List.set_cons_succ, List.set_cons_zero, vTru, cmpS, vIsK, vLt, vLe, vGt, vGe, vOrd, DL.isNon, addE, subE, biS, rdS, rdL_new, Bool.not_true, Bool.not_false, if_true, if_false, Bool.false_eq_true, Bool.true_eq_false, reduceIte, true_and, and_true, decide_true, decide_false, vGet_0, vGet_1, slcT, addT, vEqK])
          by_cases hr : r = 0
          · simp only [hr, decide_true, if_true]
            refine wp_last ?_
            (try simp only [DL.wpS, DL.wpE, DL.wpA, wpT, wpTs, wpBo, DL.wpI, wpIf, wpTg, wpTgs, optI, List.getElem?_cons_zero, List.getElem?_cons_succ, List.set_cons_succ, List.set_cons_zero, vTru, cmpS, vIsK, vLt, vLe, vGt, vGe, vOrd, DL.isNon, addE, subE, biS, rdS, rdL_new, Bool.not_true, Bool.not_false, if_true, if_false, Bool.false_eq_true, Bool.true_eq_false, reduceIte, true_and, and_true, decide_true, decide_false, vGet_0, vGet_1, slcT, addT])
            intro q hq0
            have qp := H2.fresh hq0
            refine ⟨cl, _, H2.new hq0, by omega, by decide, by decide, fun N3 r3 U3 H3 r30 r31 => ?_⟩
            have Nq : rdL N3 q = some [.int 2, .int 29, .int 30] := rdL_of (U3.get qp mup_same)
            obtain ⟨m, hm, m1, m30⟩ : ∃ m : Int, ([D.int 2, .int 29, .int 30])[r3.toNat]? = some (.int m) ∧ 1 ≤ m ∧ m ≤ 30 := by
              have : r3.toNat = 0 ∨ r3.toNat = 1 ∨ r3.toNat = 2 := by omega
              rcases this with e | e | e <;> rw [e]
              · exact ⟨2, rfl, by decide, by decide⟩
              · exact ⟨29, rfl, by decide, by decide⟩
              · exact ⟨30, rfl, by decide, by decide⟩
            have hg : ∀ Q, vGet (.obj q) (.int r3) N3 Q = Q (.int m) N3 := fun Q => by
              have := vGet_lst (Q := Q) Nq hm
              rw [show ((r3.toNat : Nat) : Int) = r3 by omega] at this
              exact this
            (try simp only [DL.wpS, DL.wpE, DL.wpA, wpT, wpTs, wpBo, DL.wpI, wpIf, wpTg, wpTgs, optI, List.getElem?_cons_zero, List.getElem?_cons_succ, List.set_cons_succ, List.set_cons_zero, vTru, cmpS, vIsK, vLt, vLe, vGt, vGe, vOrd, DL.isNon, addE, subE, biS, rdS, rdL_new, Bool.not_true, Bool.not_false, if_true, if_false, Bool.false_eq_true, Bool.true_eq_false, reduceIte, true_and, and_true, decide_true, decide_false, vGet_0, vGet_1, slcT, addT, hg])
            exact ⟨cl, _, m1, m30, H3, by omega, fun N4 d U4 H4 ht4 hl4 => ⟨d, rfl, H4.mono (by omega), ht4, by omega⟩⟩
          · simp only [hr, decide_false, Bool.false_eq_true, if_false]
            exact wp_nil ⟨d, rfl, H2.mono (by omega), isTh_mono hth (by decide), by omega⟩
        · rintro ρ' M' ⟨d, rfl, HM', hth, hlen⟩
          refine ⟨M', Sub.rfl', ?_⟩
          obtain ⟨hokp, hpl⟩ := th_pl hth
          have hpl59 : plD 59 (.tup [.str thingS, d]) = true := by
            have : plD 58 d = true := plD_le hpl (by decide)
            show ([D.str thingS, d]).all (plD 58) = true
            have e : plD 58 (.str thingS) = true := rfl
            simp [this, e]
          refine wp_cons ?_
          (try simp only [DL.wpS, DL.wpE, DL.wpA, wpT, wpTs, wpBo, DL.wpI, wpIf, wpTg, wpTgs, optI, List.getElem?_cons_zero, List.getElem?_cons_succ, List.set_cons_succ, List.set_cons_zero, vTru, cmpS, vIsK, vLt, vLe, vGt, vGe, vOrd, DL.isNon, addE, subE, biS, rdS, rdL_new, Bool.not_true, Bool.not_false, if_true, if_false, Bool.false_eq_true, Bool.true_eq_false, reduceIte, true_and, and_true, decide_true, decide_false, vGet_0, vGet_1, slcT, addT])
          refine ⟨30, hth, by decide, by omega, ?_⟩
          refine wp_cons ?_
          (try simp only [DL.wpS, DL.wpE, DL.wpA, wpT, wpTs, wpBo, DL.wpI, wpIf, wpTg, wpTgs, optI, List.getElem?_cons_zero, List.getElem?_cons_succ, List.set_cons_succ, List.set_cons_zero, vTru, cmpS, vIsK, vLt, vLe, vGt, vGe, vOrd, DL.isNon, addE, subE, biS, rdS, rdL_new, Bool.not_true, Bool.not_false, if_true, if_false, Bool.false_eq_true, Bool.true_eq_false, reduceIte, true_and, and_true, decide_true, decide_false, vGet_0, vGet_1, slcT, addT])
          refine ⟨th_kw M' hth (by omega), fun _ => ⟨by omega, ?_⟩, fun z => by rw [hth] at z; cases z⟩
          (try simp only [DL.wpS, DL.wpE, DL.wpA, wpT, wpTs, wpBo, DL.wpI, wpIf, wpTg, wpTgs, optI, List.getElem?_cons_zero, List.getElem?_cons_succ, List.set_cons_succ, List.set_cons_zero, vTru, cmpS, vIsK, vLt, vLe, vGt, vGe, vOrd, DL.isNon, addE, subE, biS, rdS, rdL_new, Bool.not_true, Bool.not_false, if_true, if_false, Bool.false_eq_true, Bool.true_eq_false, reduceIte, true_and, and_true, decide_true, decide_false, vGet_0, vGet_1, slcT, addT, vNe_str])
          refine ⟨by omega, fun o ho => ?_⟩
          have := Rd.packed hth ho
          subst this
          rw [whole_pk]
          have e := vNe_same (M := M') hpl59
          unfold thingS at e ⊢
          (try simp only [DL.wpS, DL.wpE, DL.wpA, wpT, wpTs, wpBo, DL.wpI, wpIf, wpTg, wpTgs, optI, List.getElem?_cons_zero, List.getElem?_cons_succ, List.set_cons_succ, List.set_cons_zero, vTru, cmpS, vIsK, vLt, vLe, vGt, vGe, vOrd, DL.isNon, addE, subE, biS, rdS, rdL_new, Bool.not_true, Bool.not_false, if_true, if_false, Bool.false_eq_true, Bool.true_eq_false, reduceIte, true_and, and_true, decide_true, decide_false, vGet_0, vGet_1, slcT, addT, e])
          refine ⟨by omega, fun o ho => ?_⟩
          have := Rd.packed hth ho
          subst this
          rw [whole_pk]
          unfold thingS
          (try simp only [DL.wpS, DL.wpE, DL.wpA, wpT, wpTs, wpBo, DL.wpI, wpIf, wpTg, wpTgs, optI, List.getElem?_cons_zero, List.getElem?_cons_succ, List.set_cons_succ, List.set_cons_zero, vTru, cmpS, vIsK, vLt, vLe, vGt, vGe, vOrd, DL.isNon, addE, subE, biS, rdS, rdL_new, Bool.not_true, Bool.not_false, if_true, if_false, Bool.false_eq_true, Bool.true_eq_false, reduceIte, true_and, and_true, decide_true, decide_false, vGet_0, vGet_1, slcT, addT, e])
          refine wp_nil ?_
          refine wp_last ?_
          (try simp only [DL.wpS, DL.wpE, DL.wpA, wpT, wpTs, wpBo, DL.wpI, wpIf, wpTg, wpTgs, optI, List.getElem?_cons_zero, List.getElem?_cons_succ, List.set_cons_succ, List.set_cons_zero, vTru, cmpS, vIsK, vLt, vLe, vGt, vGe, vOrd, DL.isNon, addE, subE, biS, rdS, rdL_new, Bool.not_true, Bool.not_false, if_true, if_false, Bool.false_eq_true, Bool.true_eq_false, reduceIte, true_and, and_true, decide_true, decide_false, vGet_0, vGet_1, slcT, addT, rngOf])
          refine ⟨by decide, by decide, ?_⟩
          refine ⟨fun j ρ M3 => ∃ x5 x6, ρ = [some (.obj a), some (.obj p), some (.int (i : Nat)), some d, some (.str (pk d)), x5, x6, none, none, none] ∧ Hand M3 p cl (3000 * i + 2100 + 3 * j) ∧ j ≤ 5, ⟨x5, x6, rfl, HM', by omega⟩, ?_⟩
          rintro j ρ M3 ⟨x5, x6, rfl, H3, hj5⟩
          simp only [range_get_z]
          by_cases hj : (j : Int) < 5
          · simp only [hj, if_true]
            (try simp only [DL.wpS, DL.wpE, DL.wpA, wpT, wpTs, wpBo, DL.wpI, wpIf, wpTg, wpTgs, optI, List.getElem?_cons_zero, List.getElem?_cons_succ, List.set_cons_succ, List.set_cons_zero, vTru, cmpS, vIsK, vLt, vLe, vGt, vGe, vOrd, DL.isNon, addE, subE, biS, rdS, rdL_new, Bool.not_true, Bool.not_false, if_true, if_false, Bool.false_eq_true, Bool.true_eq_false, reduceIte, true_and, and_true, decide_true, decide_false, vGet_0, vGet_1, slcT, addT])
            refine wp_cons ?_
            (try simp only [DL.wpS, DL.wpE, DL.wpA, wpT, wpTs, wpBo, DL.wpI, wpIf, wpTg, wpTgs, optI, List.getElem?_cons_zero, List.getElem?_cons_succ, List.set_cons_succ, List.set_cons_zero, vTru, cmpS, vIsK, vLt, vLe, vGt, vGe, vOrd, DL.isNon, addE, subE, biS, rdS, rdL_new, Bool.not_true, Bool.not_false, if_true, if_false, Bool.false_eq_true, Bool.true_eq_false, reduceIte, true_and, and_true, decide_true, decide_false, vGet_0, vGet_1, slcT, addT])
            refine ⟨cl, _, H3, by omega, by omega, hokp, fun N4 l U4 H4 hll hlo => ?_⟩
            (try simp only [DL.wpS, DL.wpE, DL.wpA, wpT, wpTs, wpBo, DL.wpI, wpIf, wpTg, wpTgs, optI, List.getElem?_cons_zero, List.getElem?_cons_succ, List.set_cons_succ, List.set_cons_zero, vTru, cmpS, vIsK, vLt, vLe, vGt, vGe, vOrd, DL.isNon, addE, subE, biS, rdS, rdL_new, Bool.not_true, Bool.not_false, if_true, if_false, Bool.false_eq_true, Bool.true_eq_false, reduceIte, true_and, and_true, decide_true, decide_false, vGet_0, vGet_1, slcT, addT])
            refine wp_last ?_
            (try simp only [DL.wpS, DL.wpE, DL.wpA, wpT, wpTs, wpBo, DL.wpI, wpIf, wpTg, wpTgs, optI, List.getElem?_cons_zero, List.getElem?_cons_succ, List.set_cons_succ, List.set_cons_zero, vTru, cmpS, vIsK, vLt, vLe, vGt, vGe, vOrd, DL.isNon, addE, subE, biS, rdS, rdL_new, Bool.not_true, Bool.not_false, if_true, if_false, Bool.false_eq_true, Bool.true_eq_false, reduceIte, true_and, and_true, decide_true, decide_false, vGet_0, vGet_1, slcT, addT])
            refine ⟨by omega, fun o ho => ?_⟩
            (try simp only [DL.wpS, DL.wpE, DL.wpA, wpT, wpTs, wpBo, DL.wpI, wpIf, wpTg, wpTgs, optI, List.getElem?_cons_zero, List.getElem?_cons_succ, List.set_cons_succ, List.set_cons_zero, vTru, cmpS, vIsK, vLt, vLe, vGt, vGe, vOrd, DL.isNon, addE, subE, biS, rdS, rdL_new, Bool.not_true, Bool.not_false, if_true, if_false, Bool.false_eq_true, Bool.true_eq_false, reduceIte, true_and, and_true, decide_true, decide_false, vGet_0, vGet_1, slcT, addT])
            refine ⟨by omega, fun o' ho' => ?_⟩
            have := ho.det ho'
            subst this
            have e := vNe_same (M := N4) (whole_pl hlo ho)
            (try simp only [DL.wpS, DL.wpE, DL.wpA, wpT, wpTs, wpBo, DL.wpI, wpIf, wpTg, wpTgs, optI, List.getElem?_cons_zero, List.getElem?_cons_succ, List.set_cons_succ, List.set_cons_zero, vTru, cmpS, vIsK, vLt, vLe, vGt, vGe, vOrd, DL.isNon, addE, subE, biS, rdS, rdL_new, Bool.not_true, Bool.not_false, if_true, if_false, Bool.false_eq_true, Bool.true_eq_false, reduceIte, true_and, and_true, decide_true, decide_false, vGet_0, vGet_1, slcT, addT, e])
            refine wp_nil ?_
            exact ⟨N4, Sub.rfl', _, _, rfl, H4.mono (by omega), by omega⟩
          · simp only [hj, if_false]
            exact ⟨M3, Sub.rfl', _, _, _, _, _, rfl, H3.mono (by omega), by omega⟩
      · simp only [hi, if_false]
        exact ⟨_, _, _, _, _, rfl, HM.mono (by omega)⟩
    · rintro ρ' M ⟨x2, x3, x4, x5, x6, rfl, HM⟩
      refine ⟨M, Sub.rfl', ?_⟩
      refine wp_cut (fun ρ' M' => ∃ q xs, ρ' = [some (.obj a), some (.obj p), x2, x3, x4, x5, x6, some (.obj q), none, none] ∧ Hand M' p cl 9100 ∧ q ≠ p ∧ rdL M' q = some xs ∧ xs.length = 10 ∧ ∀ x ∈ xs, Odd M' x 100) ?_ ?_
      · (try simp only [DL.wpS, DL.wpE, DL.wpA, wpT, wpTs, wpBo, DL.wpI, wpIf, wpTg, wpTgs, optI, List.getElem?_cons_zero, List.getElem?_cons_succ, List.set_cons_succ, List.set_cons_zero, vTru, cmpS, vIsK, vLt, vLe, vGt, vGe, vOrd, DL.isNon, addE, subE, biS, rdS, rdL_new, Bool.not_true, Bool.not_false, if_true, if_false, Bool.false_eq_true, Bool.true_eq_false, reduceIte, true_and, and_true, decide_true, decide_false, vGet_0, vGet_1, slcT, addT])
        intro q1 hq1 q2 hq2 q3 hq3 q4 hq4
        (try simp only [DL.wpS, DL.wpE, DL.wpA, wpT, wpTs, wpBo, DL.wpI, wpIf, wpTg, wpTgs, optI, List.getElem?_cons_zero, List.getElem?_cons_succ, List.set_cons_succ, List.set_cons_zero, vTru, cmpS, vIsK, vLt, vLe, vGt, vGe, vOrd, DL.isNon, addE, subE, biS, rdS, rdL_new, Bool.not_true, Bool.not_false, if_true, if_false, Bool.false_eq_true, Bool.true_eq_false, reduceIte, true_and, and_true, decide_true, decide_false, vGet_0, vGet_1, slcT, addT, mup_same])
        refine ⟨rfl, ?_⟩
        rw [mup_mup]
        obtain ⟨n43, hq4'⟩ := mup_none hq4
        obtain ⟨n32, hq3'⟩ := mup_none hq3
        obtain ⟨n21, hq2'⟩ := mup_none hq2
        have HM4 := (((HM.new (o := .lst []) hq1).new (o := .dct []) hq2).new (o := .lst []) hq3).new (o := .dct [(.int 0, .int 1)]) hq4
        have M1 := get_up (get_up (get_up (mup_same (M := M) (a := q1) (o := .lst [])) hq2 (o := .dct [])) hq3 (o := .lst [])) hq4 (o := .dct [(.int 0, .int 1)])
        have M2 := get_up (get_up (mup_same (M := mup M q1 (.lst [])) (a := q2) (o := .dct [])) hq3 (o := .lst [])) hq4 (o := .dct [(.int 0, .int 1)])
        have M3 := get_up (mup_same (M := mup (mup M q1 (.lst [])) q2 (.dct [])) (a := q3) (o := .lst [])) hq4 (o := .dct [(.int 0, .int 1)])
        have M4 := mup_same (M := mup (mup (mup M q1 (.lst [])) q2 (.dct [])) q3 (.lst [])) (a := q4) (o := .dct [(.int 0, .int 1)])
        have p1 := HM.fresh hq1
        have p2 := (HM.new (o := .lst []) hq1).fresh hq2
        have p3 := ((HM.new (o := .lst []) hq1).new (o := .dct []) hq2).fresh hq3
        have p4 := (((HM.new (o := .lst []) hq1).new (o := .dct []) hq2).new (o := .lst []) hq3).fresh hq4
        generalize mup (mup (mup (mup M q1 (.lst [])) q2 (.dct [])) q3 (.lst [])) q4 (.dct [(.int 0, .int 1)]) = MM at HM4 M1 M2 M3 M4 ⊢
        refine ⟨cl, _, HM4, by decide, fun N d U H od => ?_⟩
        (try simp only [DL.wpS, DL.wpE, DL.wpA, wpT, wpTs, wpBo, DL.wpI, wpIf, wpTg, wpTgs, optI, List.getElem?_cons_zero, List.getElem?_cons_succ, List.set_cons_succ, List.set_cons_zero, vTru, cmpS, vIsK, vLt, vLe, vGt, vGe, vOrd, DL.isNon, addE, subE, biS, rdS, rdL_new, Bool.not_true, Bool.not_false, if_true, if_false, Bool.false_eq_true, Bool.true_eq_false, reduceIte, true_and, and_true, decide_true, decide_false, vGet_0, vGet_1, slcT, addT])
        intro q5 hq5
        have p5 := H.fresh hq5
        have UQ : ∀ x, Odd N x 100 → Odd (mup N q5 (.lst [.bl true, .obj q1, .obj q2, .str [10], .tup [.int 1, .bl true], .tup [.obj q3], .tup [.str [97, 10, 98]], .obj q4, .tup [.tup [.bl false]], d])) x 100 := fun x o => o.upx (p := p) (UpX.rfl'.new hq5) (H.new hq5).ld
        refine ⟨q5, _, rfl, (H.new hq5).mono (by decide), p5, rdL_new, rfl, fun x hx => UQ x ?_⟩
        simp only [List.mem_cons, List.not_mem_nil, or_false] at hx
        have i1 : isLd N q1 = true := isLd_lst (U _ _ p1 M1)
        have i2 : isLd N q2 = true := isLd_dct (U _ _ p2 M2)
        have i3 : isLd N q3 = true := isLd_lst (U _ _ p3 M3)
        have i4 : isLd N q4 = true := isLd_dct (U _ _ p4 M4)
        rcases hx with rfl | rfl | rfl | rfl | rfl | rfl | rfl | rfl | rfl | rfl
        · exact odd_leaf (.bl true) (.bl true) (fun n z => by rw [isTh_bl] at z; cases z) (by decide)
        · exact .obj i1 _
        · exact .obj i2 _
        · exact odd_leaf (.str _ rfl) (.str _ (by decide)) (fun n z => by rw [isTh_str] at z; cases z) (by decide)
        · exact odd_leaf .two (.tup _ (by decide) fun x hx => by
            simp only [List.mem_cons, List.not_mem_nil, or_false] at hx
            rcases hx with rfl | rfl
            · exact .int 1
            · exact .bl true) (fun n z => by
            rw [isTh_tup, Bool.and_eq_true] at z
            have := List.all_eq_true.mp z.2 (.bl true) (by simp)
            rw [isTh_bl] at this; cases this) (by
            have : icodes 1 = [49] := by
              show icodes ((1 : Nat) : Int) = _
              rw [icodes_nat]; exact TL.numL_lt (by decide)
            simp [pk, pks, joinC, this])
        · exact (Odd.obj (k := 98) i3).one
        · exact (Odd.one (k := 98) ⟨.lf _ (.str _ rfl), .str _ (by decide), (fun n z => by rw [isTh_str] at z; cases z), by decide⟩)
        · exact .obj i4 _
        · exact (Odd.one (k := 98) (Odd.one (k := 96) ⟨.lf _ (.bl false), .bl false, (fun n z => by rw [isTh_bl] at z; cases z), by decide⟩))
        · exact od
      · rintro ρ' M ⟨q, xs, rfl, HM, qp, Mq, hxl, hxo⟩
        refine ⟨M, Sub.rfl', ?_⟩
        refine wp_cons ?_
        (try simp only [DL.wpS, DL.wpE, DL.wpA, wpT, wpTs, wpBo, DL.wpI, wpIf, wpTg, wpTgs, optI, List.getElem?_cons_zero, List.getElem?_cons_succ, List.set_cons_succ, List.set_cons_zero, vTru, cmpS, vIsK, vLt, vLe, vGt, vGe, vOrd, DL.isNon, addE, subE, biS, rdS, rdL_new, Bool.not_true, Bool.not_false, if_true, if_false, Bool.false_eq_true, Bool.true_eq_false, reduceIte, true_and, and_true, decide_true, decide_false, vGet_0, vGet_1, slcT, addT])
        refine ⟨cl, _, HM, by decide, by decide, by decide, fun N r U H r0 r1 => ?_⟩
        obtain ⟨x, hx⟩ : ∃ x, xs[r.toNat]? = some x := ⟨_, List.getElem?_eq_getElem (by omega)⟩
        have hg : ∀ Q, vGet (.obj q) (.int r) N Q = Q x N := fun Q => by
          have := vGet_lst (Q := Q) (U.upx.rdL qp Mq) hx
          rw [show ((r.toNat : Nat) : Int) = r by omega] at this
          exact this
        have ox : Odd N x 100 := (hxo x (List.mem_of_getElem? hx)).upx U.upx H.ld
        (try simp only [DL.wpS, DL.wpE, DL.wpA, wpT, wpTs, wpBo, DL.wpI, wpIf, wpTg, wpTgs, optI, List.getElem?_cons_zero, List.getElem?_cons_succ, List.set_cons_succ, List.set_cons_zero, vTru, cmpS, vIsK, vLt, vLe, vGt, vGe, vOrd, DL.isNon, addE, subE, biS, rdS, rdL_new, Bool.not_true, Bool.not_false, if_true, if_false, Bool.false_eq_true, Bool.true_eq_false, reduceIte, true_and, and_true, decide_true, decide_false, vGet_0, vGet_1, slcT, addT, hg])
        refine wp_cut (fun ρ' M' => ρ' = [some (.obj a), some (.obj p), x2, x3, x4, x5, x6, some (.obj q), some x, none] ∧ M' = N) ?_ ?_
        · (try simp only [DL.wpS, DL.wpE, DL.wpA, wpT, wpTs, wpBo, DL.wpI, wpIf, wpTg, wpTgs, optI, List.getElem?_cons_zero, List.getElem?_cons_succ, List.set_cons_succ, List.set_cons_zero, vTru, cmpS, vIsK, vLt, vLe, vGt, vGe, vOrd, DL.isNon, addE, subE, biS, rdS, rdL_new, Bool.not_true, Bool.not_false, if_true, if_false, Bool.false_eq_true, Bool.true_eq_false, reduceIte, true_and, and_true, decide_true, decide_false, vGet_0, vGet_1, slcT, addT])
          refine ⟨ox.un, ?_⟩
          (try simp only [DL.wpS, DL.wpE, DL.wpA, wpT, wpTs, wpBo, DL.wpI, wpIf, wpTg, wpTgs, optI, List.getElem?_cons_zero, List.getElem?_cons_succ, List.set_cons_succ, List.set_cons_zero, vTru, cmpS, vIsK, vLt, vLe, vGt, vGe, vOrd, DL.isNon, addE, subE, biS, rdS, rdL_new, Bool.not_true, Bool.not_false, if_true, if_false, Bool.false_eq_true, Bool.true_eq_false, reduceIte, true_and, and_true, decide_true, decide_false, vGet_0, vGet_1, slcT, addT])
          cases hp : isP x with
          | true => (try simp only [DL.wpS, DL.wpE, DL.wpA, wpT, wpTs, wpBo, DL.wpI, wpIf, wpTg, wpTgs, optI, List.getElem?_cons_zero, List.getElem?_cons_succ, List.set_cons_succ, List.set_cons_zero, vTru, cmpS, vIsK, vLt, vLe, vGt, vGe, vOrd, DL.isNon, addE, subE, biS, rdS, rdL_new, Bool.not_true, Bool.not_false, if_true, if_false, Bool.false_eq_true, Bool.true_eq_false, reduceIte, true_and, and_true, decide_true, decide_false, vGet_0, vGet_1, slcT, addT]); exact wp_nil ⟨rfl, rfl⟩
          | false =>
            (try simp only [DL.wpS, DL.wpE, DL.wpA, wpT, wpTs, wpBo, DL.wpI, wpIf, wpTg, wpTgs, optI, List.getElem?_cons_zero, List.getElem?_cons_succ, List.set_cons_succ, List.set_cons_zero, vTru, cmpS, vIsK, vLt, vLe, vGt, vGe, vOrd, DL.isNon, addE, subE, biS, rdS, rdL_new, Bool.not_true, Bool.not_false, if_true, if_false, Bool.false_eq_true, Bool.true_eq_false, reduceIte, true_and, and_true, decide_true, decide_false, vGet_0, vGet_1, slcT, addT])
            have hnt : isTh 30 x = false := by
              cases z : isTh 30 x with
              | false => rfl
              | true => have := ox.pl 30 z; rw [hp] at this; cases this
            refine ⟨ox.kw, (fun z => by rw [hnt] at z; cases z), ?_⟩
            (try simp only [DL.wpS, DL.wpE, DL.wpA, wpT, wpTs, wpBo, DL.wpI, wpIf, wpTg, wpTgs, optI, List.getElem?_cons_zero, List.getElem?_cons_succ, List.set_cons_succ, List.set_cons_zero, vTru, cmpS, vIsK, vLt, vLe, vGt, vGe, vOrd, DL.isNon, addE, subE, biS, rdS, rdL_new, Bool.not_true, Bool.not_false, if_true, if_false, Bool.false_eq_true, Bool.true_eq_false, reduceIte, true_and, and_true, decide_true, decide_false, vGet_0, vGet_1, slcT, addT, hnt])
            exact wp_nil ⟨rfl, rfl⟩
        · rintro ρ' M' ⟨rfl, rfl⟩
          refine ⟨M', Sub.rfl', ?_⟩
          refine wp_cons ?_
          (try simp only [DL.wpS, DL.wpE, DL.wpA, wpT, wpTs, wpBo, DL.wpI, wpIf, wpTg, wpTgs, optI, List.getElem?_cons_zero, List.getElem?_cons_succ, List.set_cons_succ, List.set_cons_zero, vTru, cmpS, vIsK, vLt, vLe, vGt, vGe, vOrd, DL.isNon, addE, subE, biS, rdS, rdL_new, Bool.not_true, Bool.not_false, if_true, if_false, Bool.false_eq_true, Bool.true_eq_false, reduceIte, true_and, and_true, decide_true, decide_false, vGet_0, vGet_1, slcT, addT, vMul, vAdd, binS])
          refine ⟨by simp, by decide, by decide, by simp, by decide, by decide, by decide, by simp, by decide, by decide, by simp, by decide, by decide, by decide, by simp, by decide, by decide, by simp, by decide, by decide, by decide, fun q5 hq5 => ?_⟩
          have p5 := H.fresh hq5
          refine ⟨cl, _, H.new hq5, by decide, by decide, by decide, fun N2 r2 U2 H2 r20 r21 => ?_⟩
          have Nq := rdL_of (U2.get p5 mup_same)
          obtain ⟨l, hg, hll, hlo⟩ : ∃ l, (∀ Q, vGet (.obj q5) (.int r2) N2 Q = Q (.str l) N2) ∧ l.length ≤ 1000 ∧ okc l := by
            have he : ((r2.toNat : Nat) : Int) = r2 := by omega
            have : r2.toNat = 0 ∨ r2.toNat = 1 ∨ r2.toNat = 2 ∨ r2.toNat = 3 ∨ r2.toNat = 4 := by omega
            rw [← he]
            rcases this with e | e | e | e | e <;> rw [e]
            · exact ⟨_, fun Q => vGet_lst (k := 0) Nq rfl, by decide, by decide⟩
            · exact ⟨_, fun Q => vGet_lst (k := 1) Nq rfl, by decide, by decide⟩
            · exact ⟨_, fun Q => vGet_lst (k := 2) Nq rfl, by decide, by decide⟩
            · exact ⟨_, fun Q => vGet_lst (k := 3) Nq rfl, by decide, by decide⟩
            · exact ⟨_, fun Q => vGet_lst (k := 4) Nq rfl, by decide, by decide⟩
          (try simp only [DL.wpS, DL.wpE, DL.wpA, wpT, wpTs, wpBo, DL.wpI, wpIf, wpTg, wpTgs, optI, List.getElem?_cons_zero, List.getElem?_cons_succ, List.set_cons_succ, List.set_cons_zero, vTru, cmpS, vIsK, vLt, vLe, vGt, vGe, vOrd, DL.isNon, addE, subE, biS, rdS, rdL_new, Bool.not_true, Bool.not_false, if_true, if_false, Bool.false_eq_true, Bool.true_eq_false, reduceIte, true_and, and_true, decide_true, decide_false, vGet_0, vGet_1, slcT, addT, hg])
          refine wp_cons ?_
          (try simp only [DL.wpS, DL.wpE, DL.wpA, wpT, wpTs, wpBo, DL.wpI, wpIf, wpTg, wpTgs, optI, List.getElem?_cons_zero, List.getElem?_cons_succ, List.set_cons_succ, List.set_cons_zero, vTru, cmpS, vIsK, vLt, vLe, vGt, vGe, vOrd, DL.isNon, addE, subE, biS, rdS, rdL_new, Bool.not_true, Bool.not_false, if_true, if_false, Bool.false_eq_true, Bool.true_eq_false, reduceIte, true_and, and_true, decide_true, decide_false, vGet_0, vGet_1, slcT, addT])
          refine ⟨by omega, fun o ho => ?_⟩
          (try simp only [DL.wpS, DL.wpE, DL.wpA, wpT, wpTs, wpBo, DL.wpI, wpIf, wpTg, wpTgs, optI, List.getElem?_cons_zero, List.getElem?_cons_succ, List.set_cons_succ, List.set_cons_zero, vTru, cmpS, vIsK, vLt, vLe, vGt, vGe, vOrd, DL.isNon, addE, subE, biS, rdS, rdL_new, Bool.not_true, Bool.not_false, if_true, if_false, Bool.false_eq_true, Bool.true_eq_false, reduceIte, true_and, and_true, decide_true, decide_false, vGet_0, vGet_1, slcT, addT])
          refine ⟨by omega, fun o' ho' => ?_⟩
          have := ho.det ho'
          subst this
          have e := vNe_same (M := N2) (whole_pl hlo ho)
          (try simp only [DL.wpS, DL.wpE, DL.wpA, wpT, wpTs, wpBo, DL.wpI, wpIf, wpTg, wpTgs, optI, List.getElem?_cons_zero, List.getElem?_cons_succ, List.set_cons_succ, List.set_cons_zero, vTru, cmpS, vIsK, vLt, vLe, vGt, vGe, vOrd, DL.isNon, addE, subE, biS, rdS, rdL_new, Bool.not_true, Bool.not_false, if_true, if_false, Bool.false_eq_true, Bool.true_eq_false, reduceIte, true_and, and_true, decide_true, decide_false, vGet_0, vGet_1, slcT, addT, e])
          refine wp_nil ?_
          refine wp_last ?_
          (try simp only [DL.wpS, DL.wpE, DL.wpA, wpT, wpTs, wpBo, DL.wpI, wpIf, wpTg, wpTgs, optI, List.getElem?_cons_zero, List.getElem?_cons_succ, List.set_cons_succ, List.set_cons_zero, vTru, cmpS, vIsK, vLt, vLe, vGt, vGe, vOrd, DL.isNon, addE, subE, biS, rdS, rdL_new, Bool.not_true, Bool.not_false, if_true, if_false, Bool.false_eq_true, Bool.true_eq_false, reduceIte, true_and, and_true, decide_true, decide_false, vGet_0, vGet_1, slcT, addT])
          intro q6 hq6 q7 hq7 q8 hq8
          have H8 := ((H2.new (o := .lst [.str [46]]) hq6).new (o := .dct []) hq7)
          have M6 := get_up (get_up (mup_same (M := N2) (a := q6) (o := .lst [.str [46]])) hq7 (o := .dct [])) hq8 (o := .lst [.non, .int 5, .bl true, .obj q6, .tup [.str [46]], .obj q7])
          have M7 := get_up (mup_same (M := mup N2 q6 (.lst [.str [46]])) (a := q7) (o := .dct [])) hq8 (o := .lst [.non, .int 5, .bl true, .obj q6, .tup [.str [46]], .obj q7])
          have p6 := H2.fresh hq6
          have p7 := (H2.new (o := .lst [.str [46]]) hq6).fresh hq7
          have p8 := H8.fresh hq8
          refine ⟨cl, _, _, H8.new hq8, by decide, .inl (.inr ⟨q8, rfl, p8, rdL_new⟩), by simp, by simp, fun N3 x U3 H3 hx => ?_⟩
          have k6 : kn N3 (.obj q6) = true := isLd_kn (isLd_lst (U3.get p6 M6))
          have k7 : kn N3 (.obj q7) = true := isLd_kn (isLd_dct (U3.get p7 M7))
          have fin : ∀ R : DK, R = (endsF Q0).rt → vEq (.tup [.str wrongS, .int (-1)]) (.tup [.str [119, 114, 111, 110, 103], .int (-1)]) N3 R := fun R hR => by
            have e := vEq_pl (neg := false) (d := .tup [.str wrongS, .int (-1)]) (e := .tup [.str wrongS, .int (-1)]) (M := N3) rfl rfl
            have e2 : eqX (.tup [.str wrongS, .int (-1)]) (.tup [.str wrongS, .int (-1)]) = true := eqX_refl (n := 59) rfl
            show vEq (.tup [.str wrongS, .int (-1)]) (.tup [.str wrongS, .int (-1)]) N3 R
            unfold vEq
            rw [e, hR]
            simp only [e2, Bool.false_eq_true, if_false]
            exact rt_of (hq N3) Sub.rfl'
          simp only [List.mem_cons, List.not_mem_nil, or_false] at hx
          rcases hx with rfl | rfl | rfl | rfl | rfl | rfl
          · exact ⟨rfl, rfl, fin _ rfl⟩
          · exact ⟨rfl, rfl, fin _ rfl⟩
          · exact ⟨rfl, rfl, fin _ rfl⟩
          · exact ⟨k6, rfl, fin _ rfl⟩
          · exact ⟨rfl, rfl, fin _ rfl⟩
          · exact ⟨k7, rfl, fin _ rfl⟩
  · exact hh.elim
end H54
set_option Elab.async false
set_option linter.all false
set_option maxRecDepth 100000
set_option maxHeartbeats 0
namespace H54
open PySem PySem.Spec PyProof.Rows L2 DL
section
variable {w : World} {base : Heap} {G : Cfg} (L : LW fa fn cf sub R.prog w base G)
include L
omit L in
theorem D_is_integer : DefOk cf sub d_is_integer N_is_integer ["thing"] 3 sp_is_integer m_is_integer [] := ⟨⟨rfl, rfl⟩, ⟨rfl, rfl, rfl, by decide +kernel, rfl, by decide +kernel, by decide +kernel⟩, fun _ _ _ _ _ _ us hl => match us, hl with | [_], _ => rfl, k_is_integer, lev_of rfl, by decide, h_is_integer⟩
theorem ok_is_integer : (C_is_integer 4 sp_is_integer).Ok R.prog w G base := L.fn_ (nm := "is_integer") 0 rfl rfl (List.mem_iff_getElem?.mpr ⟨0, rfl⟩) D_is_integer oks_nil
omit L in
theorem D_is_sign : DefOk cf sub d_is_sign N_is_sign ["sign"] 3 sp_is_sign m_is_sign [] := ⟨⟨rfl, rfl⟩, ⟨rfl, rfl, rfl, by decide +kernel, rfl, by decide +kernel, by decide +kernel⟩, fun _ _ _ _ _ _ us hl => match us, hl with | [_], _ => rfl, k_is_sign, lev_of rfl, by decide, h_is_sign⟩
theorem ok_is_sign : (C_is_sign 4 sp_is_sign).Ok R.prog w G base := L.fn_ (nm := "is_sign") 1 rfl rfl (List.mem_iff_getElem?.mpr ⟨1, rfl⟩) D_is_sign oks_nil
omit L in
theorem D_is_signs : DefOk cf sub d_is_signs N_is_signs ["thing"] 4 sp_is_signs m_is_signs [C_is_sign 4 sp_is_sign] := ⟨⟨rfl, rfl⟩, ⟨rfl, rfl, rfl, by decide +kernel, rfl, by decide +kernel, by decide +kernel⟩, fun _ _ _ _ _ _ us hl => match us, hl with | [_], _ => rfl, k_is_signs _ _, lev_of rfl, by decide, h_is_signs _⟩
theorem ok_is_signs : (C_is_signs 5 sp_is_signs).Ok R.prog w G base := L.fn_ (nm := "is_signs") 2 rfl rfl (List.mem_iff_getElem?.mpr ⟨2, rfl⟩) D_is_signs (oks_cons (ok_is_sign L) oks_nil)
theorem ok_is_thing : ∀ j : Nat, (C_is_thing (6 + j) (sp_thg j)).Ok R.prog w G base := by
  intro j
  induction j with
  | zero => exact L.fn_no (d := d_is_thing) (ps := ["thing", "deep"]) (k := 6) (sp := sp_thg 0) 3 rfl rfl (List.mem_iff_getElem?.mpr ⟨3, rfl⟩) ⟨rfl, rfl⟩ (fun _ _ _ _ _ _ us hl => match us, hl with | [_, _], _ => rfl) (no_thg)
  | succ j ih =>
    refine L.fn_ (d := d_is_thing) (N := N_is_thing) (ps := ["thing", "deep"]) (k := 6 + j) (sp := sp_thg (j + 1)) (ms := m_is_thing) (l := [C_is_thing (6 + j) (sp_thg j), C_is_integer 4 sp_is_integer, C_is_signs 5 sp_is_signs]) (nm := "is_thing") 3 rfl rfl (List.mem_iff_getElem?.mpr ⟨3, rfl⟩) ⟨⟨rfl, rfl⟩, ⟨rfl, rfl, rfl, by decide +kernel, rfl, by decide +kernel, by decide +kernel⟩, fun _ _ _ _ _ _ us hl => match us, hl with | [_, _], _ => rfl, k_is_thing _ _ _ _ _ _, ?_, by omega, h_is_thing _ _ _ j⟩ (oks_cons (ih) (oks_cons (ok_is_integer L) (oks_cons (ok_is_signs L) oks_nil)))
    intro c hc
    simp only [List.mem_cons, List.not_mem_nil, or_false] at hc
    rcases hc with rfl | rfl | rfl
    all_goals (show (_ : Nat) ≤ _; simp only [Cal.need]; omega)
theorem ok_raw_packed : ∀ j : Nat, (C_raw_packed (4 + j) (sp_pk j)).Ok R.prog w G base := by
  intro j
  induction j with
  | zero => exact L.fn_no (d := d_raw_packed) (ps := ["thing"]) (k := 4) (sp := sp_pk 0) 4 rfl rfl (List.mem_iff_getElem?.mpr ⟨4, rfl⟩) ⟨rfl, rfl⟩ (fun _ _ _ _ _ _ us hl => match us, hl with | [_], _ => rfl) (no_pk)
  | succ j ih =>
    refine L.fn_ (d := d_raw_packed) (N := N_raw_packed) (ps := ["thing"]) (k := 4 + j) (sp := sp_pk (j + 1)) (ms := m_raw_packed) (l := [C_raw_packed (4 + j) (sp_pk j)]) (nm := "raw_packed") 4 rfl rfl (List.mem_iff_getElem?.mpr ⟨4, rfl⟩) ⟨⟨rfl, rfl⟩, ⟨rfl, rfl, rfl, by decide +kernel, rfl, by decide +kernel, by decide +kernel⟩, fun _ _ _ _ _ _ us hl => match us, hl with | [_], _ => rfl, k_raw_packed _ _, ?_, by omega, h_raw_packed _ j⟩ (oks_cons (ih) oks_nil)
    intro c hc
    simp only [List.mem_cons, List.not_mem_nil, or_false] at hc
    rcases hc with rfl
    all_goals (show (_ : Nat) ≤ _; simp only [Cal.need]; omega)
omit L in
theorem D_thing_text : DefOk cf sub d_thing_text N_thing_text ["thing"] 37 sp_thing_text m_thing_text [C_is_thing 37 (sp_thg 31), C_raw_packed 35 (sp_pk 31)] := ⟨⟨rfl, rfl⟩, ⟨rfl, rfl, rfl, by decide +kernel, rfl, by decide +kernel, by decide +kernel⟩, fun _ _ _ _ _ _ us hl => match us, hl with | [_], _ => rfl, k_thing_text _ _ _ _, lev_of rfl, by decide, h_thing_text _ _⟩
theorem ok_thing_text : (C_thing_text 38 sp_thing_text).Ok R.prog w G base := L.fn_ (nm := "thing_text") 5 rfl rfl (List.mem_iff_getElem?.mpr ⟨5, rfl⟩) D_thing_text (oks_cons (ok_is_thing L 31) (oks_cons (ok_raw_packed L 31) oks_nil))
omit L in
theorem D_Reader___init__ : DefOk cf sub d_Reader___init__ N_Reader___init__ ["self", "text"] 3 sp_init m_Reader___init__ [] := ⟨⟨rfl, rfl⟩, ⟨rfl, rfl, rfl, by decide +kernel, rfl, by decide +kernel, by decide +kernel⟩, fun _ _ _ _ _ _ us hl => match us, hl with | [_, _], _ => rfl, k_Reader___init__, lev_of rfl, by decide, h_Reader___init__⟩
theorem ok_Reader___init__ : (C_Reader___init__ 4 sp_init).Ok R.prog w G base := L.mk_ (cn := "Reader") (kc := 0) 6 rfl rfl rfl (List.mem_iff_getElem?.mpr ⟨8, rfl⟩) (List.mem_iff_getElem?.mpr ⟨6, rfl⟩) D_Reader___init__ oks_nil
omit L in
theorem D_Reader_wrong : DefOk cf sub d_Reader_wrong N_Reader_wrong ["self"] 3 sp_wrong m_Reader_wrong [] := ⟨⟨rfl, rfl⟩, ⟨rfl, rfl, rfl, by decide +kernel, rfl, by decide +kernel, by decide +kernel⟩, fun _ _ _ _ _ _ us hl => match us, hl with | [_], _ => rfl, k_Reader_wrong, lev_of rfl, by decide, h_Reader_wrong⟩
theorem ok_Reader_wrong : (C_Reader_wrong 4 sp_wrong).Ok R.prog w G base := L.me (cn := "Reader") (nm := "wrong") (kc := 0) 7 rfl rfl rfl (by decide +kernel) (List.mem_iff_getElem?.mpr ⟨9, rfl⟩) (List.mem_iff_getElem?.mpr ⟨6, rfl⟩) (List.mem_iff_getElem?.mpr ⟨7, rfl⟩) D_Reader_wrong oks_nil
omit L in
theorem D_Reader_sign : DefOk cf sub d_Reader_sign N_Reader_sign ["self"] 3 sp_sign m_Reader_sign [] := ⟨⟨rfl, rfl⟩, ⟨rfl, rfl, rfl, by decide +kernel, rfl, by decide +kernel, by decide +kernel⟩, fun _ _ _ _ _ _ us hl => match us, hl with | [_], _ => rfl, k_Reader_sign, lev_of rfl, by decide, h_Reader_sign⟩
theorem ok_Reader_sign : (C_Reader_sign 4 sp_sign).Ok R.prog w G base := L.me (cn := "Reader") (nm := "sign") (kc := 0) 8 rfl rfl rfl (by decide +kernel) (List.mem_iff_getElem?.mpr ⟨10, rfl⟩) (List.mem_iff_getElem?.mpr ⟨6, rfl⟩) (List.mem_iff_getElem?.mpr ⟨7, rfl⟩) D_Reader_sign oks_nil
omit L in
theorem D_Reader_figures : DefOk cf sub d_Reader_figures N_Reader_figures ["self"] 4 sp_figures m_Reader_figures [C_Reader_sign 4 sp_sign] := ⟨⟨rfl, rfl⟩, ⟨rfl, rfl, rfl, by decide +kernel, rfl, by decide +kernel, by decide +kernel⟩, fun _ _ _ _ _ _ us hl => match us, hl with | [_], _ => rfl, k_Reader_figures _ _, lev_of rfl, by decide, h_Reader_figures _⟩
theorem ok_Reader_figures : (C_Reader_figures 5 sp_figures).Ok R.prog w G base := L.me (cn := "Reader") (nm := "figures") (kc := 0) 9 rfl rfl rfl (by decide +kernel) (List.mem_iff_getElem?.mpr ⟨11, rfl⟩) (List.mem_iff_getElem?.mpr ⟨6, rfl⟩) (List.mem_iff_getElem?.mpr ⟨7, rfl⟩) D_Reader_figures (oks_cons (ok_Reader_sign L) oks_nil)
omit L in
theorem D_Reader_integer : DefOk cf sub d_Reader_integer N_Reader_integer ["self"] 5 sp_integer m_Reader_integer [C_Reader_sign 4 sp_sign, C_Reader_wrong 4 sp_wrong, C_Reader_figures 5 sp_figures] := ⟨⟨rfl, rfl⟩, ⟨rfl, rfl, rfl, by decide +kernel, rfl, by decide +kernel, by decide +kernel⟩, fun _ _ _ _ _ _ us hl => match us, hl with | [_], _ => rfl, k_Reader_integer _ _ _ _ _ _, lev_of rfl, by decide, h_Reader_integer _ _ _⟩
theorem ok_Reader_integer : (C_Reader_integer 6 sp_integer).Ok R.prog w G base := L.me (cn := "Reader") (nm := "integer") (kc := 0) 10 rfl rfl rfl (by decide +kernel) (List.mem_iff_getElem?.mpr ⟨12, rfl⟩) (List.mem_iff_getElem?.mpr ⟨6, rfl⟩) (List.mem_iff_getElem?.mpr ⟨7, rfl⟩) D_Reader_integer (oks_cons (ok_Reader_sign L) (oks_cons (ok_Reader_wrong L) (oks_cons (ok_Reader_figures L) oks_nil)))
omit L in
theorem D_Reader_string : DefOk cf sub d_Reader_string N_Reader_string ["self"] 4 sp_string m_Reader_string [C_Reader_sign 4 sp_sign, C_Reader_wrong 4 sp_wrong, C_is_sign 4 sp_is_sign] := ⟨⟨rfl, rfl⟩, ⟨rfl, rfl, rfl, by decide +kernel, rfl, by decide +kernel, by decide +kernel⟩, fun _ _ _ _ _ _ us hl => match us, hl with | [_], _ => rfl, k_Reader_string _ _ _ _ _ _, lev_of rfl, by decide, h_Reader_string _ _ _⟩
theorem ok_Reader_string : (C_Reader_string 5 sp_string).Ok R.prog w G base := L.me (cn := "Reader") (nm := "string") (kc := 0) 11 rfl rfl rfl (by decide +kernel) (List.mem_iff_getElem?.mpr ⟨13, rfl⟩) (List.mem_iff_getElem?.mpr ⟨6, rfl⟩) (List.mem_iff_getElem?.mpr ⟨7, rfl⟩) D_Reader_string (oks_cons (ok_Reader_sign L) (oks_cons (ok_Reader_wrong L) (oks_cons (ok_is_sign L) oks_nil)))
omit L in
theorem D_Reader_plain : DefOk cf sub d_Reader_plain N_Reader_plain ["self"] 6 sp_plain m_Reader_plain [C_Reader_sign 4 sp_sign, C_Reader_string 5 sp_string, C_Reader_integer 6 sp_integer] := ⟨⟨rfl, rfl⟩, ⟨rfl, rfl, rfl, by decide +kernel, rfl, by decide +kernel, by decide +kernel⟩, fun _ _ _ _ _ _ us hl => match us, hl with | [_], _ => rfl, k_Reader_plain _ _ _ _ _ _, lev_of rfl, by decide, h_Reader_plain _ _ _⟩
theorem ok_Reader_plain : (C_Reader_plain 7 sp_plain).Ok R.prog w G base := L.me (cn := "Reader") (nm := "plain") (kc := 0) 12 rfl rfl rfl (by decide +kernel) (List.mem_iff_getElem?.mpr ⟨14, rfl⟩) (List.mem_iff_getElem?.mpr ⟨6, rfl⟩) (List.mem_iff_getElem?.mpr ⟨7, rfl⟩) D_Reader_plain (oks_cons (ok_Reader_sign L) (oks_cons (ok_Reader_string L) (oks_cons (ok_Reader_integer L) oks_nil)))
omit L in
theorem D_Reader_enter_tuples : DefOk cf sub d_Reader_enter_tuples N_Reader_enter_tuples ["self"] 4 sp_enter m_Reader_enter_tuples [C_Reader_sign 4 sp_sign, C_Reader_wrong 4 sp_wrong] := ⟨⟨rfl, rfl⟩, ⟨rfl, rfl, rfl, by decide +kernel, rfl, by decide +kernel, by decide +kernel⟩, fun _ _ _ _ _ _ us hl => match us, hl with | [_], _ => rfl, k_Reader_enter_tuples _ _ _ _, lev_of rfl, by decide, h_Reader_enter_tuples _ _⟩
theorem ok_Reader_enter_tuples : (C_Reader_enter_tuples 5 sp_enter).Ok R.prog w G base := L.me (cn := "Reader") (nm := "enter_tuples") (kc := 0) 13 rfl rfl rfl (by decide +kernel) (List.mem_iff_getElem?.mpr ⟨15, rfl⟩) (List.mem_iff_getElem?.mpr ⟨6, rfl⟩) (List.mem_iff_getElem?.mpr ⟨7, rfl⟩) D_Reader_enter_tuples (oks_cons (ok_Reader_sign L) (oks_cons (ok_Reader_wrong L) oks_nil))
omit L in
theorem D_Reader_read : DefOk cf sub d_Reader_read N_Reader_read ["self"] 7 sp_read m_Reader_read [C_Reader_enter_tuples 5 sp_enter, C_Reader_plain 7 sp_plain, C_Reader_sign 4 sp_sign, C_Reader_wrong 4 sp_wrong] := ⟨⟨rfl, rfl⟩, ⟨rfl, rfl, rfl, by decide +kernel, rfl, by decide +kernel, by decide +kernel⟩, fun _ _ _ _ _ _ us hl => match us, hl with | [_], _ => rfl, k_Reader_read _ _ _ _ _ _ _ _, lev_of rfl, by decide, h_Reader_read _ _ _ _⟩
theorem ok_Reader_read : (C_Reader_read 8 sp_read).Ok R.prog w G base := L.me (cn := "Reader") (nm := "read") (kc := 0) 14 rfl rfl rfl (by decide +kernel) (List.mem_iff_getElem?.mpr ⟨16, rfl⟩) (List.mem_iff_getElem?.mpr ⟨6, rfl⟩) (List.mem_iff_getElem?.mpr ⟨7, rfl⟩) D_Reader_read (oks_cons (ok_Reader_enter_tuples L) (oks_cons (ok_Reader_plain L) (oks_cons (ok_Reader_sign L) (oks_cons (ok_Reader_wrong L) oks_nil))))
omit L in
theorem D_read_thing : DefOk cf sub d_read_thing N_read_thing ["text"] 8 sp_read_thing m_read_thing [C_Reader_read 8 sp_read, C_Reader___init__ 4 sp_init] := ⟨⟨rfl, rfl⟩, ⟨rfl, rfl, rfl, by decide +kernel, rfl, by decide +kernel, by decide +kernel⟩, fun _ _ _ _ _ _ us hl => match us, hl with | [_], _ => rfl, k_read_thing _ _ _ _, lev_of rfl, by decide, h_read_thing _ _⟩
theorem ok_read_thing : (C_read_thing 9 sp_read_thing).Ok R.prog w G base := L.fn_ (nm := "read_thing") 15 rfl rfl (List.mem_iff_getElem?.mpr ⟨17, rfl⟩) D_read_thing (oks_cons (ok_Reader_read L) (oks_cons (ok_Reader___init__ L) oks_nil))
omit L in
theorem D__law_hand : DefOk cf sub d__law_hand N__law_hand ["_law_script"] 3 sp_pot m__law_hand [] := ⟨⟨rfl, rfl⟩, ⟨rfl, rfl, rfl, by decide +kernel, rfl, by decide +kernel, by decide +kernel⟩, fun _ _ _ _ _ _ us hl => match us, hl with | [_], _ => rfl, k__law_hand, lev_of rfl, by decide, h__law_hand⟩
theorem ok__law_hand : (C__law_hand 4 sp_pot).Ok R.prog w G base := L.fn_ (nm := "_law_hand") 16 rfl rfl (List.mem_iff_getElem?.mpr ⟨18, rfl⟩) D__law_hand oks_nil
omit L in
theorem D__law_draw : DefOk cf sub d__law_draw N__law_draw ["_law_hand_here", "_law_many"] 3 sp_draw m__law_draw [] := ⟨⟨rfl, rfl⟩, ⟨rfl, rfl, rfl, by decide +kernel, rfl, by decide +kernel, by decide +kernel⟩, fun _ _ _ _ _ _ us hl => match us, hl with | [_, _], _ => rfl, k__law_draw, lev_of rfl, by decide, h__law_draw⟩
theorem ok__law_draw : (C__law_draw 4 sp_draw).Ok R.prog w G base := L.fn_ (nm := "_law_draw") 17 rfl rfl (List.mem_iff_getElem?.mpr ⟨19, rfl⟩) D__law_draw oks_nil
omit L in
theorem D__law_any : DefOk cf sub d__law_any N__law_any ["_law_hand_here", "_law_things"] 4 sp_any2 m__law_any [C__law_draw 4 sp_draw] := ⟨⟨rfl, rfl⟩, ⟨rfl, rfl, rfl, by decide +kernel, rfl, by decide +kernel, by decide +kernel⟩, fun _ _ _ _ _ _ us hl => match us, hl with | [_, _], _ => rfl, k__law_any _ _, lev_of rfl, by decide, h__law_any2 _⟩
theorem ok__law_any : (C__law_any 5 sp_any2).Ok R.prog w G base := L.fn_ (nm := "_law_any") 18 rfl rfl (List.mem_iff_getElem?.mpr ⟨20, rfl⟩) D__law_any (oks_cons (ok__law_draw L) oks_nil)
omit L in
theorem D__law_word : DefOk cf sub d__law_word N__law_word ["_law_hand_here"] 5 sp_word m__law_word [C__law_draw 4 sp_draw, C__law_any 5 sp_any2] := ⟨⟨rfl, rfl⟩, ⟨rfl, rfl, rfl, by decide +kernel, rfl, by decide +kernel, by decide +kernel⟩, fun _ _ _ _ _ _ us hl => match us, hl with | [_], _ => rfl, k__law_word _ _ _ _, lev_of rfl, by decide, h__law_word _ _⟩
theorem ok__law_word : (C__law_word 6 sp_word).Ok R.prog w G base := L.fn_ (nm := "_law_word") 19 rfl rfl (List.mem_iff_getElem?.mpr ⟨21, rfl⟩) D__law_word (oks_cons (ok__law_draw L) (oks_cons (ok__law_any L) oks_nil))
theorem ok__law_thing : ∀ j : Nat, (C__law_thing (7 + j) (sp_thing j)).Ok R.prog w G base := by
  intro j
  induction j with
  | zero => exact L.fn_no (d := d__law_thing) (ps := ["_law_hand_here", "_law_deep_here"]) (k := 7) (sp := sp_thing 0) 20 rfl rfl (List.mem_iff_getElem?.mpr ⟨22, rfl⟩) ⟨rfl, rfl⟩ (fun _ _ _ _ _ _ us hl => match us, hl with | [_, _], _ => rfl) (no_thing)
  | succ j ih =>
    refine L.fn_ (d := d__law_thing) (N := N__law_thing) (ps := ["_law_hand_here", "_law_deep_here"]) (k := 7 + j) (sp := sp_thing (j + 1)) (ms := m__law_thing) (l := [C__law_draw 4 sp_draw, C__law_any 5 sp_any2, C__law_word 6 sp_word, C__law_thing (7 + j) (sp_thing j)]) (nm := "_law_thing") 20 rfl rfl (List.mem_iff_getElem?.mpr ⟨22, rfl⟩) ⟨⟨rfl, rfl⟩, ⟨rfl, rfl, rfl, by decide +kernel, rfl, by decide +kernel, by decide +kernel⟩, fun _ _ _ _ _ _ us hl => match us, hl with | [_, _], _ => rfl, k__law_thing _ _ _ _ _ _ _ _, ?_, by omega, h__law_thing _ _ _ _ j⟩ (oks_cons (ok__law_draw L) (oks_cons (ok__law_any L) (oks_cons (ok__law_word L) (oks_cons (ih) oks_nil))))
    intro c hc
    simp only [List.mem_cons, List.not_mem_nil, or_false] at hc
    rcases hc with rfl | rfl | rfl | rfl
    all_goals (show (_ : Nat) ≤ _; simp only [Cal.need]; omega)
omit L in
theorem D__law_nested : DefOk cf sub d__law_nested N__law_nested ["_law_hand_here", "_law_many"] 5 sp_nested m__law_nested [C__law_any 5 sp_any2, C__law_draw 4 sp_draw] := ⟨⟨rfl, rfl⟩, ⟨rfl, rfl, rfl, by decide +kernel, rfl, by decide +kernel, by decide +kernel⟩, fun _ _ _ _ _ _ us hl => match us, hl with | [_, _], _ => rfl, k__law_nested _ _ _ _, lev_of rfl, by decide, h__law_nested _ _⟩
theorem ok__law_nested : (C__law_nested 6 sp_nested).Ok R.prog w G base := L.fn_ (nm := "_law_nested") 21 rfl rfl (List.mem_iff_getElem?.mpr ⟨23, rfl⟩) D__law_nested (oks_cons (ok__law_any L) (oks_cons (ok__law_draw L) oks_nil))
theorem ok__law_packed : ∀ j : Nat, (C__law_packed (4 + j) (sp_pk j)).Ok R.prog w G base := by
  intro j
  induction j with
  | zero => exact L.fn_no (d := d__law_packed) (ps := ["_law_thing_here"]) (k := 4) (sp := sp_pk 0) 22 rfl rfl (List.mem_iff_getElem?.mpr ⟨24, rfl⟩) ⟨rfl, rfl⟩ (fun _ _ _ _ _ _ us hl => match us, hl with | [_], _ => rfl) (no_pk)
  | succ j ih =>
    refine L.fn_ (d := d__law_packed) (N := N__law_packed) (ps := ["_law_thing_here"]) (k := 4 + j) (sp := sp_pk (j + 1)) (ms := m__law_packed) (l := [C__law_packed (4 + j) (sp_pk j)]) (nm := "_law_packed") 22 rfl rfl (List.mem_iff_getElem?.mpr ⟨24, rfl⟩) ⟨⟨rfl, rfl⟩, ⟨rfl, rfl, rfl, by decide +kernel, rfl, by decide +kernel, by decide +kernel⟩, fun _ _ _ _ _ _ us hl => match us, hl with | [_], _ => rfl, k__law_packed _ _, ?_, by omega, h__law_packed _ j⟩ (oks_cons (ih) oks_nil)
    intro c hc
    simp only [List.mem_cons, List.not_mem_nil, or_false] at hc
    rcases hc with rfl
    all_goals (show (_ : Nat) ≤ _; simp only [Cal.need]; omega)
omit L in
theorem D__law_read_string : DefOk cf sub d__law_read_string N__law_read_string ["_law_text", "_law_at"] 3 sp_rs m__law_read_string [] := ⟨⟨rfl, rfl⟩, ⟨rfl, rfl, rfl, by decide +kernel, rfl, by decide +kernel, by decide +kernel⟩, fun _ _ _ _ _ _ us hl => match us, hl with | [_, _], _ => rfl, k__law_read_string, lev_of rfl, by decide, h__law_read_string⟩
theorem ok__law_read_string : (C__law_read_string 4 sp_rs).Ok R.prog w G base := L.fn_ (nm := "_law_read_string") 24 rfl rfl (List.mem_iff_getElem?.mpr ⟨26, rfl⟩) D__law_read_string oks_nil
omit L in
theorem D__law_read_integer : DefOk cf sub d__law_read_integer N__law_read_integer ["_law_text", "_law_at"] 3 sp_ri m__law_read_integer [] := ⟨⟨rfl, rfl⟩, ⟨rfl, rfl, rfl, by decide +kernel, rfl, by decide +kernel, by decide +kernel⟩, fun _ _ _ _ _ _ us hl => match us, hl with | [_, _], _ => rfl, k__law_read_integer, lev_of rfl, by decide, h__law_read_integer⟩
theorem ok__law_read_integer : (C__law_read_integer 4 sp_ri).Ok R.prog w G base := L.fn_ (nm := "_law_read_integer") 25 rfl rfl (List.mem_iff_getElem?.mpr ⟨27, rfl⟩) D__law_read_integer oks_nil
theorem ok_pair : ∀ j : Nat, (C__law_first_wrong (4 + 2 * j) (sp_fw j)).Ok R.prog w G base ∧ (C__law_read_tuple (4 + 2 * j + 1) (sp_rt j)).Ok R.prog w G base := by
  have second : ∀ j : Nat, (C__law_first_wrong (4 + 2 * j) (sp_fw j)).Ok R.prog w G base → (C__law_read_tuple (4 + 2 * j + 1) (sp_rt j)).Ok R.prog w G base := fun j ih => by
    refine L.fn_ (d := d__law_read_tuple) (N := N__law_read_tuple) (ps := ["_law_text", "_law_at", "_law_deep_here"]) (k := 4 + 2 * j) (sp := sp_rt j) (ms := m__law_read_tuple) (l := [C__law_first_wrong (4 + 2 * j) (sp_fw j)]) (nm := "_law_read_tuple") 26 rfl rfl (List.mem_iff_getElem?.mpr ⟨28, rfl⟩) ⟨⟨rfl, rfl⟩, ⟨rfl, rfl, rfl, by decide +kernel, rfl, by decide +kernel, by decide +kernel⟩, fun _ _ _ _ _ _ us hl => match us, hl with | [_, _, _], _ => rfl, k__law_read_tuple _ _, ?_, by omega, h__law_read_tuple _ j⟩ (oks_cons ih oks_nil)
    intro c hc
    simp only [List.mem_cons, List.not_mem_nil, or_false] at hc
    rcases hc with rfl
    all_goals (show (_ : Nat) ≤ _; simp only [Cal.need]; omega)
  intro j
  induction j with
  | zero =>
    have f0 : (C__law_first_wrong (4 + 2 * 0) (sp_fw 0)).Ok R.prog w G base := L.fn_no (d := d__law_first_wrong) (ps := ["_law_text", "_law_at", "_law_deep_here"]) (k := 4) (sp := sp_fw 0) 23 rfl rfl (List.mem_iff_getElem?.mpr ⟨25, rfl⟩) ⟨rfl, rfl⟩ (fun _ _ _ _ _ _ us hl => match us, hl with | [_, _, _], _ => rfl) (no_fw)
    exact ⟨f0, second 0 f0⟩
  | succ j ih0 =>
    have ih := ih0.2
    refine (fun f1 => ⟨f1, second _ f1⟩) (?_ : (C__law_first_wrong (4 + 2 * (j + 1)) (sp_fw (j + 1))).Ok R.prog w G base)
    refine L.fn_ (d := d__law_first_wrong) (N := N__law_first_wrong) (ps := ["_law_text", "_law_at", "_law_deep_here"]) (k := 4 + 2 * j + 1) (sp := sp_fw (j + 1)) (ms := m__law_first_wrong) (l := [C__law_read_string 4 sp_rs, C__law_read_tuple (4 + 2 * j + 1) (sp_rt j), C__law_read_integer 4 sp_ri]) (nm := "_law_first_wrong") 23 rfl rfl (List.mem_iff_getElem?.mpr ⟨25, rfl⟩) ⟨⟨rfl, rfl⟩, ⟨rfl, rfl, rfl, by decide +kernel, rfl, by decide +kernel, by decide +kernel⟩, fun _ _ _ _ _ _ us hl => match us, hl with | [_, _, _], _ => rfl, k__law_first_wrong _ _ _ _ _ _, ?_, by omega, h__law_first_wrong _ _ _ j⟩ (oks_cons (ok__law_read_string L) (oks_cons ih (oks_cons (ok__law_read_integer L) oks_nil)))
    intro c hc
    simp only [List.mem_cons, List.not_mem_nil, or_false] at hc
    rcases hc with rfl | rfl | rfl
    all_goals (show (_ : Nat) ≤ _; simp only [Cal.need]; omega)
theorem ok__law_first_wrong : (C__law_first_wrong 66 (sp_fw 31)).Ok R.prog w G base := (ok_pair L 31).1
omit L in
theorem D__law_unpacked : DefOk cf sub d__law_unpacked N__law_unpacked ["_law_text"] 66 sp_unpacked m__law_unpacked [C__law_first_wrong 66 (sp_fw 31)] := ⟨⟨rfl, rfl⟩, ⟨rfl, rfl, rfl, by decide +kernel, rfl, by decide +kernel, by decide +kernel⟩, fun _ _ _ _ _ _ us hl => match us, hl with | [_], _ => rfl, k__law_unpacked _ _, lev_of rfl, by decide, h__law_unpacked _⟩
theorem ok__law_unpacked : (C__law_unpacked 67 sp_unpacked).Ok R.prog w G base := L.fn_ (nm := "_law_unpacked") 27 rfl rfl (List.mem_iff_getElem?.mpr ⟨29, rfl⟩) D__law_unpacked (oks_cons (ok__law_first_wrong L) oks_nil)
omit L in
theorem D__law_changed : DefOk cf sub d__law_changed N__law_changed ["_law_hand_here", "_law_text"] 5 sp_changed m__law_changed [C__law_draw 4 sp_draw, C__law_any 5 sp_any2] := ⟨⟨rfl, rfl⟩, ⟨rfl, rfl, rfl, by decide +kernel, rfl, by decide +kernel, by decide +kernel⟩, fun _ _ _ _ _ _ us hl => match us, hl with | [_, _], _ => rfl, k__law_changed _ _ _ _, lev_of rfl, by decide, h__law_changed _ _⟩
theorem ok__law_changed : (C__law_changed 6 sp_changed).Ok R.prog w G base := L.fn_ (nm := "_law_changed") 28 rfl rfl (List.mem_iff_getElem?.mpr ⟨30, rfl⟩) D__law_changed (oks_cons (ok__law_draw L) (oks_cons (ok__law_any L) oks_nil))
omit L in
theorem D__law_deep : DefOk cf sub d__law_deep N__law_deep ["_law_hand_here"] 4 sp_deep m__law_deep [C__law_draw 4 sp_draw] := ⟨⟨rfl, rfl⟩, ⟨rfl, rfl, rfl, by decide +kernel, rfl, by decide +kernel, by decide +kernel⟩, fun _ _ _ _ _ _ us hl => match us, hl with | [_], _ => rfl, k__law_deep _ _, lev_of rfl, by decide, h__law_deep _⟩
theorem ok__law_deep : (C__law_deep 5 sp_deep).Ok R.prog w G base := L.fn_ (nm := "_law_deep") 29 rfl rfl (List.mem_iff_getElem?.mpr ⟨31, rfl⟩) D__law_deep (oks_cons (ok__law_draw L) oks_nil)
omit L in
theorem D__law_told : DefOk cf sub d__law_told N__law_told ["_law_text"] 9 sp_told m__law_told [C_read_thing 9 sp_read_thing] := ⟨⟨rfl, rfl⟩, ⟨rfl, rfl, rfl, by decide +kernel, rfl, by decide +kernel, by decide +kernel⟩, fun _ _ _ _ _ _ us hl => match us, hl with | [_], _ => rfl, k__law_told _ _, lev_of rfl, by decide, h__law_told _⟩
theorem ok__law_told : (C__law_told 10 sp_told).Ok R.prog w G base := L.fn_ (nm := "_law_told") 30 rfl rfl (List.mem_iff_getElem?.mpr ⟨32, rfl⟩) D__law_told (oks_cons (ok_read_thing L) oks_nil)
omit L in
theorem D__law_is_none : DefOk cf sub d__law_is_none N__law_is_none ["_law_thing_here"] 38 sp_is_none m__law_is_none [C_thing_text 38 sp_thing_text] := ⟨⟨rfl, rfl⟩, ⟨rfl, rfl, rfl, by decide +kernel, rfl, by decide +kernel, by decide +kernel⟩, fun _ _ _ _ _ _ us hl => match us, hl with | [_], _ => rfl, k__law_is_none _ _, lev_of rfl, by decide, h__law_is_none _⟩
theorem ok__law_is_none : (C__law_is_none 39 sp_is_none).Ok R.prog w G base := L.fn_ (nm := "_law_is_none") 31 rfl rfl (List.mem_iff_getElem?.mpr ⟨33, rfl⟩) D__law_is_none (oks_cons (ok_thing_text L) oks_nil)
omit L in
theorem D__law_is_plain : DefOk cf sub d__law_is_plain N__law_is_plain ["_law_thing_here"] 3 sp_is_plain m__law_is_plain [] := ⟨⟨rfl, rfl⟩, ⟨rfl, rfl, rfl, by decide +kernel, rfl, by decide +kernel, by decide +kernel⟩, fun _ _ _ _ _ _ us hl => match us, hl with | [_], _ => rfl, k__law_is_plain, lev_of rfl, by decide, h__law_is_plain⟩
theorem ok__law_is_plain : (C__law_is_plain 4 sp_is_plain).Ok R.prog w G base := L.fn_ (nm := "_law_is_plain") 32 rfl rfl (List.mem_iff_getElem?.mpr ⟨34, rfl⟩) D__law_is_plain oks_nil
omit L in
theorem D_law : DefOk cf sub d_law N_law ["_law_script"] 67 sp_law m_law [C__law_hand 4 sp_pot, C__law_thing 12 (sp_thing 5), C__law_draw 4 sp_draw, C__law_nested 6 sp_nested, C__law_packed 35 (sp_pk 31), C__law_unpacked 67 sp_unpacked, C__law_told 10 sp_told, C_thing_text 38 sp_thing_text, C__law_changed 6 sp_changed, C__law_deep 5 sp_deep, C__law_is_none 39 sp_is_none, C__law_is_plain 4 sp_is_plain, C__law_any 5 sp_any2] := ⟨⟨rfl, rfl⟩, ⟨rfl, rfl, rfl, by decide +kernel, rfl, by decide +kernel, by decide +kernel⟩, fun _ _ _ _ _ _ us hl => match us, hl with | [_], _ => rfl, k_law _ _ _ _ _ _ _ _ _ _ _ _ _ _ _ _ _ _ _ _ _ _ _ _ _ _, lev_of rfl, by decide, h_law _ _ _ _ _ _ _ _ _ _ _ _ _⟩
theorem cs_law : ∀ c ∈ ([C__law_hand 4 sp_pot, C__law_thing 12 (sp_thing 5), C__law_draw 4 sp_draw, C__law_nested 6 sp_nested, C__law_packed 35 (sp_pk 31), C__law_unpacked 67 sp_unpacked, C__law_told 10 sp_told, C_thing_text 38 sp_thing_text, C__law_changed 6 sp_changed, C__law_deep 5 sp_deep, C__law_is_none 39 sp_is_none, C__law_is_plain 4 sp_is_plain, C__law_any 5 sp_any2] : List Cal), c.Ok R.prog w G base := (oks_cons (ok__law_hand L) (oks_cons (ok__law_thing L 5) (oks_cons (ok__law_draw L) (oks_cons (ok__law_nested L) (oks_cons (ok__law_packed L 31) (oks_cons (ok__law_unpacked L) (oks_cons (ok__law_told L) (oks_cons (ok_thing_text L) (oks_cons (ok__law_changed L) (oks_cons (ok__law_deep L) (oks_cons (ok__law_is_none L) (oks_cons (ok__law_is_plain L) (oks_cons (ok__law_any L) oks_nil)))))))))))))
end
theorem arg : ∀ (M : Mem) (a : Addr) (ns : List Int) (Q : DK) (E : Ex → Mem → Prop), rdL M a = some (ns.map .int) → ns.length ≤ 63 → (∀ N, Q (.bl true) N) → sp_law [.obj a] M Q E := fun M a ns Q E h1 h2 h3 => ⟨ns, h1, h2, h3⟩

def s_ini_BadText : Stmt := inClass (top 3) 0
def i_BadText : IniD := ⟨"BadText", "place", "place", "BadText.__init__", defArgs s_ini_BadText, defBody s_ini_BadText, defScope s_ini_BadText⟩
theorem g_BadText : IniD.Good R.prog i_BadText where
  body := ⟨_, _, _, _, _, _, _, _, _, _, rfl, fun env => ⟨_, rfl⟩⟩
  sc := NdefX.nscope_by (by decide +kernel)
  hp := rfl
  ks := rfl
  nd := rfl
  ncd := rfl
  bd := fun _ _ _ _ _ _ _ us hl => match us, hl with | [_, _], _ => rfl
  main := by kernel_rfl
  db := rfl
def ins : List IniD := [i_BadText]
theorem good : ∀ d ∈ ins, IniD.Good R.prog d := by
  intro d hd
  simp only [ins, List.mem_cons, List.not_mem_nil, or_false] at hd
  rcases hd with rfl
  · exact g_BadText
theorem hin : ∀ ei ∈ cf.et, ∀ f, ei.2 = some f → ∃ d ∈ ins, ei = (d.cn, some d.fl) := by
  intro ei hei f hf
  simp only [cf, List.mem_cons, List.not_mem_nil, or_false] at hei
  rcases hei with rfl | rfl | rfl <;> first | (cases hf; done) | exact ⟨i_BadText, by simp [ins], rfl⟩
abbrev hk2 : PySem.W.Hook := hookI 4 fa fn ins (exI cf sub R.prog ins)
def ob2 (s : PySem.W.SharedT) : AlI := obsIG 4 fa fn ins (exI cf sub R.prog ins) (HandSHeadRun.getT s)
theorem ob2_eq (s : PySem.W.SharedT) : ob2 s = hk2.obs s.abs := obsIG_eq (HandSHeadRun.getT_eq s)
theorem run (w : World) : HandSHeadRun.RunEq R (PySem.W.view R.prog [ilaw]) hk2 ob2 8000 names w := by
  intro os
  kernel_rfl
end H54
open PySem PySem.W PySem.Calls PyProof.Rows
set_option maxRecDepth 100000 in
set_option maxHeartbeats 0 in
theorem PySem.Challenge.cw_keptlengths_k54_whole_things_as_texts_holds : PySem.Challenge.rw_keptlengths_k54_whole_things_as_texts.Holds := by
  w_on; o_law
  refine HandSHeadRun.head_any (r := OpenLaw.row PySem.Challenge.rw_keptlengths_k54_whole_things_as_texts) (q := view (OpenLaw.row PySem.Challenge.rw_keptlengths_k54_whole_things_as_texts).prog [H54.ilaw]) (H := H54.hk2) (ob := H54.ob2) (M := 8000) (loose := H54.names) (d := HandSHeadRun.topDef (OpenLaw.row PySem.Challenge.rw_keptlengths_k54_whole_things_as_texts).prog H54.ilaw) (kwd := []) H54.ob2_eq
    (by kernel_rfl) (fun s => by kernel_rfl) H54.run (by kernel_rfl) (by kernel_rfl) (by kernel_rfl) (by rfl) (by first | assumption | decide +kernel) (by decide +kernel) ⟨rfl, rfl, rfl, rfl, rfl, by decide +kernel⟩ ?hw ?hc
  case hw => w_witness2
  case hc =>
    refine DL.walk_law (l := PySem.Challenge.rw_keptlengths_k54_whole_things_as_texts) (k := 68) (x := "_law_script") rfl (by kernel_rfl) ⟨rfl, by decide, by decide⟩ ?_
    intro w mg f h Y G hmg0
    have hmg : mg ("law" : PySem.Str) = some (.ref f) := by
      have e : (HandSHeadRun.topDef (OpenLaw.row PySem.Challenge.rw_keptlengths_k54_whole_things_as_texts).prog H54.ilaw).name = ("law" : PySem.Str) := by kernel_rfl
      rw [← e]
      exact hmg0
    exact DL.law_F2 (ins := H54.ins) (d := H54.d_law) 33 rfl rfl (List.mem_iff_getElem?.mpr ⟨35, rfl⟩) H54.D_law (fun w base G L => H54.cs_law L) H54.good H54.hin H54.arg w mg f h Y G hmg
