import PyProof.Rows.All
import Wide.All
import OpenK.AllK
import Wide.FinOn
import KE.KStateDown
import HandS.ForMost
import HandS.ForExc
import HandS.TupAny
import HandS.IsInst
import HandS.TryMany
import HandS.ExcIs
import HandS.ExcField
import HandS.SortInts
import HandS.Small
import HandS.StrMore
import HandS.WideBits
import HandS.Defaults
import KE.KDictKeyed
import KE.KDictCopyH
import KE.KDictZip
import HandS.TupMul
import HandS.Style
import HandS.TupLe
import HandS.RaiseMore
import HandS.More
import HandS.SetFor
import KE.DataMinMax
import HandS.Dict
import HandS.Iter
import HandS.Flow
import HandS.Rev
import KE.KRevSl
import PyProof.ListRange
import KE.GoesEnum
import HandS.HeadHook1
import HandS.HeadHook2
import HandS.Codes
import HandS.HeadEnd
import HandS.Head0
import HandS.Head1
import HandS.Head2
import PySem.Challenge.RW_keptlengths_k41_whole_machines_fitted_by
set_option Elab.async false
set_option linter.all false
set_option maxRecDepth 100000
/-! DL1: pure data over the hand layer: values D, partial memory Mem, how they lie in the layer's heap, and the judgements lifted. -/
namespace DL
open PySem PySem.Spec PyProof.Rows L2

/-- a value: tuples are data, what may change stands at an address -/
inductive D where
  | non | bl (b : Bool) | int (i : Int) | str (l : List Nat) | tup (xs : List D) | obj (a : Addr)
  deriving Inhabited

def S (l : List Nat) : Str := ⟨l.toArray⟩
theorem S_list (z : Str) : S z.cps.toList = z := by cases z; simp [S]
theorem S_cps (l : List Nat) : (S l).cps.toList = l := by simp [S]
theorem S_len (l : List Nat) : (S l).length = l.length := by simp [S, Str.length]
theorem S_app (a b : List Nat) : S a ++ S b = S (a ++ b) := by
  show Str.append _ _ = _
  simp [S, Str.append]
theorem S_inj {a b : List Nat} (h : S a = S b) : a = b := by
  have := congrArg (fun z : Str => z.cps.toList) h
  simpa [S] using this

mutual
def RepD (K : PySem.W.Frag) (H : Hp) : D → V → Prop
  | .non, v => v = .non
  | .bl b, v => v = .bl b
  | .int i, v => v = .int i
  | .str l, v => v = .str (S l)
  | .tup ds, v => ∃ a vs, v = .ref a ∧ SqT K H a vs ∧ RepL K H ds vs
  | .obj a, v => v = .ref a
def RepL (K : PySem.W.Frag) (H : Hp) : List D → List V → Prop
  | [], vs => vs = []
  | d :: ds, vs => ∃ v ws, vs = v :: ws ∧ RepD K H d v ∧ RepL K H ds ws
end

/-- tuples and known things stay -/
structure Keep (H H' : Hp) : Prop where
  tup : ∀ b xs, H b = some (.tup xs) → H' b = some (.tup xs)
  frz : ∀ b o u, H b = some (.frz o u) → H' b = some (.frz o u)
theorem Keep.rfl' {H : Hp} : Keep H H := ⟨fun _ _ h => h, fun _ _ _ h => h⟩
theorem Keep.trans {H H1 H2 : Hp} (a : Keep H H1) (b : Keep H1 H2) : Keep H H2 := ⟨fun c xs h => b.tup c xs (a.tup c xs h), fun c o u h => b.frz c o u (a.frz c o u h)⟩
theorem Keep.new {H : Hp} {p : Addr} {o : HO} (h : H p = none) : Keep H (upd H p o) := ⟨fun b xs e => by rw [upd_ne (ne_of_none e h)]; exact e, fun b ob u e => by rw [upd_ne (ne_of_none e h)]; exact e⟩
theorem Keep.mut {H : Hp} {p : Addr} {o ob : HO} (h : H p = some ob) (m : Mut (some ob)) : Keep H (upd H p o) :=
  ⟨fun b xs e => by
    have : b ≠ p := fun z => by subst z; rw [h] at e; cases e; exact m
    rw [upd_ne this]; exact e, fun b o u e => by
    have : b ≠ p := fun z => by subst z; rw [h] at e; cases e; exact m
    rw [upd_ne this]; exact e⟩
theorem sqT_keep {K : PySem.W.Frag} {H H' : Hp} {a : Addr} {xs : List V} (k : Keep H H') (h : SqT K H a xs) : SqT K H' a xs := by
  rcases h with (h | ⟨o, h⟩) | h
  · exact .inl (.inl (k.tup _ _ h))
  · exact .inl (.inr ⟨o, k.frz _ _ _ h⟩)
  · exact .inr h

mutual
theorem RepD.keep {K : PySem.W.Frag} {H H' : Hp} (k : Keep H H') : ∀ (d : D) (v : V), RepD K H d v → RepD K H' d v
  | .non, v, h => h
  | .bl b, v, h => h
  | .int i, v, h => h
  | .str l, v, h => h
  | .tup ds, v, h => by
    unfold RepD at h ⊢
    obtain ⟨a, vs, e, q, r⟩ := h
    exact ⟨a, vs, e, sqT_keep k q, RepL.keep k ds vs r⟩
  | .obj a, v, h => h
theorem RepL.keep {K : PySem.W.Frag} {H H' : Hp} (k : Keep H H') : ∀ (ds : List D) (vs : List V), RepL K H ds vs → RepL K H' ds vs
  | [], vs, h => h
  | d :: ds, vs, h => by
    unfold RepL at h ⊢
    obtain ⟨v, ws, e, r, q⟩ := h
    exact ⟨v, ws, e, RepD.keep k d v r, RepL.keep k ds ws q⟩
end

section
variable {K : PySem.W.Frag} {H : Hp}
theorem RepD.non {v : V} : RepD K H .non v ↔ v = .non := by unfold RepD; exact Iff.rfl
theorem RepD.bl {b : Bool} {v : V} : RepD K H (.bl b) v ↔ v = .bl b := by unfold RepD; exact Iff.rfl
theorem RepD.int {i : Int} {v : V} : RepD K H (.int i) v ↔ v = .int i := by unfold RepD; exact Iff.rfl
theorem RepD.str {l : List Nat} {v : V} : RepD K H (.str l) v ↔ v = .str (S l) := by unfold RepD; exact Iff.rfl
theorem RepD.tup {ds : List D} {v : V} : RepD K H (.tup ds) v ↔ ∃ a vs, v = .ref a ∧ SqT K H a vs ∧ RepL K H ds vs := by unfold RepD; exact Iff.rfl
theorem RepD.obj {a : Addr} {v : V} : RepD K H (.obj a) v ↔ v = .ref a := by unfold RepD; exact Iff.rfl
theorem RepL.nil {vs : List V} : RepL K H [] vs ↔ vs = [] := by unfold RepL; exact Iff.rfl
theorem RepL.cons {d : D} {ds : List D} {vs : List V} : RepL K H (d :: ds) vs ↔ ∃ v ws, vs = v :: ws ∧ RepD K H d v ∧ RepL K H ds ws := by
  constructor
  · intro h; unfold RepL at h; exact h
  · intro h; unfold RepL; exact h
theorem RepL.length : ∀ {ds : List D} {vs : List V}, RepL K H ds vs → ds.length = vs.length
  | [], vs, h => by rw [RepL.nil] at h; subst h; rfl
  | d :: ds, vs, h => by
    obtain ⟨v, ws, e, r, q⟩ := RepL.cons.mp h
    subst e
    simp [RepL.length q]
theorem RepL.app : ∀ {ds es : List D} {vs ws : List V}, RepL K H ds vs → RepL K H es ws → RepL K H (ds ++ es) (vs ++ ws)
  | [], es, vs, ws, h, h' => by rw [RepL.nil] at h; subst h; exact h'
  | d :: ds, es, vs, ws, h, h' => by
    obtain ⟨v, us, e, r, q⟩ := RepL.cons.mp h
    subst e
    exact RepL.cons.mpr ⟨v, us ++ ws, rfl, r, RepL.app q h'⟩
theorem RepL.get : ∀ {ds : List D} {vs : List V} {i : Nat} {d : D}, RepL K H ds vs → ds[i]? = some d → ∃ v, vs[i]? = some v ∧ RepD K H d v
  | [], _, _, _, _, e => by simp at e
  | x :: xs, vs, i, d, h, e => by
    obtain ⟨v, us, ev, r, q⟩ := RepL.cons.mp h
    subst ev
    cases i with
    | zero => simp at e; subst e; exact ⟨v, by simp, r⟩
    | succ i => simp at e; obtain ⟨u, h1, h2⟩ := RepL.get q e; exact ⟨u, by simpa using h1, h2⟩
theorem RepL.getV : ∀ {ds : List D} {vs : List V} {i : Nat} {v : V}, RepL K H ds vs → vs[i]? = some v → ∃ d, ds[i]? = some d ∧ RepD K H d v
  | [], vs, _, _, h, e => by rw [RepL.nil] at h; subst h; simp at e
  | x :: xs, vs, i, w, h, e => by
    obtain ⟨v, us, ev, r, q⟩ := RepL.cons.mp h
    subst ev
    cases i with
    | zero => simp at e; subst e; exact ⟨x, by simp, r⟩
    | succ i => simp at e; obtain ⟨u, h1, h2⟩ := RepL.getV q e; exact ⟨u, by simpa using h1, h2⟩
theorem RepL.set : ∀ {ds : List D} {vs : List V} {d : D} {v : V} (i : Nat), RepL K H ds vs → RepD K H d v → RepL K H (ds.set i d) (vs.set i v)
  | [], vs, _, _, _, h, r => by rw [RepL.nil] at h; subst h; simp [RepL.nil]
  | x :: xs, vs, d, w, i, h, r => by
    obtain ⟨v, us, ev, r', q⟩ := RepL.cons.mp h
    subst ev
    cases i with
    | zero => simp; exact RepL.cons.mpr ⟨w, us, rfl, r, q⟩
    | succ i => simp; exact RepL.cons.mpr ⟨v, _, rfl, r', RepL.set i q r⟩
theorem RepL.take : ∀ {ds : List D} {vs : List V} (n : Nat), RepL K H ds vs → RepL K H (ds.take n) (vs.take n)
  | [], vs, n, h => by rw [RepL.nil] at h; subst h; simp [RepL.nil]
  | x :: xs, vs, n, h => by
    obtain ⟨v, us, ev, r', q⟩ := RepL.cons.mp h
    subst ev
    cases n with
    | zero => simp [RepL.nil]
    | succ n => simp; exact RepL.cons.mpr ⟨v, _, rfl, r', RepL.take n q⟩
theorem RepL.drop : ∀ {ds : List D} {vs : List V} (n : Nat), RepL K H ds vs → RepL K H (ds.drop n) (vs.drop n)
  | [], vs, n, h => by rw [RepL.nil] at h; subst h; simp [RepL.nil]
  | x :: xs, vs, n, h => by
    obtain ⟨v, us, ev, r', q⟩ := RepL.cons.mp h
    subst ev
    cases n with
    | zero => simp; exact RepL.cons.mpr ⟨v, us, rfl, r', q⟩
    | succ n => simp; exact RepL.drop n q
theorem RepL.rev : ∀ {ds : List D} {vs : List V}, RepL K H ds vs → RepL K H ds.reverse vs.reverse
  | [], vs, h => by rw [RepL.nil] at h; subst h; exact RepL.nil.mpr rfl
  | d :: ds, vs, h => by
    obtain ⟨v, us, e, r, q⟩ := RepL.cons.mp h
    subst e
    rw [List.reverse_cons, List.reverse_cons]
    exact (RepL.rev q).app (RepL.cons.mpr ⟨v, [], rfl, r, RepL.nil.mpr rfl⟩)
theorem RepL.one {d : D} {v : V} (h : RepD K H d v) : RepL K H [d] [v] := RepL.cons.mpr ⟨v, [], rfl, h, RepL.nil.mpr rfl⟩
theorem RepL.dropLast {ds : List D} {vs : List V} (h : RepL K H ds vs) : RepL K H ds.dropLast vs.dropLast := by
  rw [List.dropLast_eq_take, List.dropLast_eq_take, h.length]; exact h.take _
theorem RepL.erase : ∀ {ds : List D} {vs : List V} (n : Nat), RepL K H ds vs → RepL K H (ds.eraseIdx n) (vs.eraseIdx n)
  | [], vs, n, h => by rw [RepL.nil] at h; subst h; simp [RepL.nil]
  | x :: xs, vs, n, h => by
    obtain ⟨v, us, ev, r', q⟩ := RepL.cons.mp h
    subst ev
    cases n with
    | zero => simp; exact q
    | succ n => simp; exact RepL.cons.mpr ⟨v, _, rfl, r', RepL.erase n q⟩
theorem RepL.flat {k : Nat} {ds : List D} {vs : List V} (h : RepL K H ds vs) : RepL K H (List.replicate k ds).flatten (List.replicate k vs).flatten := by
  induction k with
  | zero => simp [RepL.nil]
  | succ k ih => rw [List.replicate_succ, List.replicate_succ, List.flatten_cons, List.flatten_cons]; exact h.app ih
/-- ints, bools, texts -/
theorem RepL.ints : ∀ {ns : List Int} {vs : List V}, RepL K H (ns.map D.int) vs ↔ vs = ns.map V.int
  | [], vs => RepL.nil
  | n :: ns, vs => by
    rw [List.map_cons, RepL.cons]
    constructor
    · rintro ⟨v, ws, rfl, r, q⟩; rw [RepD.int] at r; rw [RepL.ints] at q; rw [r, q]; rfl
    · rintro rfl; exact ⟨_, _, rfl, RepD.int.mpr rfl, RepL.ints.mpr rfl⟩
theorem RepL.bls : ∀ {ns : List Bool} {vs : List V}, RepL K H (ns.map D.bl) vs ↔ vs = ns.map V.bl
  | [], vs => RepL.nil
  | n :: ns, vs => by
    rw [List.map_cons, RepL.cons]
    constructor
    · rintro ⟨v, ws, rfl, r, q⟩; rw [RepD.bl] at r; rw [RepL.bls] at q; rw [r, q]; rfl
    · rintro rfl; exact ⟨_, _, rfl, RepD.bl.mpr rfl, RepL.bls.mpr rfl⟩
theorem RepL.strs : ∀ {ns : List (List Nat)} {vs : List V}, RepL K H (ns.map D.str) vs ↔ vs = (ns.map S).map V.str
  | [], vs => RepL.nil
  | n :: ns, vs => by
    rw [List.map_cons, RepL.cons]
    constructor
    · rintro ⟨v, ws, rfl, r, q⟩; rw [RepD.str] at r; rw [RepL.strs] at q; rw [r, q]; rfl
    · rintro rfl; exact ⟨_, _, rfl, RepD.str.mpr rfl, RepL.strs.mpr rfl⟩
end

/-! ### what may change -/
inductive MO where
  | lst (xs : List D)
  | ro (xs : List D)
  | dct (kvs : List (D × D))
  | ins (c : Nat) (fs : List D)
abbrev Mem := Addr → Option MO
def mup (M : Mem) (a : Addr) (o : MO) : Mem := fun b => if b = a then some o else M b
theorem mup_same {M : Mem} {a : Addr} {o : MO} : mup M a o a = some o := by unfold mup; rw [if_pos rfl]
theorem mup_ne {M : Mem} {a b : Addr} {o : MO} (h : b ≠ a) : mup M a o b = M b := by unfold mup; rw [if_neg h]
def Sub (M M' : Mem) : Prop := ∀ a o, M a = some o → M' a = some o
theorem Sub.rfl' {M : Mem} : Sub M M := fun _ _ h => h
theorem Sub.trans {M M1 M2 : Mem} (a : Sub M M1) (b : Sub M1 M2) : Sub M M2 := fun x o h => b x o (a x o h)
theorem Sub.new {M : Mem} {p : Addr} {o : MO} (h : M p = none) : Sub M (mup M p o) := fun a u e => by
  have : a ≠ p := fun z => by subst z; rw [h] at e; cases e
  rw [mup_ne this]; exact e

/-- what a program's top has: classes with their fields in order, exception classes with their field -/
structure Cf where
  ct : List (Str × List Str)
  et : List (Str × Option Str)
  fb : List Str
  gl : List (Str × D)
structure Cfg extends Cf where
  K : PySem.W.Frag
  mg : Str → Option Value
  P : Program
  w : World

/-! ### dicts: keys by data, values -/
mutual
def nkey : D → Option NestedKey
  | .non => some .none
  | .int i => some (.num i)
  | .str l => some (.text (S l))
  | .tup ds => (nkeys ds).map .tup
  | .bl _ => none
  | .obj _ => none
def nkeys : List D → Option (List NestedKey)
  | [] => some []
  | d :: ds => match nkey d, nkeys ds with
    | some k, some ks => some (k :: ks)
    | _, _ => none
end
def lkey : D → Option Leaf
  | .non => some .none
  | .int i => some (.num i)
  | .str l => some (.text (S l))
  | _ => none
def RelDV (K : PySem.W.Frag) (H : Hp) (d : D) (u : Value) : Prop := ∃ v, RepD K H d v ∧ RelV v u
def LeafRel (G : Cfg) (H : Hp) (p : D × D) (q : Leaf × Value) : Prop := lkey p.1 = some q.1 ∧ RelDV G.K H p.2 q.2
def TupRel (G : Cfg) (H : Hp) (p : D × D) (q : NestedKey × Addr × Value) : Prop := (∃ ds, p.1 = .tup ds) ∧ nkey p.1 = some q.1 ∧ q.1.depth ≤ 8 ∧ RepD G.K H p.1 (.ref q.2.1) ∧ RelDV G.K H p.2 q.2.2
def LeafRep (G : Cfg) (H : Hp) (kvs : List (D × D)) (es : Array DictEntry) : Prop := ∃ lk : List (Leaf × Value), KeysOf (leafKind G.P G.w) es ∧ Pairs (leafKind G.P G.w) es.toList lk ∧ (lk.map (·.1)).Nodup ∧ Paired (LeafRel G H) kvs lk
def TupRep (G : Cfg) (H : Hp) (kvs : List (D × D)) (es : Array DictEntry) : Prop := ∃ xs : List (NestedKey × Addr × Value), es.toList = xs.map (entryOfKey (nestedKind G.P G.w)) ∧ (xs.map (·.1)).Nodup ∧ Paired (TupRel G H) kvs xs
structure DctRep (G : Cfg) (H : Hp) (a : Addr) (kvs : List (D × D)) (o : Obj) : Prop where
  big : kvs.length ≤ sizeLine
  sm : (a == sysModules) = false
  ex : o.ExactDict
  dat : ∃ es ep, o.data = .dict es ep ∧ (LeafRep G H kvs es ∨ TupRep G H kvs es)
def objO (a : Addr) (o : Obj) : HO := .ext fun h => h.get? a = some o
theorem RelDV.keep {K : PySem.W.Frag} {H H' : Hp} (k : Keep H H') {d : D} {u : Value} : RelDV K H d u → RelDV K H' d u := fun ⟨v, r, e⟩ => ⟨v, RepD.keep k _ _ r, e⟩
theorem DctRep.keep {G : Cfg} {H H' : Hp} (k : Keep H H') {a : Addr} {kvs : List (D × D)} {o : Obj} (h : DctRep G H a kvs o) : DctRep G H' a kvs o := by
  obtain ⟨h1, h2, h3, es, ep, h4, h5⟩ := h
  refine ⟨h1, h2, h3, es, ep, h4, h5.imp (fun ⟨lk, a1, a2, a3, a4⟩ => ⟨lk, a1, a2, a3, PySem.Paired.mono (fun p q r => ⟨r.1, r.2.keep k⟩) a4⟩) fun ⟨xs, a1, a2, a3⟩ => ⟨xs, a1, a2, PySem.Paired.mono (fun p q r => ⟨r.1, r.2.1, r.2.2.1, RepD.keep k _ _ r.2.2.2.1, r.2.2.2.2.keep k⟩) a3⟩⟩

def RepO (G : Cfg) (H : Hp) (a : Addr) : MO → HO → Prop
  | .lst ds, o => ∃ vs, o = .lst vs ∧ RepL G.K H ds vs
  | .ro ds, o => ∃ ob vs, o = .frz ob (.lst vs) ∧ RepL G.K H ds vs
  | .dct kvs, o => ∃ ob, o = objO a ob ∧ DctRep G H a kvs ob
  | .ins c fs, o => ∃ ci C dx fv, G.ct[c]? = some ci ∧ G.mg ci.1 = some (.ref C) ∧ o = .ins C dx fv ∧ fv.map (·.1) = ci.2.take fs.length ∧ RepL G.K H fs (fv.map (·.2))
def RepM (G : Cfg) (H : Hp) (M : Mem) : Prop := ∀ a o, M a = some o → ∃ ho, H a = some ho ∧ RepO G H a o ho
theorem RepO.keep {G : Cfg} {H H' : Hp} (k : Keep H H') {a : Addr} {o : MO} {ho : HO} (h : RepO G H a o ho) : RepO G H' a o ho := by
  cases o with
  | lst ds => obtain ⟨vs, e, r⟩ := h; exact ⟨vs, e, RepL.keep k _ _ r⟩
  | ro ds => obtain ⟨ob, vs, e, r⟩ := h; exact ⟨ob, vs, e, RepL.keep k _ _ r⟩
  | dct kvs => obtain ⟨ob, e, r⟩ := h; exact ⟨ob, e, r.keep k⟩
  | ins c fs => obtain ⟨ci, C, dx, fv, h1, h2, h3, h4, r⟩ := h; exact ⟨ci, C, dx, fv, h1, h2, h3, h4, RepL.keep k _ _ r⟩
theorem RepM.sub {G : Cfg} {H : Hp} {M M' : Mem} (h : RepM G H M') (s : Sub M M') : RepM G H M := fun a o e => h a o (s a o e)
theorem RepM.none {G : Cfg} {H : Hp} {M : Mem} (h : RepM G H M) {p : Addr} (e : H p = none) : M p = none := by
  cases q : M p with
  | none => rfl
  | some o => obtain ⟨ho, h1, _⟩ := h p o q; rw [e] at h1; cases h1
/-- a new object -/
theorem RepM.new {G : Cfg} {H : Hp} {M : Mem} (h : RepM G H M) {p : Addr} {o : MO} {ho : HO} (e : H p = Option.none) (r : RepO G H p o ho) : RepM G (upd H p ho) (mup M p o) := fun a u q => by
  by_cases z : a = p
  · subst z; rw [mup_same] at q; cases q; exact ⟨ho, upd_same, r.keep (Keep.new e)⟩
  · rw [mup_ne z] at q
    obtain ⟨hu, h1, h2⟩ := h a u q
    exact ⟨hu, by rw [upd_ne z]; exact h1, h2.keep (Keep.new e)⟩
/-- an object that is not looked at -/
theorem RepM.skip {G : Cfg} {H : Hp} {M : Mem} (h : RepM G H M) {p : Addr} {ho : HO} (e : H p = Option.none) : RepM G (upd H p ho) M := fun a u q => by
  obtain ⟨hu, h1, h2⟩ := h a u q
  exact ⟨hu, by rw [upd_ne (ne_of_none h1 e)]; exact h1, h2.keep (Keep.new e)⟩
/-- an object changed -/
theorem RepM.put {G : Cfg} {H : Hp} {M : Mem} (h : RepM G H M) {p : Addr} {o : MO} {hb ho : HO} (e : H p = some hb) (m : Mut (some hb)) (r : RepO G H p o ho) : RepM G (upd H p ho) (mup M p o) := fun a u q => by
  by_cases z : a = p
  · subst z; rw [mup_same] at q; cases q; exact ⟨ho, upd_same, r.keep (Keep.mut e m)⟩
  · rw [mup_ne z] at q
    obtain ⟨hu, h1, h2⟩ := h a u q
    exact ⟨hu, by rw [upd_ne z]; exact h1, h2.keep (Keep.mut e m)⟩

/-! ### the names' values -/
abbrev En := List (Option D)
def RepS (K : PySem.W.Frag) (H : Hp) (ρ : En) (σ : L2.St) : Prop := ρ.length = σ.length ∧ ∀ (i : Nat) (d : D), ρ[i]? = some (some d) → ∃ v, σ[i]? = some (some v) ∧ RepD K H d v
theorem RepS.keep {K : PySem.W.Frag} {H H' : Hp} {ρ : En} {σ : L2.St} (h : RepS K H ρ σ) (k : Keep H H') : RepS K H' ρ σ := ⟨h.1, fun i d e => let ⟨v, e1, r⟩ := h.2 i d e; ⟨v, e1, RepD.keep k _ _ r⟩⟩
theorem RepS.set {K : PySem.W.Frag} {H : Hp} {ρ : En} {σ : L2.St} (h : RepS K H ρ σ) {d : D} {v : V} (i : Nat) (r : RepD K H d v) : RepS K H (ρ.set i (some d)) (σ.set i (some v)) := by
  refine ⟨by rw [List.length_set, List.length_set]; exact h.1, fun j e q => ?_⟩
  by_cases z : i = j
  · subst z
    by_cases hi : i < ρ.length
    · rw [List.getElem?_set_self hi] at q; cases q
      exact ⟨v, List.getElem?_set_self (by rw [← h.1]; exact hi), r⟩
    · rw [List.getElem?_eq_none (by simpa using hi)] at q; cases q
  · rw [List.getElem?_set_ne z] at q ⊢
    exact h.2 j e q
theorem RepS.unset {K : PySem.W.Frag} {H : Hp} {ρ : En} {σ : L2.St} (h : RepS K H ρ σ) (i : Nat) : RepS K H (ρ.set i Option.none) (σ.set i Option.none) := by
  refine ⟨by rw [List.length_set, List.length_set]; exact h.1, fun j e q => ?_⟩
  by_cases z : i = j
  · subst z
    by_cases hi : i < ρ.length
    · rw [List.getElem?_set_self hi] at q; cases q
    · rw [List.getElem?_eq_none (by simpa using hi)] at q; cases q
  · rw [List.getElem?_set_ne z] at q ⊢
    exact h.2 j e q

/-! ### lifted readings -/
abbrev DK := D → Mem → Prop
abbrev TD := En → Mem → DK → Prop
abbrev TDT := En → Mem → (Bool → Mem → Prop) → Prop
abbrev TDA := En → Mem → (List D → Mem → Prop) → Prop
structure EndsD where
  nx : En → Mem → Prop
  rt : DK
  bk : En → Mem → Prop := fun _ _ => False
  ct : En → Mem → Prop := fun _ _ => False
abbrev TDS := EndsD → En → Mem → Prop

/-- from a heap and memory to later ones: tuples and known things stay, nothing is forgotten, what memory tells anew is new -/
structure Step (H : Hp) (M : Mem) (H' : Hp) (M' : Mem) : Prop where
  kp : Keep H H'
  grow : ∀ a, H a ≠ none → H' a ≠ none
  new : ∀ a, H a ≠ none → M a = none → M' a = none
  frame : ∀ a o, H a = some o → M a = none → H' a = some o
theorem Step.rfl' {H : Hp} {M : Mem} : Step H M H M := ⟨Keep.rfl', fun _ h => h, fun _ _ h => h, fun _ _ h _ => h⟩
theorem some_ne {α : Type} {x : Option α} {a : α} (h : x = some a) : x ≠ none := by rw [h]; exact fun z => nomatch z
theorem Step.trans {H H1 H2 : Hp} {M M1 M2 : Mem} (a : Step H M H1 M1) (b : Step H1 M1 H2 M2) : Step H M H2 M2 :=
  ⟨a.kp.trans b.kp, fun x h => b.grow x (a.grow x h), fun x h m => b.new x (a.grow x h) (a.new x h m), fun x o h m => b.frame x o (a.frame x o h m) (a.new x (some_ne h) m)⟩
theorem upd_grow {H : Hp} {p : Addr} {o : HO} (a : Addr) (h : H a ≠ none) : upd H p o a ≠ none := by
  by_cases z : a = p
  · subst z; rw [upd_same]; exact fun z => nomatch z
  · rw [upd_ne z]; exact h
/-- a new object that memory does not tell -/
theorem Step.hid {H : Hp} {M : Mem} {p : Addr} {o : HO} (h : H p = none) : Step H M (upd H p o) M := ⟨Keep.new h, upd_grow, fun _ _ m => m, fun a u e _ => by rw [upd_ne (ne_of_none e h)]; exact e⟩
theorem Step.new' {H : Hp} {M : Mem} {p : Addr} {o : HO} {u : MO} (h : H p = none) : Step H M (upd H p o) (mup M p u) := ⟨Keep.new h, upd_grow, fun a ha m => by
  have : a ≠ p := fun z => by subst z; exact ha h
  rw [mup_ne this]; exact m, fun a u e _ => by rw [upd_ne (ne_of_none e h)]; exact e⟩
theorem Step.put {H : Hp} {M : Mem} {p : Addr} {o ob : HO} {u u0 : MO} (h : H p = some ob) (mu : Mut (some ob)) (hm : M p = some u0) : Step H M (upd H p o) (mup M p u) := ⟨Keep.mut h mu, upd_grow, fun a ha m => by
  have : a ≠ p := fun z => by subst z; rw [hm] at m; cases m
  rw [mup_ne this]; exact m, fun a u e m => by
  have : a ≠ p := fun z => by subst z; rw [hm] at m; cases m
  rw [upd_ne this]; exact e⟩
theorem Step.sub {H H' : Hp} {M M1 M2 : Mem} (a : Step H M H' M1) (s : Sub M2 M1) : Step H M H' M2 := ⟨a.kp, a.grow, fun x h m => (by
  cases q : M2 x with
  | none => rfl
  | some o =>
    have z := s x o q
    rw [a.new x h m] at z
    exact nomatch z), a.frame⟩

/-- what is wanted of values and memory, said of the layer's -/
def OkK (G : Cfg) (H : Hp) (M : Mem) (Q0 : DK) (Q : VK) : Prop := ∀ d M' H' v, Q0 d M' → RepD G.K H' d v → RepM G H' M' → Step H M H' M' → Q v H'
def OkT (G : Cfg) (H : Hp) (M : Mem) (Q0 : Bool → Mem → Prop) (Q : Bool → Hp → Prop) : Prop := ∀ b M' H', Q0 b M' → RepM G H' M' → Step H M H' M' → Q b H'
def OkA (G : Cfg) (n : Nat) (H : Hp) (M : Mem) (Q0 : List D → Mem → Prop) (Q : List V → Hp → Prop) : Prop := ∀ ds M' H' vs, ds.length = n → Q0 ds M' → RepL G.K H' ds vs → RepM G H' M' → Step H M H' M' → Q vs H'
def OkS (G : Cfg) (H : Hp) (M : Mem) (Q0 : En → Mem → Prop) (Q : L2.St → Hp → Prop) : Prop := ∀ ρ' M' σ' H', Q0 ρ' M' → RepS G.K H' ρ' σ' → RepM G H' M' → Step H M H' M' → Q σ' H'
/-- where the code's run began -/
structure Bs where
  H : Hp
  M : Mem
def lift (G : Cfg) (B : Bs) (t : TD) : TE := fun σ H Q => ∃ ρ M Q0, Step B.H B.M H M ∧ RepS G.K H ρ σ ∧ RepM G H M ∧ t ρ M Q0 ∧ OkK G H M Q0 Q
def liftT (G : Cfg) (B : Bs) (t : TDT) : TT := fun σ H Q => ∃ ρ M Q0, Step B.H B.M H M ∧ RepS G.K H ρ σ ∧ RepM G H M ∧ t ρ M Q0 ∧ OkT G H M Q0 Q
def liftA (G : Cfg) (B : Bs) (n : Nat) (t : TDA) : TA := fun σ H Q => ∃ ρ M Q0, Step B.H B.M H M ∧ RepS G.K H ρ σ ∧ RepM G H M ∧ t ρ M Q0 ∧ OkA G n H M Q0 Q
structure OkE (G : Cfg) (H : Hp) (M : Mem) (D0 : EndsD) (D1 : Ends) : Prop where
  nx : OkS G H M D0.nx D1.nx
  rt : OkK G H M D0.rt D1.rt
  bk : OkS G H M D0.bk D1.bk
  ct : OkS G H M D0.ct D1.ct
def liftS (G : Cfg) (B : Bs) (t : TDS) : TS := fun D1 σ H => ∃ ρ M D0, Step B.H B.M H M ∧ RepS G.K H ρ σ ∧ RepM G H M ∧ t D0 ρ M ∧ OkE G H M D0 D1

theorem OkK.on {G : Cfg} {H H' : Hp} {M M' : Mem} {Q0 : DK} {Q : VK} (h : OkK G H M Q0 Q) (k : Step H M H' M') : OkK G H' M' Q0 Q := fun d M2 H2 v q r m k2 => h d M2 H2 v q r m (k.trans k2)
theorem OkT.on {G : Cfg} {H H' : Hp} {M M' : Mem} {Q0 : Bool → Mem → Prop} {Q : Bool → Hp → Prop} (h : OkT G H M Q0 Q) (k : Step H M H' M') : OkT G H' M' Q0 Q := fun d M2 H2 q m k2 => h d M2 H2 q m (k.trans k2)
theorem OkA.on {G : Cfg} {n : Nat} {H H' : Hp} {M M' : Mem} {Q0 : List D → Mem → Prop} {Q : List V → Hp → Prop} (h : OkA G n H M Q0 Q) (k : Step H M H' M') : OkA G n H' M' Q0 Q := fun d M2 H2 v l q r m k2 => h d M2 H2 v l q r m (k.trans k2)
theorem OkS.on {G : Cfg} {H H' : Hp} {M M' : Mem} {Q0 : En → Mem → Prop} {Q : L2.St → Hp → Prop} (h : OkS G H M Q0 Q) (k : Step H M H' M') : OkS G H' M' Q0 Q := fun ρ M2 σ H2 q r m k2 => h ρ M2 σ H2 q r m (k.trans k2)
theorem OkE.on {G : Cfg} {H H' : Hp} {M M' : Mem} {D0 : EndsD} {D1 : Ends} (h : OkE G H M D0 D1) (k : Step H M H' M') : OkE G H' M' D0 D1 := ⟨h.nx.on k, h.rt.on k, h.bk.on k, h.ct.on k⟩

/-! ### exceptions -/
structure Ex where
  c : Nat
  args : List D
def RepX (G : Cfg) (H : Hp) (x : Ex) (cls : Value) (dx : Option Addr) : Prop := ∃ ei C, G.et[x.c]? = some ei ∧ G.mg ei.1 = some (.ref C) ∧ cls = .ref C ∧
  match ei.2, x.args with
  | none, [] => dx = none
  | some f, [v] => ∃ d u, dx = some d ∧ H d = some (.xd [(f, u)]) ∧ RepD G.K H v u
  | _, _ => False
abbrev WD := Ex → En → Mem → Prop
def liftW (G : Cfg) (B : Bs) (W : WD) : WX := fun cls dx σ H => ∃ x ρ M, Step B.H B.M H M ∧ RepX G H x cls dx ∧ RepS G.K H ρ σ ∧ RepM G H M ∧ W x ρ M
def OkX (G : Cfg) (H : Hp) (M : Mem) (E0 : Ex → Mem → Prop) (E : XK) : Prop := ∀ x M' H' cls dx, E0 x M' → RepX G H' x cls dx → RepM G H' M' → Step H M H' M' → E cls dx H'
abbrev SpD := List D → Mem → DK → (Ex → Mem → Prop) → Prop
def liftSp (G : Cfg) (n : Nat) (sp : SpD) : Sp := fun vs H Q E => ∃ ds M Q0 E0, ds.length = n ∧ RepL G.K H ds vs ∧ RepM G H M ∧ sp ds M Q0 E0 ∧ OkK G H M Q0 Q ∧ OkX G H M E0 E

/-! ### weaker readings -/
section
variable {X : Cx}
theorem _root_.L2.PE.weak {e : Expr} {t t' : TE} (h : PE X e t) (w : ∀ σ H Q, t' σ H Q → t σ H Q) : PE X e t' := ⟨fun pins s σ H Q I q => h.run pins s σ H Q I (w σ H Q q)⟩
theorem _root_.L2.PT.weak {e : Expr} {t t' : TT} (h : PT X e t) (w : ∀ σ H Q, t' σ H Q → t σ H Q) : PT X e t' := ⟨fun pins s σ H Q I q => h.run pins s σ H Q I (w σ H Q q)⟩
theorem _root_.L2.PW.weak {e : Expr} {t t' : TT} (h : PW X e t) (w : ∀ σ H Q, t' σ H Q → t σ H Q) : PW X e t' := ⟨fun wh pins s σ H Q I q => h.run wh pins s σ H Q I (w σ H Q q)⟩
theorem _root_.L2.PA.weak {es : List Expr} {t t' : TA} (h : PA X es t) (w : ∀ σ H Q, t' σ H Q → t σ H Q) : PA X es t' := ⟨fun pos pins s σ H Q I q => h.run pos pins s σ H Q I (w σ H Q q)⟩
theorem _root_.L2.PS.weak {e : Stmt} {t t' : TS} (h : PS X e t) (w : ∀ D σ H, t' D σ H → t D σ H) : PS X e t' := ⟨fun pins s σ H D I q => h.run pins s σ H D I (w D σ H q)⟩
theorem _root_.L2.PSs.weak {e : List Stmt} {t t' : TS} (h : PSs X e t) (w : ∀ D σ H, t' D σ H → t D σ H) : PSs X e t' := ⟨fun pins s σ H D I q => h.run pins s σ H D I (w D σ H q)⟩
theorem _root_.L2.PS.weakI {e : Stmt} {t t' : TS} (h : PS X e t) (w : ∀ D σ H, Keep X.H_0 H → t' D σ H → t D σ H) : PS X e t' := ⟨fun pins s σ H D I q => h.run pins s σ H D I (w D σ H ⟨I.base.tups, I.base.frzs⟩ q)⟩
theorem _root_.L2.PE.weakI {e : Expr} {t t' : TE} (h : PE X e t) (w : ∀ σ H Q, Keep X.H_0 H → t' σ H Q → t σ H Q) : PE X e t' := ⟨fun pins s σ H Q I q => h.run pins s σ H Q I (w σ H Q ⟨I.base.tups, I.base.frzs⟩ q)⟩
end
end DL
set_option Elab.async false
set_option linter.all false
set_option maxRecDepth 100000
/-! DL2: operations on values: what they ask, and that the layer's rules keep them. -/
namespace DL
open PySem PySem.Spec PyProof.Rows L2

abbrev R2D := D → D → Mem → DK → Prop
def lift2 (G : Cfg) (r : R2D) : R2 := fun x y H Q => ∃ d e M Q0, RepD G.K H d x ∧ RepD G.K H e y ∧ RepM G H M ∧ r d e M Q0 ∧ OkK G H M Q0 Q
abbrev RLD := List D → Mem → DK → Prop
def liftC (G : Cfg) (r : RLD) : List V → Hp → VK → Prop := fun vs H Q => ∃ ds M Q0, RepL G.K H ds vs ∧ RepM G H M ∧ r ds M Q0 ∧ OkK G H M Q0 Q
abbrev RMD := D → List D → Mem → DK → Prop
def liftM (G : Cfg) (r : RMD) : V → List V → Hp → VK → Prop := fun x vs H Q => ∃ d ds M Q0, RepD G.K H d x ∧ RepL G.K H ds vs ∧ RepM G H M ∧ r d ds M Q0 ∧ OkK G H M Q0 Q

/-! ### lists that are read -/
def rdL (M : Mem) (a : Addr) : Option (List D) := match M a with
  | some (.lst xs) => some xs
  | some (.ro xs) => some xs
  | _ => none
theorem rdL_ok {G : Cfg} {H : Hp} {M : Mem} {a : Addr} {xs : List D} (m : RepM G H M) (e : rdL M a = some xs) : ∃ vs, SqL G.K H a vs ∧ RepL G.K H xs vs := by
  unfold rdL at e
  split at e
  · rename_i xs' q
    cases e
    obtain ⟨ho, h1, vs, h2, r⟩ := m a _ q
    subst h2
    exact ⟨vs, .inl (.inl h1), r⟩
  · rename_i xs' q
    cases e
    obtain ⟨ho, h1, ob, vs, h2, r⟩ := m a _ q
    subst h2
    exact ⟨vs, .inl (.inr ⟨ob, h1⟩), r⟩
  · cases e
theorem lst_ok {G : Cfg} {H : Hp} {M : Mem} {a : Addr} {xs : List D} (m : RepM G H M) (e : M a = some (.lst xs)) : ∃ vs, H a = some (.lst vs) ∧ RepL G.K H xs vs := by
  obtain ⟨ho, h1, vs, h2, r⟩ := m a _ e
  subst h2
  exact ⟨vs, h1, r⟩
theorem new_lst {G : Cfg} {H : Hp} {M : Mem} {p : Addr} {ds : List D} {vs : List V} (m : RepM G H M) (e : H p = none) (r : RepL G.K H ds vs) : RepM G (upd H p (.lst vs)) (mup M p (.lst ds)) := m.new e ⟨vs, rfl, r⟩
theorem put_lst {G : Cfg} {H : Hp} {M : Mem} {p : Addr} {ds : List D} {vs us : List V} (m : RepM G H M) (e : H p = some (.lst us)) (r : RepL G.K H ds vs) : RepM G (upd H p (.lst vs)) (mup M p (.lst ds)) := m.put e trivial ⟨vs, rfl, r⟩
theorem keep_put {H : Hp} {p : Addr} {us : List V} {o : HO} (e : H p = some (.lst us)) : Keep H (upd H p o) := Keep.mut e trivial
/-- a new tuple -/
theorem new_tup {G : Cfg} {H : Hp} {p : Addr} {ds : List D} {vs : List V} (e : H p = none) (r : RepL G.K H ds vs) : RepD G.K (upd H p (.tup vs)) (.tup ds) (.ref p) :=
  RepD.tup.mpr ⟨p, vs, rfl, .inl (.inl upd_same), RepL.keep (Keep.new e) _ _ r⟩

def big : Nat := 16777216
theorem big_eq : sizeLine = big := sizeLine_eq

section
variable {X : Cx} {G : Cfg}

/-! ### + -/
def vAdd : R2D := fun d e M Q => match d, e with
  | .int i, .int j => Q (.int (i + j)) M
  | .str a, .str b => a.length + b.length ≤ big ∧ Q (.str (a ++ b)) M
  | .tup a, .tup b => a.length + b.length ≤ big ∧ Q (.tup (a ++ b)) M
  | .obj a, .obj b => match M a, M b with
    | some (.lst xs), some (.lst ys) => xs.length + ys.length ≤ big ∧ ∀ p, M p = none → Q (.obj p) (mup M p (.lst (xs ++ ys)))
    | _, _ => False
  | _, _ => False
theorem od_add (hK : X.K = G.K) : OpR X (binaryOp .Add) (lift2 G vAdd) := by
  intro pins s σ H x y v u Q I rx ry h
  obtain ⟨d, e, M, Q0, rd, re, rm, hr, ok⟩ := h
  unfold vAdd at hr
  split at hr
  · rw [RepD.int] at rd re; subst rd re
    exact op_add pins s σ H _ _ v u Q I rx ry ⟨_, _, rfl, rfl, ok _ _ _ _ hr (RepD.int.mpr rfl) rm Step.rfl'⟩
  · rw [RepD.str] at rd re; subst rd re
    exact op_add_str pins s σ H _ _ v u Q I rx ry ⟨_, _, rfl, rfl, by rw [S_len, S_len, big_eq]; exact hr.1, ok _ _ _ _ hr.2 (RepD.str.mpr (by rw [S_app])) rm Step.rfl'⟩
  · obtain ⟨p, vs, rfl, hp, rp⟩ := RepD.tup.mp rd
    obtain ⟨q, ws, rfl, hq, rq⟩ := RepD.tup.mp re
    refine op_catA pins s σ H _ _ v u Q I rx ry ⟨p, q, vs, ws, rfl, rfl, by rw [hK]; exact hp, by rw [hK]; exact hq, by rw [← rp.length, ← rq.length, big_eq]; exact hr.1, ?_, ?_, ?_⟩
    · intro ev
      refine ok _ _ _ _ hr.2 (RepD.tup.mpr ⟨q, ws, rfl, hq, ?_⟩) rm Step.rfl'
      have := rp.length; rw [ev] at this
      rw [List.length_eq_zero_iff.mp this]; exact rq
    · intro _ ew
      refine ok _ _ _ _ hr.2 (RepD.tup.mpr ⟨p, vs, rfl, hp, ?_⟩) rm Step.rfl'
      have := rq.length; rw [ew] at this
      rw [List.length_eq_zero_iff.mp this, List.append_nil]; exact rp
    · intro _ _ t ht
      exact ok _ _ _ _ hr.2 (new_tup ht (rp.app rq)) (rm.skip ht) (Step.hid ht)
  · rename_i a b
    rw [RepD.obj] at rd re; subst rd re
    split at hr
    · rename_i xs ys q1 q2
      obtain ⟨vs, h1, r1⟩ := lst_ok rm q1
      obtain ⟨ws, h2, r2⟩ := lst_ok rm q2
      refine op_cat pins s σ H _ _ v u Q I rx ry ⟨a, b, vs, ws, rfl, rfl, h1, h2, by rw [← r1.length, ← r2.length, big_eq]; exact hr.1, fun p hp => ?_⟩
      exact ok _ _ _ _ (hr.2 p (rm.none hp)) (RepD.obj.mpr rfl) (new_lst rm hp (r1.app r2)) (Step.new' hp)
    · exact hr.elim
  · exact hr.elim

/-! ### ints -/
def vI (C : Int → Int → Prop) (g : Int → Int → D) : R2D := fun d e M Q => match d, e with
  | .int i, .int j => C i j ∧ Q (g i j) M
  | _, _ => False
def flatD : D → V
  | .non => .non
  | .bl b => .bl b
  | .int i => .int i
  | .str l => .str (S l)
  | .tup _ => .non
  | .obj a => .ref a
theorem od_int {f : Value → Value → Sem Value} {C C' : Int → Int → Prop} {g : Int → Int → V} {g' : Int → Int → D} (h : OpR X f (rI C g)) (hC : ∀ i j, C' i j → C i j) (hg : ∀ K H i j, C' i j → RepD K H (g' i j) (g i j)) : OpR X f (lift2 G (vI C' g')) := by
  intro pins s σ H x y v u Q I rx ry hr
  obtain ⟨d, e, M, Q0, rd, re, rm, hr, ok⟩ := hr
  unfold vI at hr
  split at hr
  · rw [RepD.int] at rd re; subst rd re
    exact h pins s σ H _ _ v u Q I rx ry ⟨_, _, rfl, rfl, hC _ _ hr.1, ok _ _ _ _ hr.2 (hg _ _ _ _ hr.1) rm Step.rfl'⟩
  · exact hr.elim
theorem od_int0 {f : Value → Value → Sem Value} {g : Int → Int → V} {g' : Int → Int → D} (h : OpR X f (rI0 g)) (hg : ∀ K H i j, RepD K H (g' i j) (g i j)) : OpR X f (lift2 G (vI (fun _ _ => True) g')) := by
  intro pins s σ H x y v u Q I rx ry hr
  obtain ⟨d, e, M, Q0, rd, re, rm, hr, ok⟩ := hr
  unfold vI at hr
  split at hr
  · rw [RepD.int] at rd re; subst rd re
    exact h pins s σ H _ _ v u Q I rx ry ⟨_, _, rfl, rfl, ok _ _ _ _ hr.2 (hg _ _ _ _) rm Step.rfl'⟩
  · exact hr.elim
abbrev vSub : R2D := vI (fun _ _ => True) fun i j => .int (i - j)
theorem od_sub : OpR X (binaryOp .Sub) (lift2 G vSub) := od_int0 op_sub fun _ _ _ _ => RepD.int.mpr rfl
abbrev vDiv : R2D := vI (fun _ j => 0 < j ∧ j.natAbs.log2 < 9000) fun i j => .int (i / j)
theorem od_div : OpR X (binaryOp .FloorDiv) (lift2 G vDiv) := od_int op_fdivW (fun _ _ h => h) fun _ _ _ _ _ => RepD.int.mpr rfl
abbrev vMod : R2D := vI (fun _ j => 0 < j) fun i j => .int (i % j)
theorem od_mod : OpR X (binaryOp .Mod) (lift2 G vMod) := od_int op_mod (fun _ _ h => h) fun _ _ _ _ _ => RepD.int.mpr rfl
abbrev vPow : R2D := vI (fun i j => 0 ≤ j ∧ j ≤ 1000000 ∧ i.natAbs < 2 ^ 64) fun i j => .int (i ^ j.toNat)
theorem od_pow : OpR X (binaryOp .Pow) (lift2 G vPow) := od_int op_pow (fun _ _ h => h) fun _ _ _ _ _ => RepD.int.mpr rfl
abbrev vShl : R2D := vI (fun i j => 0 ≤ j ∧ (Builtin.Int.intBits i : Int) + j ≤ 134217728) fun i j => .int (i * 2 ^ j.toNat)
theorem od_shl : OpR X (binaryOp .LShift) (lift2 G vShl) := od_int op_shlW (fun _ _ h => ⟨h.1, by have e : (2 : Int) ^ 27 = 134217728 := by decide
                                                                                                  rw [e]; exact h.2⟩) fun _ _ _ _ _ => RepD.int.mpr rfl
abbrev vShr : R2D := vI (fun _ j => 0 ≤ j) fun i j => .int (i / 2 ^ j.toNat)
theorem od_shr : OpR X (binaryOp .RShift) (lift2 G vShr) := od_int op_shr (fun _ _ h => h) fun _ _ _ _ _ => RepD.int.mpr rfl
abbrev vAnd : R2D := vI (fun _ _ => True) fun i j => .int (Builtin.bitAnd i j)
theorem od_and : OpR X (binaryOp .BitAnd) (lift2 G vAnd) := od_int0 op_and fun _ _ _ _ => RepD.int.mpr rfl

/-! ### a list times a flag -/
theorem rmul_bool_list (b : Bool) (l : Addr) (items : Array Value) (n : Nat) :
    Meets (Builtin.«int.__rmul__» ⟨[.bool b, .ref l], []⟩) (fun _ R s => s.heap.get? l = some { cls := .type "list", dict := none, data := .seq items n, slots := #[] } ∧ R (.ok (.ret Value.notImplemented)) s) :=
  .of_wp fun prog w A R s h => by obtain ⟨hp, g, d, tk, os⟩ := s; obtain ⟨hl, h⟩ := h; wp_walk; exact ⟨_, rfl, h⟩
theorem mul_list_bool (l : Addr) (items : Array Value) (n : Nat) (b : Bool) (hc1 : ¬items.size * (if b = true then (1 : Int) else 0).toNat > (2 ^ 63 - 1) / 8) (hc2 : ¬Builtin.List.listTooLong (items.size * (if b = true then (1 : Int) else 0).toNat) = true) :
    Meets (Builtin.«list.__mul__» ⟨[.ref l, .bool b], []⟩) (fun _ R s => s.heap.get? l = some { cls := .type "list", dict := none, data := .seq items n, slots := #[] } ∧ R (.ok (.ret (Value.ref s.heap.objs.size))) { s with heap := s.heap.push { cls := Value.type "list", data := Data.seq (List.foldl (fun x1 x2 => x1 ++ x2) #[] (List.replicate (if items.isEmpty = true then 0 else (if b = true then (1 : Int) else 0).toNat) items)) } }) :=
  .of_wp fun prog w A R s h => by
    obtain ⟨hp, g, d, tk, os⟩ := s; obtain ⟨hl, h⟩ := h
    have hsz := AutoListH.joined_fits hc2
    have hc0 : ¬(!Builtin.List.listFitsIndex (if b = true then (1 : Int) else 0)) = true := by cases b <;> decide
    wp_walk; refine wpAny_ite_false (decide_eq_false (Nat.not_lt.mpr hsz)) ?_; wp_walk; exact ⟨_, rfl, h⟩
theorem op_repB : OpR X (binaryOp .Mult) (fun x y H Q => ∃ l b xs, x = .ref l ∧ y = .bl b ∧ H l = some (.lst xs) ∧ ∀ p, H p = none → Q (.ref p) (upd H p (.lst (List.replicate (if b = true then 1 else 0) xs).flatten))) := by
  intro pins s σ H x y v u Q I rx ry h
  obtain ⟨l, b, xs, rfl, rfl, hH, q⟩ := h
  cases rx
  cases ry
  obtain ⟨z, its, n, r, hl, e⟩ := I.lstM hH
  have ek : (if b = true then (1 : Int) else 0).toNat = (if b = true then 1 else 0) := by cases b <;> rfl
  have hz : its.toArray.size ≤ sizeLine := by rw [List.size_toArray, ← hl]; exact z
  have hlen : its.toArray.size * (if b = true then (1 : Int) else 0).toNat ≤ sizeLine := by rw [ek]; cases b <;> simp <;> simpa using hz
  have hcap : ¬ its.toArray.size * (if b = true then (1 : Int) else 0).toNat > (2 ^ 63 - 1) / 8 := by
    have : (sizeLine : Nat) ≤ (2 ^ 63 - 1) / 8 := by decide
    omega
  have hlong : ¬ Builtin.List.listTooLong (its.toArray.size * (if b = true then (1 : Int) else 0).toNat) = true := by
    rw [notLongL hlen]
    exact Bool.false_ne_true
  have hnew : List.foldl (fun x1 x2 => x1 ++ x2) #[] (List.replicate (if its.toArray.isEmpty = true then 0 else (if b = true then (1 : Int) else 0).toNat) its.toArray) = (List.replicate (if b = true then 1 else 0) its).flatten.toArray := by
    rw [ek]
    cases its with
    | nil => cases b <;> simp
    | cons a r' => cases b <;> simp
  refine wpAny_binaryOp_repeat_ref (T := "list") (U := "bool") (by decide) ⟨_, e, rfl⟩ (fun s' => rfl) noFill_list_mul PySem.F.fills_bool_mul PySem.F.slot_bool_rmul repeat_list PySem.F.slot_bool_index.lookup
    (call_meets PySem.F.slot_bool_rmul rfl PySem.F.entry_int_rmul (PySem.F.args_int_rmul_2 _ _) (rmul_bool_list b l its.toArray n)
      ⟨e, rfl, ⟨_, e, rfl⟩, call_meets PySem.F.slot_list_mul ⟨_, e, rfl⟩ PySem.F.entry_list_mul (PySem.F.args_list_mul_2 _ _) (mul_list_bool l its.toArray n b hcap hlong) ⟨e, ?_⟩⟩)
  rw [hnew]
  exact ⟨.ref _, _, I.lnew (t' := s.toks) (r.rep _) (by cases b <;> simp <;> exact z), rfl, q _ I.fresh⟩
/-! ### * -/
def vMul : R2D := fun d e M Q => match d, e with
  | .int i, .int j => (Builtin.Int.intBits i : Int) + (Builtin.Int.intBits j : Int) ≤ 134217728 ∧ Q (.int (i * j)) M
  | .obj a, .int k => match M a with
    | some (.lst xs) => 0 ≤ k ∧ k < 100000000 ∧ xs.length * k.toNat ≤ big ∧ ∀ p, M p = none → Q (.obj p) (mup M p (.lst (List.replicate k.toNat xs).flatten))
    | _ => False
  | .obj a, .bl b => match M a with
    | some (.lst xs) => ∀ p, M p = none → Q (.obj p) (mup M p (.lst (List.replicate (if b = true then 1 else 0) xs).flatten))
    | _ => False
  | .tup xs, .int k => xs ≠ [] ∧ 2 ≤ k ∧ k ≤ 1000 ∧ xs.length ≤ 1000 ∧ Q (.tup (List.replicate k.toNat xs).flatten) M
  | .str l, .int k => l ≠ [] ∧ 1 ≤ k ∧ l.length * k.toNat ≤ 1000000 ∧ Q (.str (List.replicate k.toNat l).flatten) M
  | _, _ => False

theorem tooLong_no {n : Nat} (h : n ≤ 1000000) : Builtin.Str.tooLong n = false := by
  unfold Builtin.Str.tooLong
  refine decide_eq_false ?_
  have := sizeLine_eq
  omega
theorem foldl_repS (l : List Nat) : ∀ (k : Nat) (acc : Array Nat), (List.replicate k l.toArray).foldl (· ++ ·) acc = acc ++ (List.replicate k l).flatten.toArray
  | 0, acc => by simp
  | k + 1, acc => by rw [List.replicate_succ, List.foldl_cons, foldl_repS l k, List.replicate_succ, List.flatten_cons]; simp [Array.append_assoc]
theorem op_mul_str : OpR X (binaryOp .Mult) (fun x y H Q => ∃ (l : List Nat) (k : Int), x = .str (S l) ∧ y = .int k ∧ l ≠ [] ∧ 1 ≤ k ∧ l.length * k.toNat ≤ 1000000 ∧ Q (.str (S (List.replicate k.toNat l).flatten)) H) := by
  intro pins s σ H x y v u Q I rx ry h
  obtain ⟨l, k, rfl, rfl, hl, hk, hz, q⟩ := h
  obtain ⟨t, rfl⟩ := rx
  obtain ⟨t', rfl⟩ := ry
  have l1 : 1 ≤ l.length := by cases l with | nil => exact absurd rfl hl | cons _ _ => simp
  have kb : k ≤ 1000000 := by
    have : k.toNat ≤ l.length * k.toNat := Nat.le_mul_of_pos_left _ l1
    omega
  refine PySem.P.mul_str (by
    have h1 : ¬ k < -(2 ^ 63 : Int) := by omega
    have h2 : ¬ k ≥ 2 ^ 63 := by omega
    rw [decide_eq_false h1, decide_eq_false h2]; rfl) (fun _ _ => ?_) (fun _ _ => ?_) ?_
  · have e : ((S l).length : Int) ≤ 1000000 := by
      rw [S_len]
      have : l.length ≤ l.length * k.toNat := Nat.le_mul_of_pos_right _ (by omega)
      omega
    have e2 : (1000000 : Int) ≤ (2 ^ 63 - 1) / k := by
      rw [Int.le_ediv_iff_mul_le (by omega)]
      omega
    omega
  · rw [S_len]; exact tooLong_no hz
  · rw [if_neg (by omega)]
    by_cases k1 : k = 1
    · subst k1
      rw [if_pos (by simp)]
      refine ⟨.str (S l), H, I, ⟨_, rfl⟩, ?_⟩
      simpa using q
    · have : ¬ ((k == 1 || (S l).length == 0) = true) := by
        rw [S_len]
        simp only [Bool.or_eq_true, beq_iff_eq]
        omega
      rw [if_neg this]
      have eS : (⟨(List.replicate k.toNat (S l).cps).foldl (· ++ ·) #[]⟩ : Str) = S (List.replicate k.toNat l).flatten := by
        show (⟨_⟩ : Str) = ⟨_⟩
        rw [show (S l).cps = l.toArray from rfl, foldl_repS]; simp
      rw [eS]
      refine ⟨?_, .str (S (List.replicate k.toNat l).flatten), H, I.tok _, ⟨_, rfl⟩, q⟩
      rw [S_len, big_eq]
      simp only [List.length_flatten, List.map_replicate, List.sum_replicate_nat]
      rw [Nat.mul_comm]
      unfold big; omega
theorem od_mul (hK : X.K = G.K) : OpR X (binaryOp .Mult) (lift2 G vMul) := by
  intro pins s σ H x y v u Q I rx ry h
  obtain ⟨d, e, M, Q0, rd, re, rm, hr, ok⟩ := h
  unfold vMul at hr
  split at hr
  · rw [RepD.int] at rd re; subst rd re
    exact op_mulX pins s σ H _ _ v u Q I rx ry ⟨_, _, rfl, rfl, hr.1, ok _ _ _ _ hr.2 (RepD.int.mpr rfl) rm Step.rfl'⟩
  · rename_i a k
    rw [RepD.obj] at rd; rw [RepD.int] at re; subst rd re
    split at hr
    · rename_i xs q1
      obtain ⟨vs, h1, r1⟩ := lst_ok rm q1
      refine op_rep pins s σ H _ _ v u Q I rx ry ⟨a, k, vs, rfl, rfl, h1, by omega, by omega, by rw [← r1.length, big_eq]; exact hr.2.2.1, fun p hp => ?_⟩
      exact ok _ _ _ _ (hr.2.2.2 p (rm.none hp)) (RepD.obj.mpr rfl) (new_lst rm hp r1.flat) (Step.new' hp)
    · exact hr.elim
  · rename_i a b
    rw [RepD.obj] at rd; rw [RepD.bl] at re; subst rd re
    split at hr
    · rename_i xs q1
      obtain ⟨vs, h1, r1⟩ := lst_ok rm q1
      refine op_repB pins s σ H _ _ v u Q I rx ry ⟨a, b, vs, rfl, rfl, h1, fun p hp => ?_⟩
      exact ok _ _ _ _ (hr p (rm.none hp)) (RepD.obj.mpr rfl) (new_lst rm hp r1.flat) (Step.new' hp)
    · exact hr.elim
  · rename_i xs k
    obtain ⟨p, vs, rfl, hp, rp⟩ := RepD.tup.mp rd
    rw [RepD.int] at re; subst re
    have hl := rp.length
    refine op_repT pins s σ H _ _ v u Q I rx ry ⟨p, k, vs, rfl, rfl, by rw [hK]; exact hp, ?_, hr.2.1, hr.2.2.1, by rw [← hl]; exact hr.2.2.2.1, fun t ht => ?_⟩
    · intro ev; rw [ev] at hl; exact hr.1 (List.length_eq_zero_iff.mp hl)
    · exact ok _ _ _ _ hr.2.2.2.2 (new_tup ht rp.flat) (rm.skip ht) (Step.hid ht)
  · rename_i l k
    rw [RepD.str] at rd; rw [RepD.int] at re; subst rd re
    exact op_mul_str pins s σ H _ _ v u Q I rx ry ⟨_, _, rfl, rfl, hr.1, hr.2.1, hr.2.2.1, ok _ _ _ _ hr.2.2.2 (RepD.str.mpr rfl) rm Step.rfl'⟩
  · exact hr.elim
end
end DL
set_option Elab.async false
set_option linter.all false
set_option maxRecDepth 100000
/-! DL3: comparisons, truth, subscripts, slices, isinstance. -/
namespace DL
open PySem PySem.Spec PyProof.Rows L2

/-! ### values as data, for == -/
def toP : Nat → Mem → D → Option PyData
  | 0, _, _ => none
  | n + 1, M, d => match d with
    | .non => some .none
    | .bl b => some (.bool b)
    | .int i => some (.int i)
    | .str l => some (.str (S l))
    | .tup xs => (xs.mapM (toP n M)).map .tuple
    | .obj a => match rdL M a with
      | some xs => (xs.mapM (toP n M)).map .list
      | none => none
theorem toP_all {G : Cfg} {H : Hp} {M : Mem} {n : Nat} (ih : ∀ d v p, RepD G.K H d v → toP n M d = some p → Dp G.K H v p ∧ p.depth ≤ n) :
    ∀ (ds : List D) (vs : List V) (ps : List PyData), RepL G.K H ds vs → ds.mapM (toP n M) = some ps → DpAll G.K H vs ps ∧ PyData.depthAll ps ≤ n
  | [], vs, ps, h, e => by
    rw [RepL.nil] at h; subst h
    simp at e; subst e
    exact ⟨.nil, by simp [PyData.depthAll]⟩
  | d :: ds, vs, ps, h, e => by
    obtain ⟨v, ws, rfl, r, q⟩ := RepL.cons.mp h
    rw [List.mapM_cons] at e
    cases e1 : toP n M d with
    | none => rw [e1] at e; cases e
    | some p =>
      rw [e1] at e
      cases e2 : ds.mapM (toP n M) with
      | none => rw [e2] at e; cases e
      | some qs =>
        rw [e2] at e
        cases e
        obtain ⟨h1, h2⟩ := ih d v p r e1
        obtain ⟨h3, h4⟩ := toP_all ih ds ws qs q e2
        exact ⟨.cons h1 h3, by simp only [PyData.depthAll]; omega⟩
theorem toP_ok {G : Cfg} {H : Hp} {M : Mem} (m : RepM G H M) : ∀ (n : Nat) (d : D) (v : V) (p : PyData), RepD G.K H d v → toP n M d = some p → Dp G.K H v p ∧ p.depth ≤ n
  | 0, d, v, p, _, e => by cases e
  | n + 1, d, v, p, r, e => by
    cases d with
    | non => rw [RepD.non] at r; subst r; cases e; exact ⟨.non, by simp [PyData.depth]⟩
    | bl b => rw [RepD.bl] at r; subst r; cases e; exact ⟨.bl b, by simp [PyData.depth]⟩
    | int i => rw [RepD.int] at r; subst r; cases e; exact ⟨.int i, by simp [PyData.depth]⟩
    | str l => rw [RepD.str] at r; subst r; cases e; exact ⟨.str _, by simp [PyData.depth]⟩
    | tup xs =>
      obtain ⟨a, vs, rfl, hq, rq⟩ := RepD.tup.mp r
      have e' : (xs.mapM (toP n M)).map PyData.tuple = some p := e
      cases e2 : xs.mapM (toP n M) with
      | none => rw [e2] at e'; cases e'
      | some ps =>
        rw [e2] at e'; cases e'
        obtain ⟨h1, h2⟩ := toP_all (toP_ok m n) xs vs ps rq e2
        exact ⟨.tup hq h1, by simp only [PyData.depth]; omega⟩
    | obj a =>
      rw [RepD.obj] at r; subst r
      have e' : (match rdL M a with | some xs => (xs.mapM (toP n M)).map PyData.list | none => none) = some p := e
      cases e3 : rdL M a with
      | none => rw [e3] at e'; cases e'
      | some xs =>
        rw [e3] at e'
        obtain ⟨vs, hq, rq⟩ := rdL_ok m e3
        have e'' : (xs.mapM (toP n M)).map PyData.list = some p := e'
        cases e2 : xs.mapM (toP n M) with
        | none => rw [e2] at e''; cases e''
        | some ps =>
          rw [e2] at e''; cases e''
          obtain ⟨h1, h2⟩ := toP_all (toP_ok m n) xs vs ps rq e2
          exact ⟨.lst hq h1, by simp only [PyData.depth]; omega⟩

section
variable {X : Cx} {G : Cfg}
/-- == with its answer k -/
def vEqK (neg : Bool) : R2D := fun d e M Q => match d, e with
  | .int i, .int j => Q (.bl (if neg then !decide (i = j) else decide (i = j))) M
  | .str a, .str b => Q (.bl (if neg then !decide (a = b) else decide (a = b))) M
  | .bl a, .bl b => Q (.bl (if neg then !decide (a = b) else decide (a = b))) M
  | d, e => match toP 60 M d, toP 60 M e with
    | some p, some q => p.canLay0 = true ∧ q.canLay0 = true ∧ Q (.bl (if neg then !PyData.eqv p q else PyData.eqv p q)) M
    | _, _ => False
abbrev vEq := vEqK false
abbrev vNe := vEqK true
theorem shaped_of {p : PyData} {n : Nat} (h : p.canLay0 = true) (hd : p.depth ≤ n) (hn : n ≤ 64) : SeqAt.shaped p = true := by
  unfold SeqAt.shaped
  rw [h, decide_eq_true (Nat.le_trans hd hn)]; rfl
theorem od_eqG {neg : Bool} {f : Value → Value → Sem Value} (hK : X.K = G.K)
    (hs : OpR X f (fun x y H Q => scal x y = true ∧ Q (.bl (if neg then !decide (x = y) else decide (x = y))) H))
    (hd : OpR X f (fun x y H Q => ∃ d e, Dp X.K H x d ∧ Dp X.K H y e ∧ SeqAt.shaped d = true ∧ SeqAt.shaped e = true ∧ Q (.bl (if neg then !PyData.eqv d e else PyData.eqv d e)) H)) : OpR X f (lift2 G (vEqK neg)) := by
  intro pins s σ H x y v u Q I rx ry hr
  obtain ⟨d, e, M, Q0, rd, re, rm, hr, ok⟩ := hr
  unfold vEqK at hr
  split at hr
  · rename_i i j
    rw [RepD.int] at rd re; subst rd re
    refine hs pins s σ H _ _ v u Q I rx ry ⟨rfl, ok _ _ _ _ hr (RepD.bl.mpr ?_) rm Step.rfl'⟩
    have : decide (V.int i = V.int j) = decide (i = j) := by by_cases h : i = j <;> simp [h]
    rw [this]
  · rename_i i j
    rw [RepD.str] at rd re; subst rd re
    refine hs pins s σ H _ _ v u Q I rx ry ⟨rfl, ok _ _ _ _ hr (RepD.bl.mpr ?_) rm Step.rfl'⟩
    have : decide (V.str (S i) = V.str (S j)) = decide (i = j) := by
      by_cases h : i = j
      · simp [h]
      · have : S i ≠ S j := fun z => h (S_inj z)
        simp [h, this]
    rw [this]
  · rename_i i j
    rw [RepD.bl] at rd re; subst rd re
    refine hs pins s σ H _ _ v u Q I rx ry ⟨rfl, ok _ _ _ _ hr (RepD.bl.mpr ?_) rm Step.rfl'⟩
    have : decide (V.bl i = V.bl j) = decide (i = j) := by by_cases h : i = j <;> simp [h]
    rw [this]
  · split at hr
    · rename_i p q e1 e2
      obtain ⟨a1, a2⟩ := toP_ok rm 60 _ _ _ rd e1
      obtain ⟨b1, b2⟩ := toP_ok rm 60 _ _ _ re e2
      exact hd pins s σ H _ _ v u Q I rx ry ⟨p, q, by rw [hK]; exact a1, by rw [hK]; exact b1, shaped_of hr.1 a2 (by decide), shaped_of hr.2.1 b2 (by decide), ok _ _ _ _ hr.2.2 (RepD.bl.mpr rfl) rm Step.rfl'⟩
    · exact hr.elim
theorem od_eq (hK : X.K = G.K) (hu : X.A.units + 64 < cLine) : OpR X (compareOp .Eq) (lift2 G vEq) := od_eqG (neg := false) hK op_eq (op_eqD hu)
theorem od_ne (hK : X.K = G.K) (hu : X.A.units + 64 < cLine) : OpR X (compareOp .NotEq) (lift2 G vNe) := od_eqG (neg := true) hK op_ne (op_neD hu)

/-- order of ints, of texts -/
def vOrd (gi : Int → Int → Bool) (gs : List Nat → List Nat → Bool) : R2D := fun d e M Q => match d, e with
  | .int i, .int j => Q (.bl (gi i j)) M
  | .str a, .str b => Q (.bl (gs a b)) M
  | _, _ => False
theorem od_ord {op : CmpOp} {gi : Int → Int → Bool} {gs : List Nat → List Nat → Bool} (hi : OpR X (compareOp op) (rI0 fun i j => .bl (gi i j)))
    (hs : OpR X (compareOp op) (fun x y H Q => ∃ i j : Str, x = .str i ∧ y = .str j ∧ Q (.bl (gs i.cps.toList j.cps.toList)) H)) : OpR X (compareOp op) (lift2 G (vOrd gi gs)) := by
  intro pins s σ H x y v u Q I rx ry hr
  obtain ⟨d, e, M, Q0, rd, re, rm, hr, ok⟩ := hr
  unfold vOrd at hr
  split at hr
  · rw [RepD.int] at rd re; subst rd re
    exact hi pins s σ H _ _ v u Q I rx ry ⟨_, _, rfl, rfl, ok _ _ _ _ hr (RepD.bl.mpr rfl) rm Step.rfl'⟩
  · rw [RepD.str] at rd re; subst rd re
    exact hs pins s σ H _ _ v u Q I rx ry ⟨_, _, rfl, rfl, ok _ _ _ _ hr (RepD.bl.mpr (by rw [S_cps, S_cps])) rm Step.rfl'⟩
  · exact hr.elim
abbrev vLt : R2D := vOrd (fun i j => decide (i < j)) fun a b => decide (a < b)
abbrev vLe : R2D := vOrd (fun i j => decide (i ≤ j)) fun a b => !decide (b < a)
abbrev vGt : R2D := vOrd (fun i j => decide (j < i)) fun a b => decide (b < a)
abbrev vGe : R2D := vOrd (fun i j => decide (j ≤ i)) fun a b => !decide (a < b)
theorem od_lt : OpR X (compareOp .Lt) (lift2 G vLt) := od_ord op_lt op_lt_str
theorem od_le : OpR X (compareOp .LtE) (lift2 G vLe) := od_ord op_le op_le_str
theorem od_gt : OpR X (compareOp .Gt) (lift2 G vGt) := od_ord op_gt op_gt_str
theorem od_ge : OpR X (compareOp .GtE) (lift2 G vGe) := od_ord op_ge op_ge_str

/-- is None, is True -/
def isNon : D → Bool | .non => true | _ => false
def vIsK (neg : Bool) : R2D := fun d e M Q => match d, e with
  | .bl a, .bl b => Q (.bl (if neg then !decide (a = b) else decide (a = b))) M
  | d, .non => Q (.bl (if neg then !isNon d else isNon d)) M
  | _, _ => False
theorem isNon_eq {K : PySem.W.Frag} {H : Hp} {d : D} {v : V} (r : RepD K H d v) : decide (v = .non) = isNon d := by
  cases d with
  | non => rw [RepD.non] at r; subst r; rfl
  | bl b => rw [RepD.bl] at r; subst r; rfl
  | int b => rw [RepD.int] at r; subst r; rfl
  | str b => rw [RepD.str] at r; subst r; rfl
  | tup xs => obtain ⟨a, vs, rfl, _⟩ := RepD.tup.mp r; rfl
  | obj b => rw [RepD.obj] at r; subst r; rfl
theorem od_is : OpR X (compareOp .Is) (lift2 G (vIsK false)) := by
  intro pins s σ H x y v u Q I rx ry hr
  obtain ⟨d, e, M, Q0, rd, re, rm, hr, ok⟩ := hr
  unfold vIsK at hr
  split at hr
  · rw [RepD.bl] at rd re; subst rd re
    exact op_isBl pins s σ H _ _ v u Q I rx ry ⟨_, _, rfl, rfl, ok _ _ _ _ hr (RepD.bl.mpr rfl) rm Step.rfl'⟩
  · rw [RepD.non] at re; subst re
    exact op_isN pins s σ H _ _ v u Q I rx ry ⟨rfl, ok _ _ _ _ hr (RepD.bl.mpr (by rw [isNon_eq rd]; rfl)) rm Step.rfl'⟩
  · exact hr.elim
theorem od_isnot : OpR X (compareOp .IsNot) (lift2 G (vIsK true)) := by
  intro pins s σ H x y v u Q I rx ry hr
  obtain ⟨d, e, M, Q0, rd, re, rm, hr, ok⟩ := hr
  unfold vIsK at hr
  split at hr
  · rw [RepD.bl] at rd re; subst rd re
    exact op_notBl pins s σ H _ _ v u Q I rx ry ⟨_, _, rfl, rfl, ok _ _ _ _ hr (RepD.bl.mpr rfl) rm Step.rfl'⟩
  · rw [RepD.non] at re; subst re
    exact op_notN pins s σ H _ _ v u Q I rx ry ⟨rfl, ok _ _ _ _ hr (RepD.bl.mpr (by rw [isNon_eq rd]; rfl)) rm Step.rfl'⟩
  · exact hr.elim

/-! ### in -/
def isFlat : D → Bool | .non => true | .bl _ => true | .int _ => true | .str _ => true | _ => false
def eqF : D → D → Bool
  | .non, .non => true
  | .bl a, .bl b => a == b
  | .bl a, .int b => (if a then 1 else 0) == b
  | .int a, .bl b => a == (if b then 1 else 0)
  | .int a, .int b => a == b
  | .str a, .str b => decide (a = b)
  | _, _ => false
theorem flat_rep {K : PySem.W.Frag} {H : Hp} {d : D} {v : V} (r : RepD K H d v) (f : isFlat d = true) : flatV v = true ∧ v = flatD d := by
  cases d with
  | non => rw [RepD.non] at r; subst r; exact ⟨rfl, rfl⟩
  | bl b => rw [RepD.bl] at r; subst r; exact ⟨rfl, rfl⟩
  | int b => rw [RepD.int] at r; subst r; exact ⟨rfl, rfl⟩
  | str b => rw [RepD.str] at r; subst r; exact ⟨rfl, rfl⟩
  | tup xs => cases f
  | obj b => cases f
theorem eqF_eq {d e : D} (fd : isFlat d = true) (fe : isFlat e = true) : eqV (flatD d) (flatD e) = eqF d e := by
  cases d <;> cases e <;> first | rfl | (cases fd; done) | (cases fe; done) | skip
  rename_i a b
  show (S a == S b) = decide (a = b)
  by_cases h : a = b
  · subst h; simp
  · have : S a ≠ S b := fun z => h (S_inj z)
    simp [h, this]
theorem flat_all {K : PySem.W.Frag} {H : Hp} {d : D} (fd : isFlat d = true) : ∀ {xs : List D} {vs : List V}, RepL K H xs vs → xs.all isFlat = true → vs.all flatV = true ∧ inV (flatD d) vs = xs.any fun y => eqF y d
  | [], vs, r, _ => by rw [RepL.nil] at r; subst r; exact ⟨rfl, rfl⟩
  | x :: xs, vs, r, f => by
    obtain ⟨v, ws, rfl, r1, r2⟩ := RepL.cons.mp r
    rw [List.all_cons, Bool.and_eq_true] at f
    obtain ⟨h1, h2⟩ := flat_rep r1 f.1
    obtain ⟨h3, h4⟩ := flat_all fd r2 f.2
    refine ⟨by rw [List.all_cons, h1, h3]; rfl, ?_⟩
    unfold inV at h4 ⊢
    rw [List.any_cons, List.any_cons, h4, h2, eqF_eq f.1 fd]
def vInK (neg : Bool) : R2D := fun d e M Q => match d, e with
  | .str [c], .str l => Q (.bl (if neg then !decide (c ∈ l) else decide (c ∈ l))) M
  | d, .tup xs => isFlat d = true ∧ xs.all isFlat = true ∧ Q (.bl (if neg then !xs.any (fun y => eqF y d) else xs.any fun y => eqF y d)) M
  | d, .obj a => match rdL M a with
    | some xs => isFlat d = true ∧ xs.all isFlat = true ∧ Q (.bl (if neg then !xs.any (fun y => eqF y d) else xs.any fun y => eqF y d)) M
    | none => False
  | _, _ => False
theorem od_inG {neg : Bool} {f : Value → Value → Sem Value} (hK : X.K = G.K)
    (h1 : OpR X f (fun x y H Q => ∃ (c : Nat) (z : Str), x = .str ⟨#[c]⟩ ∧ y = .str z ∧ Q (.bl (if neg then !decide (c ∈ z.cps.toList) else decide (c ∈ z.cps.toList))) H))
    (h2 : OpR X f (rIn X.K neg)) : OpR X f (lift2 G (vInK neg)) := by
  intro pins s σ H x y v u Q I rx ry hr
  obtain ⟨d, e, M, Q0, rd, re, rm, hr, ok⟩ := hr
  unfold vInK at hr
  split at hr
  · rw [RepD.str] at rd re; subst rd re
    exact h1 pins s σ H _ _ v u Q I rx ry ⟨_, _, rfl, rfl, ok _ _ _ _ hr (RepD.bl.mpr (by rw [S_cps])) rm Step.rfl'⟩
  · obtain ⟨p, vs, rfl, hp, rp⟩ := RepD.tup.mp re
    obtain ⟨f1, f2⟩ := flat_rep rd hr.1
    obtain ⟨f3, f4⟩ := flat_all hr.1 rp hr.2.1
    subst f2
    exact h2 pins s σ H _ _ v u Q I rx ry ⟨p, vs, rfl, .inr (by rw [hK]; exact hp), f1, f3, ok _ _ _ _ hr.2.2 (RepD.bl.mpr (by rw [f4])) rm Step.rfl'⟩
  · rename_i a
    rw [RepD.obj] at re; subst re
    split at hr
    · rename_i xs e1
      obtain ⟨vs, hp, rp⟩ := rdL_ok rm e1
      obtain ⟨f1, f2⟩ := flat_rep rd hr.1
      obtain ⟨f3, f4⟩ := flat_all hr.1 rp hr.2.1
      subst f2
      exact h2 pins s σ H _ _ v u Q I rx ry ⟨a, vs, rfl, .inl (by rw [hK]; exact hp), f1, f3, ok _ _ _ _ hr.2.2 (RepD.bl.mpr (by rw [f4])) rm Step.rfl'⟩
    · exact hr.elim
  · exact hr.elim
theorem od_in (hK : X.K = G.K) : OpR X (compareOp .In) (lift2 G (vInK false)) := od_inG (neg := false) hK op_in_sign op_in_seq
theorem od_notin (hK : X.K = G.K) : OpR X (compareOp .NotIn) (lift2 G (vInK true)) := od_inG (neg := true) hK op_notIn_sign op_notIn_seq

/-! ### truth -/
def vTru : D → Mem → (Bool → Mem → Prop) → Prop := fun d M Q => match d with
  | .non => Q false M
  | .bl b => Q b M
  | .int i => Q (decide (i ≠ 0)) M
  | .str l => l.length ≤ big ∧ Q (!l.isEmpty) M
  | .tup xs => Q (!xs.isEmpty) M
  | .obj a => match rdL M a with
    | some xs => Q (!xs.isEmpty) M
    | none => False
theorem tru_rep {H : Hp} {M : Mem} {d : D} {v : V} {Q : Bool → Mem → Prop} (hK : X.K = G.K) (r : RepD G.K H d v) (m : RepM G H M) (h : vTru d M Q) : ∃ k, TruV X.K v H k ∧ Q k M := by
  cases d with
  | non => rw [RepD.non] at r; subst r; exact ⟨false, rfl, h⟩
  | bl b => rw [RepD.bl] at r; subst r; exact ⟨b, rfl, h⟩
  | int i =>
    rw [RepD.int] at r; subst r
    refine ⟨_, ?_, h⟩
    show decide (i ≠ 0) = (i != 0)
    by_cases z : i = 0 <;> simp [z]
  | str l =>
    rw [RepD.str] at r; subst r
    refine ⟨_, ⟨by rw [S_len, big_eq]; exact h.1, ?_⟩, h.2⟩
    rw [S_len]
    cases l with
    | nil => simp
    | cons _ _ => simp; omega
  | tup xs =>
    obtain ⟨a, vs, rfl, hp, rp⟩ := RepD.tup.mp r
    refine ⟨_, .inr (.inl ⟨vs, by rw [hK]; exact hp, ?_⟩), h⟩
    have := rp.length
    cases xs <;> cases vs <;> simp_all
  | obj a =>
    rw [RepD.obj] at r; subst r
    have h' : (match rdL M a with | some xs => Q (!xs.isEmpty) M | none => False) := h
    cases e : rdL M a with
    | none => rw [e] at h'; exact h'.elim
    | some xs =>
      rw [e] at h'
      obtain ⟨vs, hp, rp⟩ := rdL_ok m e
      refine ⟨_, .inl ⟨vs, by rw [hK]; exact hp, ?_⟩, h'⟩
      have := rp.length
      cases xs <;> cases vs <;> simp_all

/-! ### subscripts -/
def vIdx : R2D := fun d e M Q => match d, e with
  | .tup xs, .int i => match atI xs i with
    | some x => Q x M
    | none => False
  | .str l, .int i => l.length ≤ big ∧ match atI l i with
    | some c => Q (.str [c]) M
    | none => False
  | .obj a, .int i => match rdL M a with
    | some xs => match atI xs i with
      | some x => Q x M
      | none => False
    | none => False
  | _, _ => False
theorem atI_rep {K : PySem.W.Frag} {H : Hp} {xs : List D} {vs : List V} {i : Int} {d : D} (r : RepL K H xs vs) (e : atI xs i = some d) : ∃ v, atI vs i = some v ∧ RepD K H d v := by
  unfold atI at e ⊢
  rw [← r.length]
  cases q : ixN xs.length i with
  | none => rw [q] at e; cases e
  | some j => rw [q] at e; exact r.get e
theorem id_idx (hK : X.K = G.K) : IxR X (lift2 G vIdx) := by
  intro value slice pins s σ H x y v u Q I rx ry h hs
  obtain ⟨d, e, M, Q0, rd, re, rm, hr, ok⟩ := h
  unfold vIdx at hr
  split at hr
  · rename_i xs i
    obtain ⟨p, vs, rfl, hp, rp⟩ := RepD.tup.mp rd
    rw [RepD.int] at re; subst re
    split at hr
    · rename_i x e1
      obtain ⟨z, e2, rz⟩ := atI_rep rp e1
      exact ix_tup value slice pins s σ H _ _ v u Q I rx ry ⟨p, vs, i, z, rfl, rfl, by rw [hK]; exact hp, e2, ok _ _ _ _ hr rz rm Step.rfl'⟩ hs
    · exact hr.elim
  · rename_i l i
    rw [RepD.str] at rd; rw [RepD.int] at re; subst rd re
    obtain ⟨hl, hr⟩ := hr
    split at hr
    · rename_i c e1
      exact ix_str value slice pins s σ H _ _ v u Q I rx ry ⟨_, i, c, rfl, rfl, by rw [S_len, big_eq]; exact hl, by rw [S_cps]; exact e1, ok _ _ _ _ hr (RepD.str.mpr rfl) rm Step.rfl'⟩ hs
    · exact hr.elim
  · rename_i a i
    rw [RepD.obj] at rd; rw [RepD.int] at re; subst rd re
    split at hr
    · rename_i xs e0
      obtain ⟨vs, hp, rp⟩ := rdL_ok rm e0
      split at hr
      · rename_i x e1
        obtain ⟨z, e2, rz⟩ := atI_rep rp e1
        exact ix_list value slice pins s σ H _ _ v u Q I rx ry ⟨a, vs, i, z, rfl, rfl, by rw [hK]; exact hp, e2, ok _ _ _ _ hr rz rm Step.rfl'⟩ hs
      · exact hr.elim
    · exact hr.elim
  · exact hr.elim

/-! ### slices -/
def cut {α : Type} (xs : List α) (lo hi : Option Int) : List α := (xs.drop (HT.sIx xs.length 0 lo)).take (HT.sIx xs.length xs.length hi - HT.sIx xs.length 0 lo)
abbrev RSD := D → Option Int → Option Int → Mem → DK → Prop
def liftSl (G : Cfg) (r : RSD) : V → Option Int → Option Int → Hp → VK → Prop := fun x lo hi H Q => ∃ d M Q0, RepD G.K H d x ∧ RepM G H M ∧ r d lo hi M Q0 ∧ OkK G H M Q0 Q
def vSlc : RSD := fun d lo hi M Q => match d with
  | .str l => l.length ≤ big ∧ Q (.str (cut l lo hi)) M
  | .tup xs => Q (.tup (cut xs lo hi)) M
  | .obj a => match rdL M a with
    | some xs => ∀ p, M p = none → Q (.obj p) (mup M p (.lst (cut xs lo hi)))
    | none => False
  | _ => False
theorem cut_rep {K : PySem.W.Frag} {H : Hp} {xs : List D} {vs : List V} (r : RepL K H xs vs) (lo hi : Option Int) : RepL K H (cut xs lo hi) (cutV vs lo hi) := by
  unfold cut cutV
  rw [← r.length]
  exact (r.drop _).take _
theorem sd_slc (hK : X.K = G.K) : SlR X (liftSl G vSlc) := by
  intro pins s σ H x v vl vu lo hi sl Q I rx hs pl pu h
  obtain ⟨d, M, Q0, rd, rm, hr, ok⟩ := h
  unfold vSlc at hr
  split at hr
  · rename_i l
    rw [RepD.str] at rd; subst rd
    refine sl_str pins s σ H _ v vl vu lo hi sl Q I rx hs pl pu ⟨_, rfl, by rw [S_len, big_eq]; exact hr.1, ok _ _ _ _ hr.2 (RepD.str.mpr ?_) rm Step.rfl'⟩
    unfold cutS cut
    rw [S_cps, S_len]; rfl
  · rename_i xs
    obtain ⟨p, vs, rfl, hp, rp⟩ := RepD.tup.mp rd
    refine sl_tupA pins s σ H _ v vl vu lo hi sl Q I rx hs pl pu ⟨p, vs, rfl, by rw [hK]; exact hp, fun hw => ?_, fun _ t ht => ?_⟩
    · refine ok _ _ _ _ hr (RepD.tup.mpr ⟨p, vs, rfl, hp, ?_⟩) rm Step.rfl'
      have e : cut xs lo hi = xs := by
        unfold cut
        rw [rp.length, hw.1, hw.2, Nat.sub_zero, List.drop_zero, ← rp.length, List.take_length]
      rw [e]; exact rp
    · exact ok _ _ _ _ hr (new_tup ht (cut_rep rp lo hi)) (rm.skip ht) (Step.hid ht)
  · rename_i a
    rw [RepD.obj] at rd; subst rd
    split at hr
    · rename_i xs e0
      obtain ⟨vs, hp, rp⟩ := rdL_ok rm e0
      exact sl_list pins s σ H _ v vl vu lo hi sl Q I rx hs pl pu ⟨a, vs, rfl, by rw [hK]; exact hp, fun t ht => ok _ _ _ _ (hr t (rm.none ht)) (RepD.obj.mpr rfl) (new_lst rm ht (cut_rep rp lo hi)) (Step.new' ht)⟩
    · exact hr.elim
  · exact hr.elim

/-! ### isinstance, by built-in classes -/
/-- a value's class -/
def tyD (M : Mem) : D → Option String
  | .non => some "NoneType"
  | .bl _ => some "bool"
  | .int _ => some "int"
  | .str _ => some "str"
  | .tup _ => some "tuple"
  | .obj a => match M a with
    | some (.lst _) => some "list"
    | some (.ro _) => some "list"
    | some (.dct _) => some "dict"
    | _ => none
/-- what isinstance asks of a value -/
def KitH (X : Cx) (H : Hp) (v : V) (t : Value) : Prop := ∀ (pins : List (Addr × Obj)) (σ : L2.St) (s : Shared) (u : Value), Inv X pins σ H s → RelV v u → ∃ P : Heap → Prop, PySem.W.KitX X.K u t P ∧ P s.heap ∧ u ≠ .builtin "__main__.__loader__#opaque"
theorem KitH.of {H : Hp} {v : V} {t : Value} (h : TyX X.K H v t) : KitH X H v t := fun pins σ s u I r => kit_of I r h
theorem tyD_ok {H : Hp} {M : Mem} {d : D} {v : V} {T : String} (hK : X.K = G.K) (r : RepD G.K H d v) (m : RepM G H M) (e : tyD M d = some T) : KitH X H v (.type T) := by
  cases d with
  | non => rw [RepD.non] at r; subst r; cases e; exact .of (.base .non)
  | bl b => rw [RepD.bl] at r; subst r; cases e; exact .of (.base (.bl b))
  | int i => rw [RepD.int] at r; subst r; cases e; exact .of (.base (.int i))
  | str l => rw [RepD.str] at r; subst r; cases e; exact .of (.base (.str _))
  | tup xs =>
    obtain ⟨p, vs, rfl, hp, rp⟩ := RepD.tup.mp r
    cases e
    rcases hp with (hp | ⟨o, hp⟩) | ⟨o, its, n, hk, hc, _⟩
    · exact .of (.base (.tup hp))
    · exact .of (.fTuple hp)
    · exact .of (.kTuple (by rw [hK]; exact hk) hc)
  | obj a =>
    rw [RepD.obj] at r; subst r
    have e' : (match M a with | some (.lst _) => some "list" | some (.ro _) => some "list" | some (.dct _) => some "dict" | _ => none) = some T := e
    split at e'
    · rename_i xs q
      cases e'
      obtain ⟨ho, h1, vs, h2, _⟩ := m a _ q
      subst h2
      exact .of (.base (.lst h1))
    · rename_i xs q
      cases e'
      obtain ⟨ho, h1, ob, vs, h2, _⟩ := m a _ q
      subst h2
      exact .of (.base (.frz h1))
    · rename_i xs q
      cases e'
      obtain ⟨ho, h1, ob, h2, h3⟩ := m a _ q
      subst h2
      intro pins σ s u I ru
      cases (show u = Value.ref a from ru)
      have x : ObjOk X.prog X.w H s.heap a (.ext fun h => h.get? a = some ob) := I.hok a _ h1
      exact ⟨_, PySem.W.kitx_dict, ⟨ob, x.1, h3.ex.1⟩, fun z => nomatch z⟩
    · cases e'
theorem call_isiY : CallR X (.builtin "isinstance") (fun xs H Q => ∃ (x c : V) (t u : Value) (b : Bool), xs = [x, c] ∧ ClsV c u ∧ KitH X H x t ∧ PySem.W.kitOne X.K t u = some b ∧ Q (.bl b) H) := by
  intro pins s σ H xs us Q I r h
  obtain ⟨x, c, t, u, b, rfl, k, ty, e, q⟩ := h
  obtain ⟨u1, u2, rfl, r1, r2⟩ := vals2 r
  have e2 := k.eq r2
  subst e2
  obtain ⟨P, Z, p, hx⟩ := ty pins σ s u1 I r1
  exact PySem.W.kia_one Z I.kIn p e hx fun tk => ⟨.bl b, H, I.tok tk, rfl, q⟩
theorem call_isiYT : CallR X (.builtin "isinstance") (fun xs H Q => ∃ (x : V) (tp : Addr) (cs : List V) (t : Value) (us : List Value) (b : Bool), xs = [x, .ref tp] ∧ H tp = some (.tup cs) ∧ Paired ClsV cs us ∧ KitH X H x t ∧ PySem.W.kitAny X.K t us = some b ∧ Q (.bl b) H) := by
  intro pins s σ H xs us Q I r h
  obtain ⟨x, tp, cs, t, ws, b, rfl, hT, k, ty, e, q⟩ := h
  obtain ⟨u1, u2, rfl, r1, r2⟩ := vals2 r
  cases (show u2 = Value.ref tp from r2)
  obtain ⟨P, Z, p, hx⟩ := ty pins σ s u1 I r1
  obtain ⟨_, its, rv, o, h1, h2, n, h3⟩ := (show ObjOk X.prog X.w H s.heap tp (.tup cs) from I.hok tp _ hT)
  have e3 := ClsV.all k rv
  subst e3
  obtain ⟨oc, od, dt, sl⟩ := o
  simp only at h2 h3
  subst h2 h3
  exact PySem.W.kia_tup Z I.kIn p h1 e hx fun tk => ⟨.bl b, H, I.tok tk, rfl, q⟩
end
end DL
set_option Elab.async false
set_option linter.all false
set_option maxRecDepth 100000
/-! DL4: built-in functions and methods. -/
namespace DL
open PySem PySem.Spec PyProof.Rows L2

/-! ### functions -/
inductive BI where
  | len | int | str | abs | min | max | sum | any | all | sorted | list | tuple | ord
  deriving DecidableEq
def BI.name : BI → Str
  | .len => "len" | .int => "int" | .str => "str" | .abs => "abs" | .min => "min" | .max => "max" | .sum => "sum" | .any => "any" | .all => "all"
  | .sorted => "sorted" | .list => "list" | .tuple => "tuple" | .ord => "ord"
def BI.val : BI → Value
  | .len => .builtin "len" | .int => .type "int" | .str => .type "str" | .abs => .builtin "abs" | .min => .builtin "min" | .max => .builtin "max" | .sum => .builtin "sum"
  | .any => .builtin "any" | .all => .builtin "all" | .sorted => .builtin "sorted" | .list => .type "list" | .tuple => .type "tuple" | .ord => .builtin "ord"
theorem BI.boot (b : BI) : bootBuiltins b.name = some b.val := by cases b <;> decide +kernel
theorem BI.nn (b : BI) : b.name ≠ "__name__" := by cases b <;> decide +kernel
theorem BI.nd (b : BI) : (b.name == ("__debug__" : Str)) = false := by cases b <;> decide +kernel

def asInt : D → Option Int | .int i => some i | _ => none
def asBl : D → Option Bool | .bl b => some b | _ => none
def asStr : D → Option (List Nat) | .str l => some l | _ => none
theorem mapM_some {α β : Type} {f : α → Option β} {g : β → α} (hg : ∀ a b, f a = some b → a = g b) : ∀ {xs : List α} {ys : List β}, xs.mapM f = some ys → xs = ys.map g
  | [], ys, h => by simp at h; subst h; rfl
  | x :: xs, ys, h => by
    rw [List.mapM_cons] at h
    cases e : f x with
    | none => rw [e] at h; cases h
    | some y =>
      rw [e] at h
      cases e2 : xs.mapM f with
      | none => rw [e2] at h; cases h
      | some zs => rw [e2] at h; cases h; rw [hg x y e, mapM_some hg e2]; rfl
theorem mapM_map {α β : Type} {f : α → Option β} {g : β → α} (hg : ∀ b, f (g b) = some b) : ∀ (ys : List β), (ys.map g).mapM f = some ys
  | [] => rfl
  | y :: ys => by rw [List.map_cons, List.mapM_cons, hg, mapM_map hg ys]; rfl
theorem asInt_eq {xs : List D} {ns : List Int} (h : xs.mapM asInt = some ns) : xs = ns.map .int := mapM_some (fun a b e => by cases a <;> first | (cases e; rfl) | cases e) h
theorem asBl_eq {xs : List D} {ns : List Bool} (h : xs.mapM asBl = some ns) : xs = ns.map .bl := mapM_some (fun a b e => by cases a <;> first | (cases e; rfl) | cases e) h
theorem asStr_eq {xs : List D} {ns : List (List Nat)} (h : xs.mapM asStr = some ns) : xs = ns.map .str := mapM_some (fun a b e => by cases a <;> first | (cases e; rfl) | cases e) h
theorem asInt_map (ns : List Int) : (ns.map D.int).mapM asInt = some ns := mapM_map (f := asInt) (g := D.int) (fun _ => rfl) ns
theorem asBl_map (ns : List Bool) : (ns.map D.bl).mapM asBl = some ns := mapM_map (f := asBl) (g := D.bl) (fun _ => rfl) ns
theorem asStr_map (ns : List (List Nat)) : (ns.map D.str).mapM asStr = some ns := mapM_map (f := asStr) (g := D.str) (fun _ => rfl) ns

/-- ints in order -/
def isort (ns : List Int) : List Int := ns.mergeSort (fun a b => decide (a ≤ b))
theorem isort_unique {ns ms : List Int} (p : ms.Perm ns) (s : ms.Pairwise (· ≤ ·)) : ms = isort ns := by
  have h1 : (isort ns).Pairwise (· ≤ ·) := by
    have := List.pairwise_mergeSort (le := fun a b : Int => decide (a ≤ b)) (fun a b c h1 h2 => by simp only [decide_eq_true_eq] at h1 h2 ⊢; omega) (fun a b => by simp only [Bool.or_eq_true, decide_eq_true_eq]; omega) ns
    exact this.imp fun h => by simpa using h
  have h2 : (isort ns).Perm ns := List.mergeSort_perm ns _
  exact (p.trans h2.symm).eq_of_pairwise (fun a b _ _ h1 h2 => by omega) s h1

mutual
def noDt : PyData → Bool
  | .dict _ => false
  | .list xs => noDs xs
  | .tuple xs => noDs xs
  | _ => true
def noDs : List PyData → Bool
  | [] => true
  | x :: xs => noDt x && noDs xs
end
mutual
theorem reads_one {h : Heap} : ∀ (d d' : PyData) (v : Value) (as as' : List Addr), noDt d = true → Reads h v d as → Reads h v d' as' → d = d'
  | .none, d', v, _, _, _, r, r' => by cases r; cases r'; rfl
  | .bool b, d', v, _, _, _, r, r' => by cases r; cases r'; rfl
  | .int b, d', v, _, _, _, r, r' => by cases r; cases r'; rfl
  | .str b, d', v, _, _, _, r, r' => by cases r; cases r'; rfl
  | .list xs, d', v, _, _, n, r, r' => by
    cases r with
    | list h1 h2 h3 h4 =>
      cases r' with
      | list g1 g2 g3 g4 =>
        rw [h1] at g1; cases g1
        rw [h3] at g3; cases g3
        rw [reads_ones xs _ _ _ _ (by simpa [noDt] using n) h4 g4]
      | tuple g1 g2 g3 g4 => rw [h1] at g1; cases g1; rw [h2] at g2; exact absurd (Value.type.inj g2) (by decide)
      | dict g1 g2 g3 g4 => rw [h1] at g1; cases g1; rw [h2] at g2; exact absurd (Value.type.inj g2) (by decide)
  | .tuple xs, d', v, _, _, n, r, r' => by
    cases r with
    | tuple h1 h2 h3 h4 =>
      cases r' with
      | tuple g1 g2 g3 g4 =>
        rw [h1] at g1; cases g1
        rw [h3] at g3; cases g3
        rw [reads_ones xs _ _ _ _ (by simpa [noDt] using n) h4 g4]
      | list g1 g2 g3 g4 => rw [h1] at g1; cases g1; rw [h2] at g2; exact absurd (Value.type.inj g2) (by decide)
      | dict g1 g2 g3 g4 => rw [h1] at g1; cases g1; rw [h2] at g2; exact absurd (Value.type.inj g2) (by decide)
  | .dict _, _, _, _, _, n, _, _ => by simp [noDt] at n
theorem reads_ones {h : Heap} : ∀ (ds ds' : List PyData) (vs : List Value) (as as' : List Addr), noDs ds = true → ReadsAll h vs ds as → ReadsAll h vs ds' as' → ds = ds'
  | [], _, _, _, _, _, r, r' => by cases r; cases r'; rfl
  | d :: ds, _, _, _, _, n, r, r' => by
    rw [noDs, Bool.and_eq_true] at n
    cases r with
    | cons r1 r2 =>
      cases r' with
      | cons q1 q2 => rw [reads_one d _ _ _ _ n.1 r1 q1, reads_ones ds _ _ _ _ n.2 r2 q2]
end
theorem reads_at {h : Heap} : ∀ {ds : List PyData} {vs : List Value} {as : List Addr} {i : Nat} {v : Value}, ReadsAll h vs ds as → vs[i]? = some v → ∃ d as, ds[i]? = some d ∧ Reads h v d as
  | [], _, _, i, v, r, e => by cases r; simp at e
  | d :: ds, _, _, i, v, r, e => by
    cases r with
    | cons r1 r2 =>
      cases i with
      | zero => simp at e; subst e; exact ⟨d, _, rfl, r1⟩
      | succ i => simp at e; obtain ⟨d', as, a, b⟩ := reads_at r2 e; exact ⟨d', as, by simpa using a, b⟩
theorem noDs_at : ∀ {ds : List PyData} {i : Nat} {d : PyData}, noDs ds = true → ds[i]? = some d → noDt d = true
  | [], _, _, _, e => by simp at e
  | x :: xs, i, d, n, e => by
    rw [noDs, Bool.and_eq_true] at n
    cases i with
    | zero => simp at e; subst e; exact n.1
    | succ i => exact noDs_at n.2 (by simpa using e)
/-- what is read of a list or a tuple -/
def rdS (M : Mem) : D → Option (List D)
  | .tup xs => some xs
  | .obj a => rdL M a
  | _ => none
def icodes (i : Int) : List Nat := (PySem.Str.ofString (toString i)).cps.toList
def biS : BI → RLD
  | .len, ds, M, Q => match ds with
    | [.str l] => l.length ≤ big ∧ Q (.int l.length) M
    | [d] => match rdS M d with
      | some xs => Q (.int xs.length) M
      | none => False
    | _ => False
  | .int, ds, M, Q => match ds with
    | [.int i] => Q (.int i) M
    | [.bl b] => Q (.int (if b then 1 else 0)) M
    | [.str l] => match PySem.intText? (S l) with
      | some n => l.length ≤ 640 ∧ Q (.int n) M
      | none => False
    | _ => False
  | .str, ds, M, Q => match ds with
    | [.int i] => i.natAbs.log2 < 1920 ∧ Q (.str (icodes i)) M
    | [.str l] => Q (.str l) M
    | _ => False
  | .abs, ds, M, Q => match ds with
    | [.int i] => Q (.int (if i < 0 then -i else i)) M
    | _ => False
  | .min, ds, M, Q => match ds with
    | [.int i, .int j] => Q (.int (if j < i then j else i)) M
    | [.obj a] => match rdL M a with
      | some xs => match xs.mapM asInt with
        | some (n :: ns) => Q (.int (ns.foldl min n)) M
        | _ => match xs.mapM (toP 60 M) with
          | some (p :: ps) => PySem.W.AlikeAll (p :: ps) ∧ noDs (p :: ps) = true ∧ ∀ (i : Nat) (d : D), xs[i]? = some d → toP 60 M d = some (PySem.W.minD p ps) → Q d M
          | _ => False
      | none => False
    | _ => False
  | .max, ds, M, Q => match ds with
    | [.int i, .int j] => Q (.int (if j > i then j else i)) M
    | [.obj a] => match rdL M a with
      | some xs => match xs.mapM asInt with
        | some (n :: ns) => Q (.int (ns.foldl max n)) M
        | _ => False
      | none => False
    | _ => False
  | .sum, ds, M, Q => match ds with
    | [.obj a] => match rdL M a with
      | some xs => match xs.mapM asInt with
        | some ns => Q (.int ns.sum) M
        | _ => False
      | none => False
    | _ => False
  | .any, ds, M, Q => match ds with
    | [.obj a] => match rdL M a with
      | some xs => match xs.mapM asBl with
        | some bs => Q (.bl (bs.any id)) M
        | _ => False
      | none => False
    | _ => False
  | .all, ds, M, Q => match ds with
    | [.obj a] => match rdL M a with
      | some xs => match xs.mapM asBl with
        | some bs => Q (.bl (bs.all id)) M
        | _ => False
      | none => False
    | _ => False
  | .sorted, ds, M, Q => match ds with
    | [.obj a] => match rdL M a with
      | some xs => match xs.mapM asInt with
        | some ns => ∀ p, M p = none → Q (.obj p) (mup M p (.lst ((isort ns).map .int)))
        | _ => False
      | none => False
    | _ => False
  | .list, ds, M, Q => match ds with
    | [d] => match rdS M d with
      | some xs => ∀ p, M p = none → Q (.obj p) (mup M p (.lst xs))
      | none => False
    | _ => False
  | .tuple, ds, M, Q => match ds with
    | [d] => match rdS M d with
      | some xs => Q (.tup xs) M
      | none => False
    | _ => False
  | .ord, ds, M, Q => match ds with
    | [.str [c]] => Q (.int (c : Nat)) M
    | _ => False

section
variable {X : Cx} {G : Cfg}
theorem rep1 {K : PySem.W.Frag} {H : Hp} {d : D} {vs : List V} (r : RepL K H [d] vs) : ∃ v, vs = [v] ∧ RepD K H d v := by
  obtain ⟨v, ws, rfl, r1, r2⟩ := RepL.cons.mp r
  rw [RepL.nil] at r2; subst r2
  exact ⟨v, rfl, r1⟩
theorem rep2 {K : PySem.W.Frag} {H : Hp} {d e : D} {vs : List V} (r : RepL K H [d, e] vs) : ∃ v u, vs = [v, u] ∧ RepD K H d v ∧ RepD K H e u := by
  obtain ⟨v, ws, rfl, r1, r2⟩ := RepL.cons.mp r
  obtain ⟨u, rfl, r3⟩ := rep1 r2
  exact ⟨v, u, rfl, r1, r3⟩
theorem rdS_ok {H : Hp} {M : Mem} {d : D} {v : V} {xs : List D} (hK : X.K = G.K) (m : RepM G H M) (r : RepD G.K H d v) (e : rdS M d = some xs) : ∃ p vs, v = .ref p ∧ (SqL X.K H p vs ∨ SqT X.K H p vs) ∧ RepL G.K H xs vs := by
  cases d with
  | tup ys =>
    cases e
    obtain ⟨p, vs, rfl, hp, rp⟩ := RepD.tup.mp r
    exact ⟨p, vs, rfl, .inr (by rw [hK]; exact hp), rp⟩
  | obj a =>
    rw [RepD.obj] at r; subst r
    obtain ⟨vs, hp, rp⟩ := rdL_ok m e
    exact ⟨a, vs, rfl, .inl (by rw [hK]; exact hp), rp⟩
  | _ => cases e
theorem foldl_min_mem : ∀ (ns : List Int) (n : Int), ns.foldl min n ∈ n :: ns
  | [], n => by simp
  | m :: ns, n => by
    rw [List.foldl_cons]
    have := foldl_min_mem ns (min n m)
    simp only [List.mem_cons] at this ⊢
    rcases this with h | h
    · rcases Int.le_total n m with q | q
      · left; rw [h]; exact Int.min_eq_left q
      · right; left; rw [h]; exact Int.min_eq_right q
    · exact .inr (.inr h)
theorem foldl_min_le : ∀ (ns : List Int) (n y : Int), y ∈ n :: ns → ns.foldl min n ≤ y
  | [], n, y, h => by simp at h; simp [h]
  | m :: ns, n, y, h => by
    rw [List.foldl_cons]
    simp only [List.mem_cons] at h
    have h1 := foldl_min_le ns (min n m) (min n m) List.mem_cons_self
    rcases h with h | h | h
    · subst h; exact Int.le_trans h1 (Int.min_le_left ..)
    · subst h; exact Int.le_trans h1 (Int.min_le_right ..)
    · exact foldl_min_le ns _ y (List.mem_cons_of_mem _ h)
theorem foldl_max_mem : ∀ (ns : List Int) (n : Int), ns.foldl max n ∈ n :: ns
  | [], n => by simp
  | m :: ns, n => by
    rw [List.foldl_cons]
    have := foldl_max_mem ns (max n m)
    simp only [List.mem_cons] at this ⊢
    rcases this with h | h
    · rcases Int.le_total n m with q | q
      · right; left; rw [h]; exact Int.max_eq_right q
      · left; rw [h]; exact Int.max_eq_left q
    · exact .inr (.inr h)
theorem foldl_max_le : ∀ (ns : List Int) (n y : Int), y ∈ n :: ns → y ≤ ns.foldl max n
  | [], n, y, h => by simp at h; simp [h]
  | m :: ns, n, y, h => by
    rw [List.foldl_cons]
    simp only [List.mem_cons] at h
    have h1 := foldl_max_le ns (max n m) (max n m) List.mem_cons_self
    rcases h with h | h | h
    · subst h; exact Int.le_trans (Int.le_max_left ..) h1
    · subst h; exact Int.le_trans (Int.le_max_right ..) h1
    · exact foldl_max_le ns _ y (List.mem_cons_of_mem _ h)

theorem cd_len (hK : X.K = G.K) : CallR X (.builtin "len") (liftC G (biS .len)) := by
  intro pins s σ H xs us Q I r h
  obtain ⟨ds, M, Q0, rd, rm, hr, ok⟩ := h
  simp only [biS] at hr
  split at hr
  · obtain ⟨v, rfl, r1⟩ := rep1 rd
    rw [RepD.str] at r1; subst r1
    exact call_len_str pins s σ H _ us Q I r ⟨_, rfl, by rw [S_len, big_eq]; exact hr.1, ok _ _ _ _ hr.2 (RepD.int.mpr (by rw [S_len])) rm Step.rfl'⟩
  · obtain ⟨v, rfl, r1⟩ := rep1 rd
    split at hr
    · rename_i ys e
      obtain ⟨p, vs, rfl, hp, rp⟩ := rdS_ok hK rm r1 e
      exact call_len_seq pins s σ H _ us Q I r ⟨p, vs, rfl, hp, ok _ _ _ _ hr (RepD.int.mpr (by rw [rp.length])) rm Step.rfl'⟩
    · exact hr.elim
  · exact hr.elim
theorem cd_int : CallR X (.type "int") (liftC G (biS .int)) := by
  intro pins s σ H xs us Q I r h
  obtain ⟨ds, M, Q0, rd, rm, hr, ok⟩ := h
  simp only [biS] at hr
  split at hr
  · obtain ⟨v, rfl, r1⟩ := rep1 rd
    rw [RepD.int] at r1; subst r1
    exact call_int1 pins s σ H _ us Q I r (.inl ⟨_, rfl, ok _ _ _ _ hr (RepD.int.mpr rfl) rm Step.rfl'⟩)
  · obtain ⟨v, rfl, r1⟩ := rep1 rd
    rw [RepD.bl] at r1; subst r1
    exact call_int1 pins s σ H _ us Q I r (.inr ⟨_, rfl, ok _ _ _ _ hr (RepD.int.mpr rfl) rm Step.rfl'⟩)
  · obtain ⟨v, rfl, r1⟩ := rep1 rd
    rw [RepD.str] at r1; subst r1
    split at hr
    · rename_i n e
      exact call_int_str pins s σ H _ us Q I r ⟨_, n, rfl, e, by rw [S_len]; exact hr.1, ok _ _ _ _ hr.2 (RepD.int.mpr rfl) rm Step.rfl'⟩
    · exact hr.elim
  · exact hr.elim
theorem cd_str : CallR X (.type "str") (liftC G (biS .str)) := by
  intro pins s σ H xs us Q I r h
  obtain ⟨ds, M, Q0, rd, rm, hr, ok⟩ := h
  simp only [biS] at hr
  split at hr
  · obtain ⟨v, rfl, r1⟩ := rep1 rd
    rw [RepD.int] at r1; subst r1
    exact call_str_int pins s σ H _ us Q I r ⟨_, rfl, hr.1, ok _ _ _ _ hr.2 (RepD.str.mpr (by rw [icodes, S_list])) rm Step.rfl'⟩
  · obtain ⟨v, rfl, r1⟩ := rep1 rd
    rw [RepD.str] at r1; subst r1
    exact SkE.call_str_str pins s σ H _ us Q I r ⟨_, rfl, ok _ _ _ _ hr (RepD.str.mpr rfl) rm Step.rfl'⟩
  · exact hr.elim
theorem cd_abs : CallR X (.builtin "abs") (liftC G (biS .abs)) := by
  intro pins s σ H xs us Q I r h
  obtain ⟨ds, M, Q0, rd, rm, hr, ok⟩ := h
  simp only [biS] at hr
  split at hr
  · obtain ⟨v, rfl, r1⟩ := rep1 rd
    rw [RepD.int] at r1; subst r1
    exact call_abs pins s σ H _ us Q I r ⟨_, rfl, ok _ _ _ _ hr (RepD.int.mpr rfl) rm Step.rfl'⟩
  · exact hr.elim
theorem cd_ord : CallR X (.builtin "ord") (liftC G (biS .ord)) := by
  intro pins s σ H xs us Q I r h
  obtain ⟨ds, M, Q0, rd, rm, hr, ok⟩ := h
  simp only [biS] at hr
  split at hr
  · rename_i c
    obtain ⟨v, rfl, r1⟩ := rep1 rd
    rw [RepD.str] at r1; subst r1
    exact call_ord pins s σ H _ us Q I r ⟨_, rfl, rfl, ok _ _ _ _ hr (RepD.int.mpr rfl) rm Step.rfl'⟩
  · exact hr.elim
theorem sumI_ok (hK : X.K = G.K) {H : Hp} {M : Mem} {a : Addr} {xs : List D} {ns : List Int} (m : RepM G H M) (e : rdL M a = some xs) (e2 : xs.mapM asInt = some ns) : SqL X.K H a (ns.map V.int) := by
  obtain ⟨vs, hp, rp⟩ := rdL_ok m e
  rw [asInt_eq e2, RepL.ints] at rp; subst rp
  rw [hK]; exact hp
theorem blsI_ok (hK : X.K = G.K) {H : Hp} {M : Mem} {a : Addr} {xs : List D} {ns : List Bool} (m : RepM G H M) (e : rdL M a = some xs) (e2 : xs.mapM asBl = some ns) : SqL X.K H a (ns.map V.bl) := by
  obtain ⟨vs, hp, rp⟩ := rdL_ok m e
  rw [asBl_eq e2, RepL.bls] at rp; subst rp
  rw [hK]; exact hp
theorem cd_sum (hK : X.K = G.K) (hc : X.calm = true) : CallR X (.builtin "sum") (liftC G (biS .sum)) := by
  intro pins s σ H xs us Q I r h
  obtain ⟨ds, M, Q0, rd, rm, hr, ok⟩ := h
  simp only [biS] at hr
  split at hr
  · rename_i a
    obtain ⟨v, rfl, r1⟩ := rep1 rd
    rw [RepD.obj] at r1; subst r1
    split at hr
    · rename_i ys e
      split at hr
      · rename_i ns e2
        exact cr_sum hc pins s σ H _ us Q I r ⟨a, ns, rfl, sumI_ok hK rm e e2, ok _ _ _ _ hr (RepD.int.mpr rfl) rm Step.rfl'⟩
      · exact hr.elim
    · exact hr.elim
  · exact hr.elim
theorem cd_any (hK : X.K = G.K) (hc : X.calm = true) : CallR X (.builtin "any") (liftC G (biS .any)) := by
  intro pins s σ H xs us Q I r h
  obtain ⟨ds, M, Q0, rd, rm, hr, ok⟩ := h
  simp only [biS] at hr
  split at hr
  · rename_i a
    obtain ⟨v, rfl, r1⟩ := rep1 rd
    rw [RepD.obj] at r1; subst r1
    split at hr
    · rename_i ys e
      split at hr
      · rename_i ns e2
        exact cr_any hc pins s σ H _ us Q I r ⟨a, ns, rfl, blsI_ok hK rm e e2, ok _ _ _ _ hr (RepD.bl.mpr rfl) rm Step.rfl'⟩
      · exact hr.elim
    · exact hr.elim
  · exact hr.elim
theorem cd_all (hK : X.K = G.K) (hc : X.calm = true) : CallR X (.builtin "all") (liftC G (biS .all)) := by
  intro pins s σ H xs us Q I r h
  obtain ⟨ds, M, Q0, rd, rm, hr, ok⟩ := h
  simp only [biS] at hr
  split at hr
  · rename_i a
    obtain ⟨v, rfl, r1⟩ := rep1 rd
    rw [RepD.obj] at r1; subst r1
    split at hr
    · rename_i ys e
      split at hr
      · rename_i ns e2
        exact cr_all hc pins s σ H _ us Q I r ⟨a, ns, rfl, blsI_ok hK rm e e2, ok _ _ _ _ hr (RepD.bl.mpr rfl) rm Step.rfl'⟩
      · exact hr.elim
    · exact hr.elim
  · exact hr.elim
theorem cd_sorted (hK : X.K = G.K) : CallR X (.builtin "sorted") (liftC G (biS .sorted)) := by
  intro pins s σ H xs us Q I r h
  obtain ⟨ds, M, Q0, rd, rm, hr, ok⟩ := h
  simp only [biS] at hr
  split at hr
  · rename_i a
    obtain ⟨v, rfl, r1⟩ := rep1 rd
    rw [RepD.obj] at r1; subst r1
    split at hr
    · rename_i ys e
      split at hr
      · rename_i ns e2
        refine cr_sortedI pins s σ H _ us Q I r ⟨a, ns, rfl, sumI_ok hK rm e e2, fun ms p h1 h2 hp => ?_⟩
        rw [isort_unique h1 h2]
        exact ok _ _ _ _ (hr p (rm.none hp)) (RepD.obj.mpr rfl) (new_lst rm hp (RepL.ints.mpr rfl)) (Step.new' hp)
      · exact hr.elim
    · exact hr.elim
  · exact hr.elim
theorem cd_list (hK : X.K = G.K) : CallR X (.type "list") (liftC G (biS .list)) := by
  intro pins s σ H xs us Q I r h
  obtain ⟨ds, M, Q0, rd, rm, hr, ok⟩ := h
  simp only [biS] at hr
  split at hr
  · obtain ⟨v, rfl, r1⟩ := rep1 rd
    split at hr
    · rename_i ys e
      obtain ⟨p, vs, rfl, hp, rp⟩ := rdS_ok hK rm r1 e
      exact call_list_of pins s σ H _ us Q I r ⟨p, vs, rfl, hp, fun l hl => ok _ _ _ _ (hr l (rm.none hl)) (RepD.obj.mpr rfl) (new_lst rm hl rp) (Step.new' hl)⟩
    · exact hr.elim
  · exact hr.elim
theorem cd_tuple (hK : X.K = G.K) : CallR X (.type "tuple") (liftC G (biS .tuple)) := by
  intro pins s σ H xs us Q I r h
  obtain ⟨ds, M, Q0, rd, rm, hr, ok⟩ := h
  simp only [biS] at hr
  split at hr
  · obtain ⟨v, rfl, r1⟩ := rep1 rd
    split at hr
    · rename_i ys e
      obtain ⟨p, vs, rfl, hp, rp⟩ := rdS_ok hK rm r1 e
      refine call_tuple_of pins s σ H _ us Q I r ⟨p, vs, rfl, ?_⟩
      rcases hp with hp | hp
      · exact .inl ⟨hp, fun l hl => ok _ _ _ _ hr (new_tup hl rp) (rm.skip hl) (Step.hid hl)⟩
      · exact .inr ⟨hp, ok _ _ _ _ hr (RepD.tup.mpr ⟨p, vs, rfl, by rw [← hK]; exact hp, rp⟩) rm Step.rfl'⟩
    · exact hr.elim
  · exact hr.elim
theorem mapM_at {f : D → Option PyData} : ∀ {xs : List D} {ps : List PyData} {i : Nat} {d : D}, xs.mapM f = some ps → xs[i]? = some d → f d = ps[i]?
  | [], _, _, _, _, e => by simp at e
  | x :: xs, ps, i, d, h, e => by
    rw [List.mapM_cons] at h
    cases e1 : f x with
    | none => rw [e1] at h; cases h
    | some p =>
      rw [e1] at h
      cases e2 : xs.mapM f with
      | none => rw [e2] at h; cases h
      | some qs =>
        rw [e2] at h
        cases h
        cases i with
        | zero => simp at e; subst e; simpa using e1
        | succ i => simp at e; simpa using mapM_at e2 e
theorem vals_at : ∀ {vs : List V} {us : List Value} {i : Nat} {u : Value}, Vals vs us → us[i]? = some u → ∃ v, vs[i]? = some v ∧ RelV v u
  | [], _, _, _, h, e => by cases h; simp at e
  | v :: vs, _, i, u, h, e => by
    cases h with
    | cons h1 h2 =>
      cases i with
      | zero => simp at e; subst e; exact ⟨v, rfl, h1⟩
      | succ i => simp at e; obtain ⟨w, a, b⟩ := vals_at h2 e; exact ⟨w, by simpa using a, b⟩
theorem cd_min (hK : X.K = G.K) (hc : X.calm = true) (hu : X.A.units + 64 < cLine) : CallR X (.builtin "min") (liftC G (biS .min)) := by
  intro pins s σ H xs us Q I r h
  obtain ⟨ds, M, Q0, rd, rm, hr, ok⟩ := h
  simp only [biS] at hr
  split at hr
  · obtain ⟨v, u, rfl, r1, r2⟩ := rep2 rd
    rw [RepD.int] at r1 r2; subst r1 r2
    exact call_min2 hc pins s σ H _ us Q I r ⟨_, _, rfl, ok _ _ _ _ hr (RepD.int.mpr rfl) rm Step.rfl'⟩
  · rename_i a
    obtain ⟨v, rfl, r1⟩ := rep1 rd
    rw [RepD.obj] at r1; subst r1
    split at hr
    · rename_i ys e
      split at hr
      · rename_i n ns e2
        refine cr_min hc pins s σ H _ us Q I r ⟨a, n :: ns, rfl, sumI_ok hK rm e e2, by simp, fun m hm hy => ?_⟩
        have em : m = ns.foldl min n := by
          have h1 := hy _ (foldl_min_mem ns n)
          have h2 := foldl_min_le ns n m hm
          omega
        subst em
        exact ok _ _ _ _ hr (RepD.int.mpr rfl) rm Step.rfl'
      · split at hr
        · rename_i p ps e2
          obtain ⟨al, nd, hq⟩ := hr
          obtain ⟨vs, hs, rl⟩ := rdL_ok rm e
          rw [← hK] at hs
          obtain ⟨its, rv, hl, _⟩ := I.list hs
          obtain ⟨dp, dd⟩ := toP_all (toP_ok rm 60) ys vs _ rl e2
          rw [← hK] at dp
          obtain ⟨as, ra⟩ := Dp.readsAll I _ _ _ dp rv
          rw [Vals.ref1 r]
          refine PySem.W.min_list_data (I.ok.hd hc) hl.isList ra al (by omega) fun i v h' tk bs hv hr' hk => ?_
          have hv' : its[i]? = some v := by simpa using hv
          obtain ⟨w, hw, rw'⟩ := vals_at rv hv'
          obtain ⟨d, hd, rd'⟩ := rl.getV hw
          obtain ⟨q, as', hq1, hq2⟩ := reads_at ra hv'
          have hq3 := PySem.W.reads_keeps hk hq2
          have eqm := reads_one q _ _ _ _ (noDs_at nd hq1) hq3 hr'
          exact ⟨w, H, I.kept hk, rw', ok _ _ _ _ (hq i d hd (by rw [mapM_at e2 hd, hq1, eqm])) rd' rm Step.rfl'⟩
        · exact hr.elim
    · exact hr.elim
  · exact hr.elim
theorem cd_max (hK : X.K = G.K) (hc : X.calm = true) : CallR X (.builtin "max") (liftC G (biS .max)) := by
  intro pins s σ H xs us Q I r h
  obtain ⟨ds, M, Q0, rd, rm, hr, ok⟩ := h
  simp only [biS] at hr
  split at hr
  · obtain ⟨v, u, rfl, r1, r2⟩ := rep2 rd
    rw [RepD.int] at r1 r2; subst r1 r2
    exact call_max2 hc pins s σ H _ us Q I r ⟨_, _, rfl, ok _ _ _ _ hr (RepD.int.mpr rfl) rm Step.rfl'⟩
  · rename_i a
    obtain ⟨v, rfl, r1⟩ := rep1 rd
    rw [RepD.obj] at r1; subst r1
    split at hr
    · rename_i ys e
      split at hr
      · rename_i n ns e2
        refine cr_max hc pins s σ H _ us Q I r ⟨a, n :: ns, rfl, sumI_ok hK rm e e2, by simp, fun m hm hy => ?_⟩
        have em : m = ns.foldl max n := by
          have h1 := hy _ (foldl_max_mem ns n)
          have h2 := foldl_max_le ns n m hm
          omega
        subst em
        exact ok _ _ _ _ hr (RepD.int.mpr rfl) rm Step.rfl'
      · exact hr.elim
    · exact hr.elim
  · exact hr.elim

/-! ### methods -/
inductive BM where
  | append | extend | pop | popAt | insert | index | join | icount
  deriving DecidableEq
def BM.name : BM → Str
  | .append => "append" | .extend => "extend" | .pop => "pop" | .popAt => "pop" | .insert => "insert" | .index => "index" | .join => "join" | .icount => "count"
def BM.ty : BM → String
  | .append | .extend | .pop | .popAt | .insert | .index | .icount => "list"
  | .join => "str"
def joinC (sep : List Nat) : List (List Nat) → List Nat
  | [] => []
  | [x] => x
  | x :: y :: r => x ++ sep ++ joinC sep (y :: r)
/-- the place of the first item that equals -/
def idxF (xs : List D) (d : D) : Option Nat := xs.findIdx? fun y => eqF y d
def bmS : BM → RMD
  | .append, d, ds, M, Q => match d, ds with
    | .obj a, [x] => match M a with
      | some (.lst xs) => xs.length < big ∧ Q .non (mup M a (.lst (xs ++ [x])))
      | _ => False
    | _, _ => False
  | .extend, d, ds, M, Q => match d, ds with
    | .obj a, [.obj b] => match M a, M b with
      | some (.lst xs), some (.lst ys) => xs.length + ys.length ≤ big ∧ Q .non (mup M a (.lst (xs ++ ys)))
      | _, _ => False
    | _, _ => False
  | .pop, d, ds, M, Q => match d, ds with
    | .obj a, [] => match M a with
      | some (.lst xs) => match xs.getLast? with
        | some x => Q x (mup M a (.lst xs.dropLast))
        | none => False
      | _ => False
    | _, _ => False
  | .popAt, d, ds, M, Q => match d, ds with
    | .obj a, [.int i] => match M a with
      | some (.lst xs) => match ixN xs.length i with
        | some j => match xs[j]? with
          | some x => Q x (mup M a (.lst (xs.eraseIdx j)))
          | none => False
        | none => False
      | _ => False
    | _, _ => False
  | .insert, d, ds, M, Q => match d, ds with
    | .obj a, [.int i, x] => match M a with
      | some (.lst xs) => xs.length < big ∧ 0 ≤ i ∧ i < 2 ^ 63 ∧ Q .non (mup M a (.lst (xs.take i.toNat ++ [x] ++ xs.drop i.toNat)))
      | _ => False
    | _, _ => False
  | .index, d, ds, M, Q => match d, ds with
    | .obj a, [x] => match rdL M a with
      | some xs => isFlat x = true ∧ xs.all isFlat = true ∧ match idxF xs x with
        | some j => Q (.int j) M
        | none => False
      | none => False
    | _, _ => False
  | .join, d, ds, M, Q => match d, ds with
    | .str sep, [e] => match rdS M e with
      | some xs => match xs.mapM asStr with
        | some ys => (ys.map (·.length)).sum + ys.length * sep.length ≤ 16777216 ∧ Q (.str (joinC sep ys)) M
        | none => False
      | none => False
    | _, _ => False
  | .icount, d, ds, M, Q => match d, ds with
    | .obj a, [.int k] => match rdL M a with
      | some xs => match xs.mapM asInt with
        | some ns => Q (.int (ns.count k : Nat)) M
        | none => False
      | none => False
    | .obj a, [.bl k] => match rdL M a with
      | some xs => match xs.mapM asBl with
        | some ns => Q (.int (ns.count k : Nat)) M
        | none => False
      | none => False
    | _, _ => False

theorem md_append : MtR X "list.append" (liftM G (bmS .append)) := by
  intro pins s σ H x xs v us Q I rx rs h
  obtain ⟨d, ds, M, Q0, rd, rl, rm, hr, ok⟩ := h
  simp only [bmS] at hr
  split at hr
  · rename_i a y
    rw [RepD.obj] at rd; subst rd
    obtain ⟨w, rfl, rw'⟩ := rep1 rl
    split at hr
    · rename_i zs e
      obtain ⟨vs, h1, r1⟩ := lst_ok rm e
      exact mt_append pins s σ H _ _ v us Q I rx rs ⟨a, vs, w, rfl, rfl, h1, by rw [← r1.length, big_eq]; exact hr.1, ok _ _ _ _ hr.2 (RepD.non.mpr rfl) (put_lst rm h1 (r1.app (RepL.one rw'))) (Step.put h1 trivial e)⟩
    · exact hr.elim
  · exact hr.elim
theorem md_extend : MtR X "list.extend" (liftM G (bmS .extend)) := by
  intro pins s σ H x xs v us Q I rx rs h
  obtain ⟨d, ds, M, Q0, rd, rl, rm, hr, ok⟩ := h
  simp only [bmS] at hr
  split at hr
  · rename_i a b
    rw [RepD.obj] at rd; subst rd
    obtain ⟨w, rfl, rw'⟩ := rep1 rl
    rw [RepD.obj] at rw'; subst rw'
    split at hr
    · rename_i ys zs e1 e2
      obtain ⟨vs, h1, r1⟩ := lst_ok rm e1
      obtain ⟨ws, h2, r2⟩ := lst_ok rm e2
      exact mt_extend pins s σ H _ _ v us Q I rx rs ⟨a, b, vs, ws, rfl, rfl, h1, h2, by rw [← r1.length, ← r2.length, big_eq]; exact hr.1, ok _ _ _ _ hr.2 (RepD.non.mpr rfl) (put_lst rm h1 (r1.app r2)) (Step.put h1 trivial e1)⟩
    · exact hr.elim
  · exact hr.elim
theorem md_pop : MtR X "list.pop" (liftM G (bmS .pop)) := by
  intro pins s σ H x xs v us Q I rx rs h
  obtain ⟨d, ds, M, Q0, rd, rl, rm, hr, ok⟩ := h
  simp only [bmS] at hr
  split at hr
  · rename_i a
    rw [RepD.obj] at rd; subst rd
    rw [RepL.nil] at rl; subst rl
    split at hr
    · rename_i zs e
      split at hr
      · rename_i y e2
        obtain ⟨vs, h1, r1⟩ := lst_ok rm e
        rw [List.getLast?_eq_getElem?] at e2
        obtain ⟨w, e3, r3⟩ := r1.get e2
        exact mt_pop pins s σ H _ _ v us Q I rx rs ⟨a, vs, w, rfl, rfl, h1, by rw [← r1.length]; exact e3, ok _ _ _ _ hr (RepD.keep (keep_put h1) _ _ r3) (put_lst rm h1 r1.dropLast) (Step.put h1 trivial e)⟩
      · exact hr.elim
    · exact hr.elim
  · exact hr.elim
theorem md_popAt : MtR X "list.pop" (liftM G (bmS .popAt)) := by
  intro pins s σ H x xs v us Q I rx rs h
  obtain ⟨d, ds, M, Q0, rd, rl, rm, hr, ok⟩ := h
  simp only [bmS] at hr
  split at hr
  · rename_i a i
    rw [RepD.obj] at rd; subst rd
    obtain ⟨w, rfl, rw'⟩ := rep1 rl
    rw [RepD.int] at rw'; subst rw'
    split at hr
    · rename_i zs e
      split at hr
      · rename_i j ej
        split at hr
        · rename_i y e2
          obtain ⟨vs, h1, r1⟩ := lst_ok rm e
          obtain ⟨w, e3, r3⟩ := r1.get e2
          obtain ⟨q1, q2, q3, q4⟩ := ixN_seq ej
          have hz : zs.length ≤ 16777216 := by
            obtain ⟨z, _⟩ := (show ObjOk X.prog X.w H s.heap a (.lst vs) from I.hok a _ h1)
            rw [r1.length]
            have := sizeLine_eq
            omega
          exact mt_popAt pins s σ H _ _ v us Q I rx rs ⟨a, vs, i, j, w, rfl, rfl, h1, by omega, by omega, by rw [← r1.length]; exact q1, e3, ok _ _ _ _ hr (RepD.keep (keep_put h1) _ _ r3) (put_lst rm h1 (r1.erase j)) (Step.put h1 trivial e)⟩
        · exact hr.elim
      · exact hr.elim
    · exact hr.elim
  · exact hr.elim
theorem md_insert : MtR X "list.insert" (liftM G (bmS .insert)) := by
  intro pins s σ H x xs v us Q I rx rs h
  obtain ⟨d, ds, M, Q0, rd, rl, rm, hr, ok⟩ := h
  simp only [bmS] at hr
  split at hr
  · rename_i a i y
    rw [RepD.obj] at rd; subst rd
    obtain ⟨u1, u2, rfl, r1, r2⟩ := rep2 rl
    rw [RepD.int] at r1; subst r1
    split at hr
    · rename_i zs e
      obtain ⟨vs, h1, r1⟩ := lst_ok rm e
      exact mt_insert pins s σ H _ _ v us Q I rx rs ⟨a, vs, i, u2, rfl, rfl, h1, by rw [← r1.length, big_eq]; exact hr.1, hr.2.1, hr.2.2.1, ok _ _ _ _ hr.2.2.2 (RepD.non.mpr rfl) (put_lst rm h1 (((r1.take _).app (RepL.one r2)).app (r1.drop _))) (Step.put h1 trivial e)⟩
    · exact hr.elim
  · exact hr.elim
theorem md_index (hK : X.K = G.K) : MtR X "list.index" (liftM G (bmS .index)) := by
  intro pins s σ H x xs v us Q I rx rs h
  obtain ⟨d, ds, M, Q0, rd, rl, rm, hr, ok⟩ := h
  simp only [bmS] at hr
  split at hr
  · rename_i a y
    rw [RepD.obj] at rd; subst rd
    obtain ⟨w, rfl, rw'⟩ := rep1 rl
    split at hr
    · rename_i zs e
      obtain ⟨fy, fz, hr⟩ := hr
      split at hr
      · rename_i j ej
        obtain ⟨vs, h1, r1⟩ := rdL_ok rm e
        obtain ⟨f1, f2⟩ := flat_rep rw' fy
        obtain ⟨f3, _⟩ := flat_all fy r1 fz
        unfold idxF at ej
        rw [List.findIdx?_eq_some_iff_getElem] at ej
        obtain ⟨hj, pj, nj⟩ := ej
        have e1 : zs[j]? = some zs[j] := List.getElem?_eq_getElem hj
        obtain ⟨z, ez, rz⟩ := r1.get e1
        have ff : ∀ (m : Nat) (hm : m < zs.length), isFlat zs[m] = true := fun m hm => List.all_eq_true.mp fz _ (List.getElem_mem hm)
        refine mt_index pins s σ H _ _ v us Q I rx rs ⟨a, vs, w, j, z, rfl, rfl, by rw [hK]; exact h1, f1, f3, ez, ?_, fun m z' hm ez' => ?_, ok _ _ _ _ hr (RepD.int.mpr rfl) rm Step.rfl'⟩
        · rw [f2, (flat_rep rz (ff j hj)).2, eqF_eq (ff j hj) fy]; exact pj
        · obtain ⟨d', ed', rd'⟩ := r1.getV ez'
          have hm2 : m < zs.length := by omega
          rw [List.getElem?_eq_getElem hm2] at ed'
          cases ed'
          rw [f2, (flat_rep rd' (ff m hm2)).2, eqF_eq (ff m hm2) fy]
          have := nj m hm
          simpa using this
      · exact hr.elim
    · exact hr.elim
  · exact hr.elim
theorem join_S0 (sep : List Nat) : ∀ ys : List (List Nat), Str.join (S sep) (ys.map S) = S (joinC sep ys)
  | [] => rfl
  | [x] => rfl
  | x :: y :: r => by
    have e : Str.join (S sep) ((x :: y :: r).map S) = S x ++ S sep ++ Str.join (S sep) ((y :: r).map S) := rfl
    rw [e, join_S0 sep (y :: r), S_app, S_app]
    rfl
theorem join_S (sep : List Nat) (ys : List (List Nat)) : Txt.join (S sep) (ys.map S) = S (joinC sep ys) := by
  unfold Txt.join
  rw [StrLaws.glued_eq_join, join_S0]
theorem md_join (hK : X.K = G.K) : MtR X "str.join" (liftM G (bmS .join)) := by
  intro pins s σ H x xs v us Q I rx rs h
  obtain ⟨d, ds, M, Q0, rd, rl, rm, hr, ok⟩ := h
  simp only [bmS] at hr
  split at hr
  · rename_i sep e
    rw [RepD.str] at rd; subst rd
    obtain ⟨w, rfl, rw'⟩ := rep1 rl
    split at hr
    · rename_i zs e1
      split at hr
      · rename_i ys e2
        obtain ⟨p, vs, rfl, hp, rp⟩ := rdS_ok hK rm rw' e1
        rw [asStr_eq e2, RepL.strs] at rp; subst rp
        refine mt_join pins s σ H _ _ v us Q I rx rs ⟨_, p, ys.map S, rfl, rfl, hp, ?_, ok _ _ _ _ hr.2 (RepD.str.mpr (by rw [join_S])) rm Step.rfl'⟩
        have e3 : (ys.map S).map (fun z : Str => z.length) = ys.map (·.length) := by
          rw [List.map_map]
          exact List.map_congr_left fun y _ => S_len y
        rw [e3, List.length_map, S_len]
        exact hr.1
      · exact hr.elim
    · exact hr.elim
  · exact hr.elim
theorem countP_rel {uy : Value} {y : V} (ry : RelV y uy) (fy : flatV y = true) : ∀ {ys : List V} {its : List Value}, Vals ys its → ys.all flatV = true → its.countP (eqU y) = ys.countP fun z => eqV z y
  | [], _, r, _ => by cases r; rfl
  | z :: zs, _, r, f => by
    cases r with
    | cons r1 r2 =>
      rw [List.all_cons, Bool.and_eq_true] at f
      rw [List.countP_cons, List.countP_cons, countP_rel ry fy r2 f.2, eqU_of r1 f.1]
def rCntF (K : PySem.W.Frag) : V → List V → Hp → VK → Prop := fun x xs H Q => ∃ (a : Addr) (ys : List V) (y : V), x = V.ref a ∧ xs = [y] ∧ SqL K H a ys ∧ flatV y = true ∧ ys.all flatV = true ∧ Q (.int (ys.countP fun z => eqV z y : Nat)) H
theorem mt_countF : MtR X "list.count" (rCntF X.K) := by
  intro pins s σ H x xs v us Q I rx rxs h
  obtain ⟨a, ys, y, rfl, rfl, hs, fy, fys, q⟩ := h
  cases rx
  cases rxs with
  | cons ry rt =>
    rename_i uy ut
    cases rt
    obtain ⟨its, rv, ⟨⟨cls, dd, data, sl⟩, n, ho, hc, hdn, hd⟩, hlen⟩ := I.list hs
    simp only at hc hd
    subst hc hd
    refine call_meets PySem.F.slot_list_count ⟨_, ho, rfl⟩ PySem.F.entry_list_count (PySem.F.args_list_count_2 _ _)
      (SeqAt.list_countAt a its.toArray n dd sl uy (eqU y)) ⟨ho, fun u' hu' => mem_eqAt ry fy rv fys u' (by simpa using hu'), ?_⟩
    refine ⟨.int (ys.countP fun z => eqV z y : Nat), H, I.tok _, ⟨s.toks, ?_⟩, q⟩
    have := countP_rel ry fy rv fys
    show Value.int ((its.toArray.toList.countP (eqU y) : Nat) : Int) s.toks = _
    rw [← this]
theorem md_icount (hK : X.K = G.K) : MtR X "list.count" (liftM G (bmS .icount)) := by
  intro pins s σ H x xs v us Q I rx rs h
  obtain ⟨d, ds, M, Q0, rd, rl, rm, hr, ok⟩ := h
  simp only [bmS] at hr
  split at hr
  · rename_i a k
    rw [RepD.obj] at rd; subst rd
    obtain ⟨w, rfl, rw'⟩ := rep1 rl
    rw [RepD.int] at rw'; subst rw'
    split at hr
    · rename_i zs e
      split at hr
      · rename_i ns e2
        exact mt_lcount pins s σ H _ _ v us Q I rx rs ⟨a, ns, k, rfl, rfl, sumI_ok hK rm e e2, ok _ _ _ _ hr (RepD.int.mpr rfl) rm Step.rfl'⟩
      · exact hr.elim
    · exact hr.elim
  · rename_i a k
    rw [RepD.obj] at rd; subst rd
    obtain ⟨w, rfl, rw'⟩ := rep1 rl
    rw [RepD.bl] at rw'; subst rw'
    split at hr
    · rename_i zs e
      split at hr
      · rename_i ns e2
        obtain ⟨vs, h1, r1⟩ := rdL_ok rm e
        have ez := asBl_eq e2
        subst ez
        rw [RepL.bls] at r1; subst r1
        refine mt_countF pins s σ H _ _ v us Q I rx rs ⟨a, ns.map V.bl, .bl k, rfl, rfl, by rw [hK]; exact h1, rfl, by simp [flatV], ?_⟩
        have ec : (ns.map V.bl).countP (fun z => eqV z (V.bl k)) = ns.count k := by
          rw [List.countP_map, List.count]
          refine List.countP_congr fun x _ => ?_
          cases x <;> cases k <;> simp [eqV]
        rw [ec]
        exact ok _ _ _ _ hr (RepD.int.mpr rfl) rm Step.rfl'
      · exact hr.elim
    · exact hr.elim
  · exact hr.elim
end
end DL
set_option Elab.async false
set_option linter.all false
set_option maxRecDepth 100000
set_option maxHeartbeats 1000000
/-! DLK: dicts by data. -/
namespace DL
open PySem PySem.Spec PyProof.Rows L2

/-! ### data equal, computably -/
mutual
def eqD : D → D → Bool
  | .non, .non => true
  | .bl a, .bl b => a == b
  | .int a, .int b => decide (a = b)
  | .str a, .str b => decide (a = b)
  | .tup a, .tup b => eqDs a b
  | .obj a, .obj b => decide (a = b)
  | _, _ => false
def eqDs : List D → List D → Bool
  | [], [] => true
  | a :: as, b :: bs => eqD a b && eqDs as bs
  | _, _ => false
end
mutual
theorem eqD_eq : ∀ a b : D, eqD a b = true → a = b
  | .non, b, h => by cases b <;> simp_all [eqD]
  | .bl a, b, h => by cases b <;> simp_all [eqD]
  | .int a, b, h => by cases b <;> simp_all [eqD]
  | .str a, b, h => by cases b <;> simp_all [eqD]
  | .obj a, b, h => by cases b <;> simp_all [eqD]
  | .tup a, b, h => by
    cases b with
    | tup b => unfold eqD at h; rw [eqDs_eq a b h]
    | _ => simp_all [eqD]
theorem eqDs_eq : ∀ a b : List D, eqDs a b = true → a = b
  | [], b, h => by cases b <;> simp_all [eqDs]
  | a :: as, b, h => by
    cases b with
    | nil => simp_all [eqDs]
    | cons b bs =>
      unfold eqDs at h
      rw [Bool.and_eq_true] at h
      rw [eqD_eq a b h.1, eqDs_eq as bs h.2]
end
mutual
theorem eqD_rfl : ∀ a : D, eqD a a = true
  | .non => rfl
  | .bl a => by simp [eqD]
  | .int a => by simp [eqD]
  | .str a => by simp [eqD]
  | .obj a => by simp [eqD]
  | .tup a => by unfold eqD; exact eqDs_rfl a
theorem eqDs_rfl : ∀ a : List D, eqDs a a = true
  | [] => rfl
  | a :: as => by unfold eqDs; rw [eqD_rfl a, eqDs_rfl as]; rfl
end
theorem eqD_iff {a b : D} : eqD a b = true ↔ a = b := ⟨eqD_eq a b, fun h => h ▸ eqD_rfl a⟩
instance : DecidableEq D := fun a b => decidable_of_iff _ eqD_iff

/-! ### keys -/
mutual
theorem nkey_inj : ∀ (a b : D) (k : NestedKey), nkey a = some k → nkey b = some k → a = b
  | .non, b, k, h, g => by
    simp [nkey] at h; subst h
    cases b with
    | tup ds => simp [nkey] at g
    | _ => simp_all [nkey]
  | .int i, b, k, h, g => by
    simp [nkey] at h; subst h
    cases b with
    | tup ds => simp [nkey] at g
    | _ => simp_all [nkey]
  | .str l, b, k, h, g => by
    simp [nkey] at h; subst h
    cases b with
    | tup ds => simp [nkey] at g
    | str m => simp [nkey] at g; rw [S_inj g]
    | _ => simp_all [nkey]
  | .bl _, b, k, h, g => by simp [nkey] at h
  | .obj _, b, k, h, g => by simp [nkey] at h
  | .tup ds, b, k, h, g => by
    simp [nkey] at h
    obtain ⟨ks, h1, rfl⟩ := h
    cases b with
    | tup es =>
      simp [nkey] at g
      rw [nkeys_inj ds es ks h1 g]
    | _ => simp [nkey] at g
theorem nkeys_inj : ∀ (a b : List D) (ks : List NestedKey), nkeys a = some ks → nkeys b = some ks → a = b
  | [], b, ks, h, g => by
    simp [nkeys] at h; subst h
    cases b with
    | nil => rfl
    | cons d ds =>
      unfold nkeys at g
      split at g <;> simp at g
  | a :: as, b, ks, h, g => by
    unfold nkeys at h
    split at h
    · rename_i k ks' h1 h2
      simp at h; subst h
      cases b with
      | nil => simp [nkeys] at g
      | cons d ds =>
        unfold nkeys at g
        split at g
        · rename_i k2 ks2 g1 g2
          simp at g
          obtain ⟨rfl, rfl⟩ := g
          rw [nkey_inj a d _ h1 g1, nkeys_inj as ds _ h2 g2]
        · cases g
    · cases h
end
theorem lkey_inj {a b : D} {k : Leaf} (h : lkey a = some k) (g : lkey b = some k) : a = b := by
  cases a <;> cases b <;> simp_all [lkey]
  all_goals first
    | (subst h; simp at g; rw [g])
    | (subst h; simp at g; exact (S_inj g).symm)
    | (subst h; simp at g)
    | skip
theorem lkey_is {K : PySem.W.Frag} {H : Hp} {P : Program} {w : World} {d : D} {v : V} {u : Value} {k : Leaf} (r : RepD K H d v) (rv : RelV v u) (h : lkey d = some k) : (leafKind P w).is k u = true := by
  cases d with
  | non =>
    rw [RepD.non] at r; subst r
    simp [lkey] at h; subst h
    cases (show u = Value.none from rv); rfl
  | int i =>
    rw [RepD.int] at r; subst r
    simp [lkey] at h; subst h
    obtain ⟨t, rfl⟩ := (show ∃ t, u = Value.int i t from rv)
    show decide (i = i) = true
    simp
  | str l =>
    rw [RepD.str] at r; subst r
    simp [lkey] at h; subst h
    obtain ⟨t, rfl⟩ := (show ∃ t, u = Value.str (S l) t from rv)
    show Value.isStrOf (S l) (.str (S l) t) = true
    simp [Value.isStrOf]
  | _ => simp [lkey] at h
section
variable {X : Cx} {pins : List (Addr × Obj)} {σ : L2.St} {H : Hp} {s : Shared}
mutual
theorem nkey_is (I : Inv X pins σ H s) : ∀ (d : D) (v : V) (u : Value) (k : NestedKey), RepD X.K H d v → RelV v u → nkey d = some k → NestedIs s.heap k u
  | .non, v, u, k, r, rv, h => by
    rw [RepD.non] at r; subst r
    simp [nkey] at h; subst h
    cases (show u = Value.none from rv); exact .none
  | .int i, v, u, k, r, rv, h => by
    rw [RepD.int] at r; subst r
    simp [nkey] at h; subst h
    obtain ⟨t, rfl⟩ := (show ∃ t, u = Value.int i t from rv)
    exact .int _ _
  | .str l, v, u, k, r, rv, h => by
    rw [RepD.str] at r; subst r
    simp [nkey] at h; subst h
    obtain ⟨t, rfl⟩ := (show ∃ t, u = Value.str (S l) t from rv)
    exact .text _ _
  | .bl _, v, u, k, r, rv, h => by simp [nkey] at h
  | .obj _, v, u, k, r, rv, h => by simp [nkey] at h
  | .tup ds, v, u, k, r, rv, h => by
    simp [nkey] at h
    obtain ⟨ks, h1, rfl⟩ := h
    obtain ⟨a, vs, rfl, hp, rp⟩ := RepD.tup.mp r
    cases (show u = Value.ref a from rv)
    obtain ⟨its, rvs, ⟨o, ho, hc, n, hd⟩, hz⟩ := I.tuple hp
    exact .tup ho hc hd (by simpa using nkeys_is I ds vs its ks rp rvs h1)
theorem nkeys_is (I : Inv X pins σ H s) : ∀ (ds : List D) (vs : List V) (us : List Value) (ks : List NestedKey), RepL X.K H ds vs → Vals vs us → nkeys ds = some ks → NestedAll s.heap ks us
  | [], vs, us, ks, r, rv, h => by
    rw [RepL.nil] at r; subst r
    cases rv
    simp [nkeys] at h; subst h
    exact .nil
  | d :: ds, vs, us, ks, r, rv, h => by
    obtain ⟨v, ws, rfl, r1, r2⟩ := RepL.cons.mp r
    unfold nkeys at h
    split at h
    · rename_i k ks' h1 h2
      simp at h; subst h
      cases rv with
      | cons q qs => exact .cons (nkey_is I d v _ k r1 q h1) (nkeys_is I ds ws _ ks' r2 qs h2)
    · cases h
end
end

/-! ### look-up, store -/
def dlook (kvs : List (D × D)) (k : D) : Option D := (kvs.find? fun p => eqD p.1 k).map (·.2)
def dput (kvs : List (D × D)) (k v : D) : List (D × D) := if kvs.any (fun p => eqD p.1 k) then kvs.map (fun p => if eqD p.1 k then (p.1, v) else p) else kvs ++ [(k, v)]
def isTup : D → Bool | .tup _ => true | _ => false
/-- a key that fits -/
def keyOk (kvs : List (D × D)) (k : D) : Bool := ((lkey k).isSome && kvs.all fun p => (lkey p.1).isSome) || (isTup k && (match nkey k with | some q => decide (q.depth ≤ 8) | none => false) && kvs.all fun p => isTup p.1)
section
variable {G : Cfg} {H : Hp}
theorem leaf_look {k : D} {q : Leaf} (hk : lkey k = some q) : ∀ {kvs : List (D × D)} {lk : List (Leaf × Value)}, Paired (LeafRel G H) kvs lk → (match dlook kvs k with
    | some v => ∃ u, valueAt lk q = some u ∧ RelDV G.K H v u
    | none => valueAt lk q = none)
  | _, _, .nil => rfl
  | p :: kvs, y :: lk, .cons r rs => by
    have ih := leaf_look hk rs
    unfold dlook at ih ⊢
    unfold valueAt at ih ⊢
    rw [List.find?_cons, List.find?_cons]
    by_cases e : p.1 = k
    · have e2 : y.1 = q := by have := r.1; rw [e, hk] at this; exact (Option.some.inj this).symm
      rw [show eqD p.1 k = true from eqD_iff.mpr e, show decide (y.1 = q) = true from decide_eq_true e2]
      exact ⟨_, rfl, r.2⟩
    · have e2 : y.1 ≠ q := fun z => e (lkey_inj (by rw [r.1, z]) hk)
      rw [show eqD p.1 k = false from Bool.eq_false_iff.mpr fun z => e (eqD_eq _ _ z), show decide (y.1 = q) = false from decide_eq_false e2]
      exact ih
theorem leaf_any {k : D} {q : Leaf} (hk : lkey k = some q) : ∀ {kvs : List (D × D)} {lk : List (Leaf × Value)}, Paired (LeafRel G H) kvs lk → (kvs.any fun p => eqD p.1 k) = lk.any fun y => decide (y.1 = q)
  | _, _, .nil => rfl
  | p :: kvs, y :: lk, .cons r rs => by
    rw [List.any_cons, List.any_cons, leaf_any hk rs]
    congr 1
    by_cases e : p.1 = k
    · have e2 : y.1 = q := by have := r.1; rw [e, hk] at this; exact (Option.some.inj this).symm
      rw [show eqD p.1 k = true from eqD_iff.mpr e, show decide (y.1 = q) = true from decide_eq_true e2]
    · have e2 : y.1 ≠ q := fun z => e (lkey_inj (by rw [r.1, z]) hk)
      rw [show eqD p.1 k = false from Bool.eq_false_iff.mpr fun z => e (eqD_eq _ _ z), show decide (y.1 = q) = false from decide_eq_false e2]
theorem leaf_map {k v : D} {u : Value} {q : Leaf} (hk : lkey k = some q) (rv : RelDV G.K H v u) : ∀ {kvs : List (D × D)} {lk : List (Leaf × Value)}, Paired (LeafRel G H) kvs lk → Paired (LeafRel G H) (kvs.map fun p => if eqD p.1 k then (p.1, v) else p) (lk.map fun y => if y.1 = q then (y.1, u) else y)
  | _, _, .nil => .nil
  | p :: kvs, y :: lk, .cons r rs => by
    rw [List.map_cons, List.map_cons]
    refine .cons ?_ (leaf_map hk rv rs)
    by_cases e : p.1 = k
    · have e2 : y.1 = q := by have := r.1; rw [e, hk] at this; exact (Option.some.inj this).symm
      rw [if_pos (eqD_iff.mpr e), if_pos e2]
      exact ⟨r.1, rv⟩
    · have e2 : y.1 ≠ q := fun z => e (lkey_inj (by rw [r.1, z]) hk)
      rw [if_neg (fun z => e (eqD_eq _ _ z)), if_neg e2]
      exact r
theorem leaf_put {k v : D} {u : Value} {q : Leaf} (hk : lkey k = some q) (rv : RelDV G.K H v u) {kvs : List (D × D)} {lk : List (Leaf × Value)} (r : Paired (LeafRel G H) kvs lk) : Paired (LeafRel G H) (dput kvs k v) (stored lk q u) := by
  unfold dput stored
  rw [leaf_any hk r]
  split
  · exact leaf_map hk rv r
  · exact r.snoc ⟨hk, rv⟩
theorem tup_look {k : D} {q : NestedKey} (hk : nkey k = some q) : ∀ {kvs : List (D × D)} {xs : List (NestedKey × Addr × Value)}, Paired (TupRel G H) kvs xs → (match dlook kvs k with
    | some v => ∃ p, atKey xs q = some p ∧ RelDV G.K H v p.2
    | none => atKey xs q = none)
  | _, _, .nil => rfl
  | p :: kvs, y :: xs, .cons r rs => by
    have ih := tup_look hk rs
    unfold dlook at ih ⊢
    unfold atKey at ih ⊢
    rw [List.find?_cons, List.find?_cons]
    by_cases e : p.1 = k
    · have e2 : y.1 = q := by have := r.2.1; rw [e, hk] at this; exact (Option.some.inj this).symm
      rw [show eqD p.1 k = true from eqD_iff.mpr e, show decide (y.1 = q) = true from decide_eq_true e2]
      exact ⟨_, rfl, r.2.2.2.2⟩
    · have e2 : y.1 ≠ q := fun z => e (nkey_inj _ _ _ (by rw [r.2.1, z]) hk)
      rw [show eqD p.1 k = false from Bool.eq_false_iff.mpr fun z => e (eqD_eq _ _ z), show decide (y.1 = q) = false from decide_eq_false e2]
      exact ih
theorem tup_any {k : D} {q : NestedKey} (hk : nkey k = some q) {kvs : List (D × D)} {xs : List (NestedKey × Addr × Value)} (r : Paired (TupRel G H) kvs xs) : (kvs.any fun p => eqD p.1 k) = (atKey xs q).isSome := by
  have h := tup_look hk r
  have e : (kvs.any fun p => eqD p.1 k) = (dlook kvs k).isSome := by
    unfold dlook
    rw [Option.isSome_map]
    induction kvs generalizing xs with
    | nil => rfl
    | cons p kvs ih =>
      rw [List.any_cons, List.find?_cons]
      cases eqD p.1 k with
      | true => rfl
      | false =>
        cases r with
        | cons r0 rs =>
          rw [Bool.false_or]
          exact ih rs (tup_look hk rs)
  rw [e]
  cases d : dlook kvs k with
  | none => rw [d] at h; rw [h]; rfl
  | some v => rw [d] at h; obtain ⟨p, hp, _⟩ := h; rw [hp]; rfl
theorem tup_map {k v : D} {u : Value} {q : NestedKey} (hk : nkey k = some q) (rv : RelDV G.K H v u) : ∀ {kvs : List (D × D)} {xs : List (NestedKey × Addr × Value)}, Paired (TupRel G H) kvs xs → Paired (TupRel G H) (kvs.map fun p => if eqD p.1 k then (p.1, v) else p) (xs.map (putAt q u))
  | _, _, .nil => .nil
  | p :: kvs, y :: xs, .cons r rs => by
    rw [List.map_cons, List.map_cons]
    refine .cons ?_ (tup_map hk rv rs)
    unfold putAt
    by_cases e : p.1 = k
    · have e2 : y.1 = q := by have := r.2.1; rw [e, hk] at this; exact (Option.some.inj this).symm
      rw [if_pos (eqD_iff.mpr e), if_pos e2]
      exact ⟨r.1, r.2.1, r.2.2.1, r.2.2.2.1, rv⟩
    · have e2 : y.1 ≠ q := fun z => e (nkey_inj _ _ _ (by rw [r.2.1, z]) hk)
      rw [if_neg (fun z => e (eqD_eq _ _ z)), if_neg e2]
      exact r
theorem tup_put {ds : List D} {v : D} {u : Value} {q : NestedKey} {b : Addr} (hk : nkey (.tup ds) = some q) (h8 : q.depth ≤ 8) (rk : RepD G.K H (.tup ds) (.ref b)) (rv : RelDV G.K H v u) {kvs : List (D × D)} {xs : List (NestedKey × Addr × Value)} (r : Paired (TupRel G H) kvs xs) : Paired (TupRel G H) (dput kvs (.tup ds) v) (storedH xs q b u) := by
  unfold dput storedH
  rw [tup_any hk r]
  split
  · exact tup_map hk rv r
  · exact r.snoc ⟨⟨ds, rfl⟩, hk, h8, rk, rv⟩
theorem dput_len (kvs : List (D × D)) (k v : D) : (dput kvs k v).length ≤ kvs.length + 1 := by
  unfold dput
  split
  · simp
  · simp
/-- the one kind -/
theorem rep_leaf {a : Addr} {kvs : List (D × D)} {o : Obj} (h : DctRep G H a kvs o) (hk : (kvs.all fun p => (lkey p.1).isSome) = true) : ∃ es ep, o.data = .dict es ep ∧ LeafRep G H kvs es := by
  obtain ⟨es, ep, e, r | ⟨xs, h1, h2, h3⟩⟩ := h.dat
  · exact ⟨es, ep, e, r⟩
  · cases h3 with
    | nil =>
      rw [List.map_nil] at h1
      have : es = #[] := by simpa using h1
      subst this
      exact ⟨_, ep, e, [], fun y hy => by simp at hy, .nil, List.nodup_nil, .nil⟩
    | cons r rs =>
      rw [List.all_cons, Bool.and_eq_true] at hk
      obtain ⟨ds, hd⟩ := r.1
      rw [hd] at hk
      exact absurd hk.1 (by simp [lkey])
theorem rep_tup {a : Addr} {kvs : List (D × D)} {o : Obj} (h : DctRep G H a kvs o) (hk : (kvs.all fun p => isTup p.1) = true) : ∃ es ep, o.data = .dict es ep ∧ TupRep G H kvs es := by
  obtain ⟨es, ep, e, ⟨lk, h1, h2, h3, h4⟩ | r⟩ := h.dat
  · cases h4 with
    | nil =>
      have : es = #[] := by
        have := h2.length
        simpa using this
      subst this
      exact ⟨_, ep, e, [], rfl, List.nodup_nil, .nil⟩
    | @cons p q _ _ r rs =>
      rw [List.all_cons, Bool.and_eq_true] at hk
      have r1 := r.1
      cases hp : p.1 with
      | tup ds => rw [hp] at r1; simp [lkey] at r1
      | _ => rw [hp] at hk; exact absurd hk.1 (by simp [isTup])
  · exact ⟨es, ep, e, r⟩
end
section
variable {X : Cx} {G : Cfg} {pins : List (Addr × Obj)} {σ : L2.St} {H : Hp} {s : Shared}
theorem objO_at {a : Addr} {o : Obj} (I : Inv X pins σ H s) (h : H a = some (objO a o)) : s.heap.get? a = some o := by
  have x : ObjOk X.prog X.w H s.heap a (.ext fun h => h.get? a = some o) := I.hok a _ h
  exact x.1
theorem objO_ok {P : Program} {w : World} {H : Hp} {h : Heap} {a : Addr} {o : Obj} (e : h.get? a = some o) : ObjOk P w H h a (objO a o) := ⟨e, ⟨_, e⟩, fun h1 h2 z k => k _ z⟩
/-- what the heap holds: keys by value | by tuples -/
theorem dct_leaf (hP : X.prog = G.P) (hw : X.w = G.w) {a : Addr} {kvs : List (D × D)} {o : Obj} (I : Inv X pins σ H s) (h : H a = some (objO a o)) (r : DctRep G H a kvs o) (hk : (kvs.all fun p => (lkey p.1).isSome) = true) :
    ∃ lk, s.heap.DictOf (leafKind X.prog X.w) a lk ∧ Paired (LeafRel G H) kvs lk := by
  obtain ⟨es, ep, e, lk, h1, h2, h3, h4⟩ := rep_leaf r hk
  rw [hP, hw]
  exact ⟨lk, ⟨o, es, ep, objO_at I h, r.ex, e, h1, h2, h3⟩, h4⟩
theorem tup_is (hK : X.K = G.K) (I : Inv X pins σ H s) : ∀ {kvs : List (D × D)} {xs : List (NestedKey × Addr × Value)}, Paired (TupRel G H) kvs xs → ∀ x ∈ xs, (nestedKind X.prog X.w).is s.heap x.1 x.2.1
  | _, _, .nil, x, hx => nomatch hx
  | p :: kvs, y :: xs, .cons r rs, x, hx => by
    rcases List.mem_cons.mp hx with rfl | hx
    · exact ⟨nkey_is I p.1 (.ref _) _ _ (by rw [hK]; exact r.2.2.2.1) rfl r.2.1, r.2.2.1⟩
    · exact tup_is hK I rs x hx
theorem dct_tup (hK : X.K = G.K) (hP : X.prog = G.P) (hw : X.w = G.w) {a : Addr} {kvs : List (D × D)} {o : Obj} (I : Inv X pins σ H s) (h : H a = some (objO a o)) (r : DctRep G H a kvs o) (hk : (kvs.all fun p => isTup p.1) = true) :
    ∃ xs, s.heap.DictOfH (nestedKind X.prog X.w) a xs ∧ Paired (TupRel G H) kvs xs := by
  obtain ⟨es, ep, e, xs, h1, h2, h3⟩ := rep_tup r hk
  have := tup_is hK I h3
  rw [← hP, ← hw] at h1
  exact ⟨xs, ⟨o, es, ep, objO_at I h, r.ex, e, h1, this, h2⟩, h3⟩
theorem dct_type {a : Addr} {kvs : List (D × D)} {o : Obj} (I : Inv X pins σ H s) (h : H a = some (objO a o)) (r : DctRep G H a kvs o) : s.TypeIs (.ref a) "dict" := ⟨o, objO_at I h, r.ex.1⟩
end

/-! ### the operations, as wishes -/
def vDIdx : R2D := fun d k M Q => match d with
  | .obj a => match M a with
    | some (.dct kvs) => keyOk kvs k = true ∧ match dlook kvs k with
      | some v => Q v M
      | none => False
    | _ => False
  | _ => False
def vDIn (neg : Bool) : R2D := fun k d M Q => match d with
  | .obj a => match M a with
    | some (.dct kvs) => keyOk kvs k = true ∧ Q (.bl (if neg then !(dlook kvs k).isSome else (dlook kvs k).isSome)) M
    | _ => False
  | _ => False
def vDSet : D → D → D → Mem → (Mem → Prop) → Prop := fun o k v M Q => match o with
  | .obj a => match M a with
    | some (.dct kvs) => keyOk kvs k = true ∧ kvs.length < big ∧ Q (mup M a (.dct (dput kvs k v)))
    | _ => False
  | _ => False
def vDGet : D → List D → Mem → DK → Prop := fun o ks M Q => match o with
  | .obj a => match M a with
    | some (.dct kvs) => match ks with
      | [k] => keyOk kvs k = true ∧ Q ((dlook kvs k).getD .non) M
      | [k, x] => keyOk kvs k = true ∧ Q ((dlook kvs k).getD x) M
      | _ => False
    | _ => False
  | _ => False
section
variable {X : Cx} {G : Cfg}
theorem keyOk_cases {kvs : List (D × D)} {k : D} (h : keyOk kvs k = true) : ((∃ q, lkey k = some q) ∧ (kvs.all fun p => (lkey p.1).isSome) = true) ∨ ((∃ ds q, k = .tup ds ∧ nkey k = some q ∧ q.depth ≤ 8) ∧ (kvs.all fun p => isTup p.1) = true) := by
  unfold keyOk at h
  rw [Bool.or_eq_true, Bool.and_eq_true, Bool.and_eq_true, Bool.and_eq_true] at h
  rcases h with ⟨h1, h2⟩ | ⟨⟨h1, h2⟩, h3⟩
  · exact .inl ⟨Option.isSome_iff_exists.mp h1, h2⟩
  · right
    refine ⟨?_, h3⟩
    split at h2
    · rename_i q e
      cases k with
      | tup ds => exact ⟨ds, q, rfl, e, of_decide_eq_true h2⟩
      | _ => cases h1
    · cases h2
theorem dct_of {a : Addr} {kvs : List (D × D)} {H : Hp} {M : Mem} (m : RepM G H M) (e : M a = some (.dct kvs)) : ∃ o, H a = some (objO a o) ∧ DctRep G H a kvs o := by
  obtain ⟨ho, h1, o, rfl, r⟩ := m a _ e
  exact ⟨o, h1, r⟩
theorem dct_getItem {pins : List (Addr × Obj)} {σ : L2.St} {H : Hp} {s : Shared} {M : Mem} {a : Addr} {kvs : List (D × D)} {k v : D} {y : V} {u : Value} {Q : V → Prop} {E : Value → Shared → Prop} {A : Around} (hK : X.K = G.K) (hP : X.prog = G.P) (hw : X.w = G.w) (hu : A.units + 9 < cLine) (I : Inv X pins σ H s) (m : RepM G H M) (e : M a = some (.dct kvs))
    (ok : keyOk kvs k = true) (l : dlook kvs k = some v) (r : RepD G.K H k y) (ry : RelV y u) (h : ∀ z, RepD G.K H v z → Q z) :
    wpAny (model X.prog X.w) A (getItem (.ref a) u) (EP X pins σ fun z H' => H' = H ∧ Q z) E s := by
  obtain ⟨o, h1, rep⟩ := dct_of m e
  rcases keyOk_cases ok with ⟨⟨q, hq⟩, hall⟩ | ⟨⟨ds, q, rfl, hq, h8⟩, hall⟩
  · obtain ⟨lk, dd, pr⟩ := dct_leaf hP hw I h1 rep hall
    have z := leaf_look hq pr
    rw [l] at z
    obtain ⟨w', hw', z', rz, rw'⟩ := z
    exact wpAny_getItem_of (lkey_is r ry hq) dd.mapOf hw' ⟨z', H, I.tok _, rw', rfl, h _ rz⟩
  · obtain ⟨xs, dd, pr⟩ := dct_tup hK hP hw I h1 rep hall
    have z := tup_look hq pr
    rw [l] at z
    obtain ⟨p, hp, z', rz, rw'⟩ := z
    obtain ⟨b, vs, rfl, _⟩ := RepD.tup.mp r
    cases (show u = Value.ref b from ry)
    refine wpAny_getItem_heap (knd := nestedKind X.prog X.w) (k := q) (by show A.units + 1 + 8 < cLine; omega) ⟨nkey_is I _ (.ref b) _ _ (by rw [hK]; exact r) rfl hq, h8⟩ dd hp ⟨z', H, I.tok _, rw', rfl, h _ rz⟩
theorem ix_dct (hK : X.K = G.K) (hP : X.prog = G.P) (hw : X.w = G.w) (hu : X.A.units + 64 < cLine) : IxR X (lift2 G vDIdx) := by
  intro value slice pins s σ H x y v u Q I rx ry h hs
  obtain ⟨d, e, M, Q0, rd, re, rm, hr, ok⟩ := h
  unfold vDIdx at hr
  split at hr
  · rename_i a
    rw [RepD.obj] at rd; subst rd
    split at hr
    · rename_i kvs em
      obtain ⟨hk, hr⟩ := hr
      split at hr
      · rename_i v' l
        obtain rfl : v = Value.ref a := rx
        obtain ⟨o, h1, rep⟩ := dct_of rm em
        refine tail_any (dct_type I h1 rep) slot_dict_getitem.lookup ?_ hs
        refine wpAny_mono (dct_getItem hK hP hw (by omega) I rm em hk l re ry (Q := fun z => Q z H) fun z rz => ok _ _ _ _ hr rz rm Step.rfl') (fun w' s' ⟨z, H', I', rz, e', q⟩ => ?_) fun _ _ z => z
        subst e'
        exact ⟨z, _, I', rz, q⟩
      · exact hr.elim
    · exact hr.elim
  · exact hr.elim
theorem dct_in {pins : List (Addr × Obj)} {σ : L2.St} {H : Hp} {s : Shared} {M : Mem} {a : Addr} {kvs : List (D × D)} {k : D} {y : V} {u : Value} {Q : Value → Shared → Prop} {E : Value → Shared → Prop} {A : Around} (neg : Bool) (hK : X.K = G.K) (hP : X.prog = G.P) (hw : X.w = G.w) (hu : A.units + 9 < cLine) (I : Inv X pins σ H s) (m : RepM G H M) (e : M a = some (.dct kvs))
    (ok : keyOk kvs k = true) (r : RepD G.K H k y) (ry : RelV y u) (h : ∀ s', Inv X pins σ H s' → Q (.bool (if neg then !(dlook kvs k).isSome else (dlook kvs k).isSome)) s') :
    wpAny (model X.prog X.w) A (compareOp (if neg then .NotIn else .In) u (.ref a)) Q E s := by
  obtain ⟨o, h1, rep⟩ := dct_of m e
  rcases keyOk_cases ok with ⟨⟨q, hq⟩, hall⟩ | ⟨⟨ds, q, rfl, hq, h8⟩, hall⟩
  · obtain ⟨lk, dd, pr⟩ := dct_leaf hP hw I h1 rep hall
    have z := leaf_look hq pr
    have ez : (dlook kvs k).isSome = (valueAt lk q).isSome := by
      cases l : dlook kvs k with
      | none => rw [l] at z; rw [z]; rfl
      | some v => rw [l] at z; obtain ⟨_, hv, _⟩ := z; rw [hv]; rfl
    cases neg with
    | false => exact wpAny_in_of (lkey_is r ry hq) rep.sm dd.mapOf (by rw [← ez]; exact h _ (I.tok _))
    | true => exact wpAny_notIn_of (lkey_is r ry hq) rep.sm dd.mapOf (by rw [← ez]; exact h _ (I.tok _))
  · obtain ⟨xs, dd, pr⟩ := dct_tup hK hP hw I h1 rep hall
    have z := tup_look hq pr
    have ez : (dlook kvs (.tup ds)).isSome = (atKey xs q).isSome := by
      cases l : dlook kvs (.tup ds) with
      | none => rw [l] at z; rw [z]; rfl
      | some v => rw [l] at z; obtain ⟨_, hv, _⟩ := z; rw [hv]; rfl
    obtain ⟨b, vs, rfl, _⟩ := RepD.tup.mp r
    cases (show u = Value.ref b from ry)
    have hkk : (nestedKind X.prog X.w).is s.heap q b := ⟨nkey_is I _ (.ref b) _ _ (by rw [hK]; exact r) rfl hq, h8⟩
    cases neg with
    | false => exact wpAny_in_heap (knd := nestedKind X.prog X.w) (by show A.units + 1 + 8 < cLine; omega) hkk rep.sm dd (by rw [← ez]; exact h _ (I.tok _))
    | true => exact wpAny_notIn_heap (knd := nestedKind X.prog X.w) (by show A.units + 1 + 8 < cLine; omega) hkk rep.sm dd (by rw [← ez]; exact h _ (I.tok _))
theorem od_din (neg : Bool) (hK : X.K = G.K) (hP : X.prog = G.P) (hw : X.w = G.w) (hu : X.A.units + 64 < cLine) : OpR X (compareOp (if neg then .NotIn else .In)) (lift2 G (vDIn neg)) := by
  intro pins s σ H x y v u Q I rx ry h
  obtain ⟨d, e, M, Q0, rd, re, rm, hr, ok⟩ := h
  unfold vDIn at hr
  split at hr
  · rename_i a
    rw [RepD.obj] at re; subst re
    split at hr
    · rename_i kvs em
      obtain ⟨hk, hr⟩ := hr
      obtain rfl : u = Value.ref a := ry
      exact dct_in neg hK hP hw (by omega) I rm em hk rd rx fun s' I' => ⟨.bl _, H, I', rfl, ok _ _ _ _ hr (RepD.bl.mpr rfl) rm Step.rfl'⟩
    · exact hr.elim
  · exact hr.elim
/-- the dict's object replaced -/
theorem dct_put {P : Program} {w : World} {H : Hp} {h' : Heap} {a : Addr} {kvs : List (D × D)} (hP : P = G.P) (hw : w = G.w) (big' : kvs.length ≤ sizeLine) (sm : (a == sysModules) = false) :
    (∀ lk, h'.DictOf (leafKind P w) a lk → Paired (LeafRel G H) kvs lk → ∃ o, h'.get? a = some o ∧ DctRep G H a kvs o) ∧ (∀ xs, h'.DictOfH (nestedKind P w) a xs → Paired (TupRel G H) kvs xs → ∃ o, h'.get? a = some o ∧ DctRep G H a kvs o) := by
  subst hP hw
  refine ⟨fun lk ⟨o, es, ep, h1, h2, h3, h4, h5, h6⟩ pr => ⟨o, h1, big', sm, h2, es, ep, h3, .inl ⟨lk, h4, h5, h6, pr⟩⟩, fun xs ⟨o, es, ep, h1, h2, h3, h4, h5, h6⟩ pr => ⟨o, h1, big', sm, h2, es, ep, h3, .inr ⟨xs, h4, h6, pr⟩⟩⟩
theorem dct_set {pins : List (Addr × Obj)} {σ : L2.St} {H : Hp} {s : Shared} {M : Mem} {a : Addr} {kvs : List (D × D)} {k v : D} {y z : V} {u uz : Value} {Q : Unit → Shared → Prop} {E : Value → Shared → Prop} {A : Around} (hK : X.K = G.K) (hP : X.prog = G.P) (hw : X.w = G.w) (hu : A.units + 9 < cLine) (I : Inv X pins σ H s) (m : RepM G H M) (e : M a = some (.dct kvs))
    (ok : keyOk kvs k = true) (hb : kvs.length < big) (r : RepD G.K H k y) (ry : RelV y u) (rv : RepD G.K H v z) (rz : RelV z uz)
    (h : ∀ o s', Inv X pins σ (upd H a (objO a o)) s' → DctRep G H a (dput kvs k v) o → Q () s') :
    wpAny (model X.prog X.w) A (setItem (.ref a) u uz) Q E s := by
  obtain ⟨o, h1, rep⟩ := dct_of m e
  have hlen : (dput kvs k v).length ≤ sizeLine := by
    have := dput_len kvs k v
    rw [big_eq]; omega
  have mu : Mut (H a) := by rw [h1]; exact True.intro
  have fin : ∀ {h' : Heap} {o' : Obj} {t' : Nat}, Heap.SameBut a s.heap h' → h'.get? a = some o' → Inv X pins σ (upd H a (objO a o')) { s with heap := h', toks := t' } := fun {h' o' t'} hs ho => I.write (x := a) (e := a) mu (.inl rfl) (fun b q hb z => (hs.2 b hb).trans z) ⟨_, ho⟩ (objO_ok ho)
  rcases keyOk_cases ok with ⟨⟨q, hq⟩, hall⟩ | ⟨⟨ds, q, rfl, hq, h8⟩, hall⟩
  · obtain ⟨lk, dd, pr⟩ := dct_leaf hP hw I h1 rep hall
    refine wpAny_setItem_pairs (knd := leafKind X.prog X.w) (lkey_is r ry hq) dd (fun h' dd' hs => ?_) (by rw [← pr.length]; exact rep.big)
    obtain ⟨o', ho, rep'⟩ := (dct_put (G := G) (H := H) hP hw hlen rep.sm).1 _ dd' (leaf_put hq ⟨z, rv, rz⟩ pr)
    exact h o' _ (fin hs ho) rep'
  · obtain ⟨xs, dd, pr⟩ := dct_tup hK hP hw I h1 rep hall
    obtain ⟨b, vs, rfl, _⟩ := RepD.tup.mp r
    cases (show u = Value.ref b from ry)
    refine wpAny_setItem_heap (knd := nestedKind X.prog X.w) (k := q) (by show A.units + 1 + 8 < cLine; omega) ⟨nkey_is I _ (.ref b) _ _ (by rw [hK]; exact r) rfl hq, h8⟩ dd (fun h' dd' hs => ?_) (by rw [← pr.length]; exact rep.big)
    obtain ⟨o', ho, rep'⟩ := (dct_put (G := G) (H := H) hP hw hlen rep.sm).2 _ dd' (tup_put hq h8 r ⟨z, rv, rz⟩ pr)
    exact h o' _ (fin hs ho) rep'
theorem dct_get {pins : List (Addr × Obj)} {σ : L2.St} {H : Hp} {s : Shared} {M : Mem} {a : Addr} {kvs : List (D × D)} {k x : D} {y z : V} {u uz : Value} {us : List Value} {Q : VK} {E : Value → Shared → Prop} {A : Around} (hK : X.K = G.K) (hP : X.prog = G.P) (hw : X.w = G.w) (hu : A.units + 9 < cLine) (I : Inv X pins σ H s) (m : RepM G H M) (e : M a = some (.dct kvs))
    (ok : keyOk kvs k = true) (r : RepD G.K H k y) (ry : RelV y u) (hus : (us = [u] ∧ z = .non ∧ uz = .none) ∨ us = [u, uz]) (rv : RepD G.K H x z) (rz : RelV z uz)
    (h : ∀ v', RepD G.K H ((dlook kvs k).getD x) v' → Q v' H) :
    wpAny (model X.prog X.w) A (call (.builtin "dict.get") (.ref a :: us)) (EP X pins σ Q) E s := by
  obtain ⟨o, h1, rep⟩ := dct_of m e
  have ty := dct_type I h1 rep
  rcases keyOk_cases ok with ⟨⟨q, hq⟩, hall⟩ | ⟨⟨ds, q, rfl, hq, h8⟩, hall⟩
  · obtain ⟨lk, dd, pr⟩ := dct_leaf hP hw I h1 rep hall
    have zz := leaf_look hq pr
    have fin : ∀ t, EP X pins σ Q ((valueAt lk q).getD uz) { s with toks := t } := fun t => by
      cases l : dlook kvs k with
      | none =>
        rw [l] at zz; rw [zz]
        exact ⟨z, H, I.tok _, rz, h _ (by rw [l]; exact rv)⟩
      | some v =>
        rw [l] at zz
        obtain ⟨u', hu', v', rv', ru'⟩ := zz
        rw [hu']
        exact ⟨v', H, I.tok _, ru', h _ (by rw [l]; exact rv')⟩
    rcases hus with ⟨rfl, _, rfl⟩ | rfl
    · exact call_meetsIn PySem.F.slot_dict_get ty PySem.F.entry_dict_get (PySem.F.args_dict_get_2 _ _) (meets_dict_get (leafKind X.prog X.w) a (lkey_is r ry hq) rep.sm) ⟨_, dd.mapOf, fin _⟩
    · exact call_meetsIn PySem.F.slot_dict_get ty PySem.F.entry_dict_get (PySem.F.args_dict_get_3 _ _ _) (meets_dict_get_default (leafKind X.prog X.w) a (lkey_is r ry hq) rep.sm uz) ⟨_, dd.mapOf, fin _⟩
  · obtain ⟨xs, dd, pr⟩ := dct_tup hK hP hw I h1 rep hall
    have zz := tup_look hq pr
    have fin : ∀ t, EP X pins σ Q (((atKey xs q).map (·.2)).getD uz) { s with toks := t } := fun t => by
      cases l : dlook kvs (.tup ds) with
      | none =>
        rw [l] at zz; rw [zz]
        exact ⟨z, H, I.tok _, rz, h _ (by rw [l]; exact rv)⟩
      | some v =>
        rw [l] at zz
        obtain ⟨p, hp, v', rv', ru'⟩ := zz
        rw [hp]
        exact ⟨v', H, I.tok _, ru', h _ (by rw [l]; exact rv')⟩
    obtain ⟨b, vs, rfl, _⟩ := RepD.tup.mp r
    cases (show u = Value.ref b from ry)
    have hkk : (nestedKind X.prog X.w).is s.heap q b := ⟨nkey_is I _ (.ref b) _ _ (by rw [hK]; exact r) rfl hq, h8⟩
    have hroom : (nestedKind X.prog X.w).room A.in1 := by show A.units + 1 + 8 < cLine; omega
    rcases hus with ⟨rfl, _, rfl⟩ | rfl
    · exact call_meetsIn PySem.F.slot_dict_get ty PySem.F.entry_dict_get (PySem.F.args_dict_get_2 _ _) (meetsH_dict_get (nestedKind X.prog X.w) a b rep.sm) ⟨hroom, q, xs, hkk, dd, fin _⟩
    · exact call_meetsIn PySem.F.slot_dict_get ty PySem.F.entry_dict_get (PySem.F.args_dict_get_3 _ _ _) (meetsH_dict_get_default (nestedKind X.prog X.w) a b rep.sm uz) ⟨hroom, q, xs, hkk, dd, fin _⟩
theorem md_dget (hK : X.K = G.K) (hP : X.prog = G.P) (hw : X.w = G.w) (hu : X.A.units + 64 < cLine) : MtR X "dict.get" (liftM G vDGet) := by
  intro pins s σ H x xs v us Q I rx rxs h
  obtain ⟨d, ds, M, Q0, rd, rds, rm, hr, ok⟩ := h
  unfold vDGet at hr
  split at hr
  · rename_i a
    rw [RepD.obj] at rd; subst rd
    obtain rfl : v = Value.ref a := rx
    split at hr
    · rename_i kvs em
      split at hr
      · rename_i k
        obtain ⟨y, rfl, ry⟩ := rep1 rds
        cases rxs with
        | cons q qs =>
          cases qs
          exact dct_get (x := .non) (z := .non) hK hP hw (by omega) I rm em hr.1 ry q (.inl ⟨rfl, rfl, rfl⟩) (RepD.non.mpr rfl) rfl fun v' rv' => ok _ _ _ _ hr.2 rv' rm Step.rfl'
      · rename_i k x'
        obtain ⟨y, z, rfl, ry, rz⟩ := rep2 rds
        cases rxs with
        | cons q qs =>
          cases qs with
          | cons q2 qs =>
            cases qs
            exact dct_get hK hP hw (by omega) I rm em hr.1 ry q (.inr rfl) rz q2 fun v' rv' => ok _ _ _ _ hr.2 rv' rm Step.rfl'
      · exact hr.elim
    · exact hr.elim
  · exact hr.elim
/-- {} -/
theorem dct_new {P : Program} {w : World} {H : Hp} {h : Heap} (hb : sysModules < h.objs.size) : ∃ o, (h.push { cls := .type "dict", data := .dict #[] }).get? h.objs.size = some o ∧ DctRep G H h.objs.size [] o :=
  ⟨_, Heap.get?_push_size _ rfl, Nat.zero_le _, beq_eq_false_iff_ne.mpr (Ne.symm (Nat.ne_of_lt hb)), ⟨rfl, rfl, rfl⟩, #[], 0, rfl, .inl ⟨[], fun y hy => by simp at hy, .nil, List.nodup_nil, .nil⟩⟩
end
end DL
set_option Elab.async false
set_option linter.all false
set_option maxRecDepth 100000
/-! DL5: the small language: terms, what they ask (wp), when a text's tree is such a term (chk). -/
namespace DL
open PySem PySem.Spec PyProof.Rows L2

/-! ### targets -/
mutual
inductive Tg where
  | name (i : Nat)
  | tup (ts : Tgs)
inductive Tgs where
  | nil
  | cons (t : Tg) (ts : Tgs)
end
mutual
def Tg.slots : Tg → List Nat
  | .name i => [i]
  | .tup ts => ts.slots
def Tgs.slots : Tgs → List Nat
  | .nil => []
  | .cons t ts => t.slots ++ ts.slots
end
mutual
def wpTg : Tg → D → En → (En → Prop) → Prop
  | .name i, d, ρ, k => k (ρ.set i (some d))
  | .tup ts, d, ρ, k => match d with
    | .tup ds => wpTgs ts ds ρ k
    | _ => False
def wpTgs : Tgs → List D → En → (En → Prop) → Prop
  | .nil, ds, ρ, k => match ds with
    | [] => k ρ
    | _ => False
  | .cons t ts, ds, ρ, k => match ds with
    | d :: ds => wpTg t d ρ fun ρ' => wpTgs ts ds ρ' k
    | [] => False
end

/-! ### terms -/
inductive CK where | fn | me (c : Nat) | mk (c : Nat)
  deriving DecidableEq
/-- a def that is called: its name, how many arguments (self among them), the room it needs, its promise -/
structure Cal where
  kind : CK
  nm : Str
  ar : Nat
  lev : Nat
  sp : SpD

/-- what is called, and what is known of exception classes -/
structure Pk where
  l : List Cal
  sub : Nat → Nat → Bool
  fd : Nat → Option Str
abbrev XO := Option (Addr × Ex)

mutual
inductive ME where
  | var (i : Nat)
  | lit (d : D)
  | glb (j : Nat) (d : D)
  | xis (i c : Nat)
  | xisV (i : Nat)
  | xfld (i : Nat) (f : Str)
  | bin (o : Operator) (a b : ME)
  | neg (a : ME)
  | cmp (o : CmpOp) (a b : ME)
  | chn (o o' : CmpOp) (a b c : ME)
  | bo (k : Bool) (es : MEs)
  | not (a : ME)
  | ite (c : MT) (a b : ME)
  | tup (es : MEs)
  | lst (es : MEs)
  | idx (a i : ME)
  | slc (a : ME) (lo hi : MEs)
  | fld (c i : Nat) (a : ME)
  | call (k : Nat) (es : MEs)
  | meth (k : Nat) (o : ME) (es : MEs)
  | make (k : Nat) (es : MEs)
  | bi (f : BI) (es : MEs)
  | isi (a : ME) (T : String)
  | bm (f : BM) (o : ME) (es : MEs)
  | lc (elt : ME) (tg : Tg) (it : MI) (ifs : MTs) (own : List (Str × Nat))
  | rev (a : ME)
  | isit (a : ME) (Ts : List String)
  | dnew
  | ddsp (k v : ME)
  | dget (o : ME) (es : MEs)
  | dzip (a b : ME)
  | lrng (es : MEs)
inductive MEs where
  | nil
  | cons (e : ME) (es : MEs)
/-- tests -/
inductive MT where
  | val (e : ME)
  | cmp (o : CmpOp) (a b : ME)
  | chn (o o' : CmpOp) (a b c : ME)
  | bo (k : Bool) (ts : MTs)
  | not (t : MT)
inductive MTs where
  | nil
  | cons (t : MT) (ts : MTs)
inductive MI where
  | of (e : ME)
  | rng (es : MEs)
  | enu (e : ME)
  | zip (a b : ME)
end

/-! ### what they ask -/
def isDct (M : Mem) (d : D) : Bool := match d with
  | .obj a => match M a with
    | some (.dct _) => true
    | _ => false
  | _ => false
def vGet : R2D := fun d e M Q => if isDct M d = true then vDIdx d e M Q else vIdx d e M Q
def vInG (neg : Bool) : R2D := fun k d M Q => if isDct M d = true then vDIn neg k d M Q else vInK neg k d M Q
def vRev (d : D) (M : Mem) (Q : DK) : Prop := match d with
  | .str l => l.length ≤ 1000000 ∧ Q (.str l.reverse) M
  | .obj a => match rdL M a with
    | some xs => ∀ p, M p = none → Q (.obj p) (mup M p (.lst xs.reverse))
    | none => False
  | _ => False
def kitsB (U : String) : List String → Option Bool
  | [] => some false
  | T :: r => match kitB U T with
    | some true => some true
    | some false => kitsB U r
    | none => none
def vIsi (T : String) (d : D) (M : Mem) (Q : DK) : Prop := match tyD M d with
  | some U => match kitB U T with
    | some r => Q (.bl r) M
    | none => False
  | none => False
def vIsit (Ts : List String) (d : D) (M : Mem) (Q : DK) : Prop := match tyD M d with
  | some U => match kitsB U Ts with
    | some r => Q (.bl r) M
    | none => False
  | none => False
def zipD (xs ys : List D) : List (D × D) := (xs.zip ys).foldl (fun acc p => dput acc p.1 p.2) []
def vZip (d e : D) (M : Mem) (Q : DK) : Prop := match d, e with
  | .obj a, .obj b => match M a, M b with
    | some (.lst xs), some (.lst ys) => (xs.all fun x => (lkey x).isSome) = true ∧ ∀ p, M p = none → Q (.obj p) (mup M p (.dct (zipD xs ys)))
    | _, _ => False
  | _, _ => False
def binS : Operator → R2D
  | .Add => vAdd | .Sub => vSub | .Mult => vMul | .FloorDiv => vDiv | .Mod => vMod | .Pow => vPow | .LShift => vShl | .RShift => vShr | .BitAnd => vAnd
  | _ => fun _ _ _ _ => False
def cmpS : CmpOp → R2D
  | .Eq => vEq | .NotEq => vNe | .Lt => vLt | .LtE => vLe | .Gt => vGt | .GtE => vGe | .Is => vIsK false | .IsNot => vIsK true | .In => vInG false | .NotIn => vInG true
/-- what a loop walks: its items, and what must stay -/
structure Its where
  xs : List D
  ok : Mem → Prop
abbrev TDI := En → Mem → (Its → Mem → Prop) → Prop
def itsOf : D → Mem → (Its → Mem → Prop) → Prop := fun d M R => match d with
  | .tup xs => R ⟨xs, fun _ => True⟩ M
  | .str l => R ⟨l.map fun c => .str [c], fun _ => True⟩ M
  | .obj a => match rdL M a with
    | some xs => R ⟨xs, fun M' => rdL M' a = some xs⟩ M
    | none => False
  | _ => False
def rngOf : List D → Mem → (Its → Mem → Prop) → Prop := fun ds M R => match ds with
  | [.int j] => -(2 ^ 62) ≤ j ∧ j < 2 ^ 62 ∧ R ⟨(List.range j.toNat).map fun k => .int (k : Nat), fun _ => True⟩ M
  | [.int i, .int j] => (-(2 ^ 62) ≤ i ∧ i < 2 ^ 62 ∧ -(2 ^ 62) ≤ j ∧ j < 2 ^ 62) ∧ R ⟨(List.range (j - i).toNat).map fun k => .int (i + (k : Nat)), fun _ => True⟩ M
  | _ => False
def enuL (k : Nat) : List D → List D
  | [] => []
  | x :: xs => .tup [.int k, x] :: enuL (k + 1) xs
def enuOf (d : D) (M : Mem) (R : Its → Mem → Prop) : Prop := match d with
  | .tup xs => R ⟨enuL 0 xs, fun _ => True⟩ M
  | .obj a => match rdL M a with
    | some xs => R ⟨enuL 0 xs, fun M' => rdL M' a = some xs⟩ M
    | none => False
  | _ => False
def zipL : List D → List D → List D
  | x :: xs, y :: ys => .tup [x, y] :: zipL xs ys
  | _, _ => []
def lcGo (tg : D → En → (En → Prop) → Prop) (ifs : TDT) (elt : TD) (ρ : En) (ok : Mem → Prop) : List D → List D → Mem → (List D → Mem → Prop) → Prop
  | [], acc, M, Q => ok M ∧ Q acc M
  | d :: ds, acc, M, Q => ok M ∧ tg d ρ fun ρ' => ifs ρ' M fun b M2 => if b = true then elt ρ' M2 fun v M3 => acc.length < big ∧ lcGo tg ifs elt ρ ok ds (acc ++ [v]) M3 Q else lcGo tg ifs elt ρ ok ds acc M2 Q
def wipeD (ρ : En) : List Nat → En
  | [] => ρ
  | v :: vs => (wipeD ρ vs).set v none
def optI (t : TDA) : En → Mem → (Option Int → Mem → Prop) → Prop := fun ρ M Q => t ρ M fun ds M1 => match ds with
  | [] => Q none M1
  | [.int i] => Q (some i) M1
  | _ => False
/-- has the value a class with these methods? -/
def recv (T : String) (d : D) (M : Mem) : Prop := match d with
  | .str _ => T = "str"
  | .obj a => T = "list" ∧ (rdL M a).isSome = true
  | _ => False
mutual
def wpE (cs : Pk) (W : WD) (xo : XO) : ME → TD
  | .var i => fun ρ M Q => match ρ[i]? with
    | some (some d) => Q d M
    | _ => False
  | .lit d => fun _ M Q => Q d M
  | .glb _ d => fun _ M Q => Q d M
  | .xis i c => fun ρ M Q => match xo with
    | some (a, x) => ρ[i]? = some (some (.obj a)) ∧ cs.fd x.c = none ∧ Q (.bl (cs.sub x.c c)) M
    | none => False
  | .xisV i => fun ρ M Q => match xo with
    | some (a, x) => ρ[i]? = some (some (.obj a)) ∧ cs.fd x.c = none ∧ Q (.bl true) M
    | none => False
  | .xfld i f => fun ρ M Q => match xo with
    | some (a, x) => ρ[i]? = some (some (.obj a)) ∧ cs.fd x.c = some f ∧ match x.args with
      | [v] => Q v M
      | _ => False
    | none => False
  | .bin o a b => fun ρ M Q => wpE cs W xo a ρ M fun d M1 => wpE cs W xo b ρ M1 fun e M2 => binS o d e M2 Q
  | .neg a => fun ρ M Q => wpE cs W xo a ρ M fun d M1 => match d with
    | .int i => Q (.int (-i)) M1
    | _ => False
  | .cmp o a b => fun ρ M Q => wpE cs W xo a ρ M fun d M1 => wpE cs W xo b ρ M1 fun e M2 => cmpS o d e M2 Q
  | .chn o o' a b c => fun ρ M Q => wpE cs W xo a ρ M fun d M1 => wpE cs W xo b ρ M1 fun e M2 => cmpS o d e M2 fun z M3 => match z with
    | .bl true => wpE cs W xo c ρ M3 fun f M4 => cmpS o' e f M4 Q
    | .bl false => Q (.bl false) M3
    | _ => False
  | .bo k es => wpBo cs W xo k es
  | .not a => fun ρ M Q => wpE cs W xo a ρ M fun d M1 => vTru d M1 fun b M2 => Q (.bl (!b)) M2
  | .ite c a b => fun ρ M Q => wpT cs W xo c ρ M fun k M2 => if k = true then wpE cs W xo a ρ M2 Q else wpE cs W xo b ρ M2 Q
  | .tup es => fun ρ M Q => wpA cs W xo es ρ M fun ds M1 => Q (.tup ds) M1
  | .lst es => fun ρ M Q => wpA cs W xo es ρ M fun ds M1 => ∀ p, M1 p = none → Q (.obj p) (mup M1 p (.lst ds))
  | .idx a i => fun ρ M Q => wpE cs W xo a ρ M fun d M1 => wpE cs W xo i ρ M1 fun e M2 => vGet d e M2 Q
  | .slc a lo hi => fun ρ M Q => wpE cs W xo a ρ M fun d M1 => optI (wpA cs W xo lo) ρ M1 fun l M2 => optI (wpA cs W xo hi) ρ M2 fun u M3 => vSlc d l u M3 Q
  | .fld c i a => fun ρ M Q => wpE cs W xo a ρ M fun d M1 => match d with
    | .obj p => match M1 p with
      | some (.ins c' fs) => c' = c ∧ match fs[i]? with
        | some x => Q x M1
        | none => False
      | _ => False
    | _ => False
  | .call k es => fun ρ M Q => match cs.l[k]? with
    | some c => wpA cs W xo es ρ M fun ds M1 => c.sp ds M1 Q fun x M' => W x ρ M'
    | none => False
  | .meth k o es => fun ρ M Q => match cs.l[k]? with
    | some c => match c.kind with
      | .me cl => wpE cs W xo o ρ M fun d M1 => match d with
        | .obj p => match M1 p with
          | some (.ins c' fs) => c' = cl ∧ wpA cs W xo es ρ M1 fun ds M2 => c.sp (d :: ds) M2 Q fun x M' => W x ρ M'
          | _ => False
        | _ => False
      | _ => False
    | none => False
  | .make k es => fun ρ M Q => match cs.l[k]? with
    | some c => match c.kind with
      | .mk cl => wpA cs W xo es ρ M fun ds M1 => ∀ p, M1 p = none → c.sp (.obj p :: ds) (mup M1 p (.ins cl [])) (fun v M2 => match v with
        | .non => Q (.obj p) M2
        | _ => False) fun x M' => W x ρ M'
      | _ => False
    | none => False
  | .bi f es => fun ρ M Q => wpA cs W xo es ρ M fun ds M1 => biS f ds M1 Q
  | .isi a T => fun ρ M Q => wpE cs W xo a ρ M fun d M1 => vIsi T d M1 Q
  | .bm f o es => fun ρ M Q => wpE cs W xo o ρ M fun d M1 => recv f.ty d M1 ∧ wpA cs W xo es ρ M1 fun ds M2 => bmS f d ds M2 Q
  | .lc elt tg it ifs own => fun ρ M Q => wpI cs W xo it ρ M fun I M1 => lcGo (wpTg tg) (wpIf cs (fun _ _ _ => False) none ifs) (wpE cs (fun _ _ _ => False) none elt) (wipeD ρ (own.map (·.2))) I.ok I.xs [] M1 fun acc M2 => ∀ p, M2 p = none → Q (.obj p) (mup M2 p (.lst acc))
  | .rev a => fun ρ M Q => wpE cs W xo a ρ M fun d M1 => vRev d M1 Q
  | .isit a Ts => fun ρ M Q => wpE cs W xo a ρ M fun d M1 => vIsit Ts d M1 Q
  | .dnew => fun _ M Q => ∀ p, M p = none → Q (.obj p) (mup M p (.dct []))
  | .ddsp k v => fun ρ M Q => ∀ p, M p = none → wpE cs W xo k ρ (mup M p (.dct [])) fun dk M1 => wpE cs W xo v ρ M1 fun dv M2 => M2 p = some (.dct []) ∧ (lkey dk).isSome = true ∧ Q (.obj p) (mup M2 p (.dct [(dk, dv)]))
  | .dget o es => fun ρ M Q => wpE cs W xo o ρ M fun d M1 => isDct M1 d = true ∧ wpA cs W xo es ρ M1 fun ds M2 => vDGet d ds M2 Q
  | .dzip a b => fun ρ M Q => wpE cs W xo a ρ M fun d M1 => wpE cs W xo b ρ M1 fun e M2 => vZip d e M2 Q
  | .lrng es => fun ρ M Q => wpA cs W xo es ρ M fun ds M1 => match ds with
    | [.int j] => 0 ≤ j ∧ j ≤ 16777216 ∧ ∀ q, M1 q = none → Q (.obj q) (mup M1 q (.lst ((List.range j.toNat).map fun k => .int (k : Nat))))
    | _ => False
def wpA (cs : Pk) (W : WD) (xo : XO) : MEs → TDA
  | .nil => fun _ M Q => Q [] M
  | .cons e es => fun ρ M Q => wpE cs W xo e ρ M fun d M1 => wpA cs W xo es ρ M1 fun ds M2 => Q (d :: ds) M2
def wpBo (cs : Pk) (W : WD) (xo : XO) (k : Bool) : MEs → TD
  | .nil => fun _ _ _ => False
  | .cons e es => fun ρ M Q => match es with
    | .nil => wpE cs W xo e ρ M Q
    | .cons _ _ => wpE cs W xo e ρ M fun d M1 => vTru d M1 fun b M2 => if b = k then wpBo cs W xo k es ρ M2 Q else Q d M2
def wpT (cs : Pk) (W : WD) (xo : XO) : MT → TDT
  | .val e => fun ρ M Q => wpE cs W xo e ρ M fun d M1 => vTru d M1 Q
  | .cmp o a b => fun ρ M Q => wpE cs W xo a ρ M fun d M1 => wpE cs W xo b ρ M1 fun e M2 => cmpS o d e M2 fun z M3 => vTru z M3 Q
  | .chn o o' a b c => fun ρ M Q => wpE cs W xo a ρ M fun d M1 => wpE cs W xo b ρ M1 fun e M2 => cmpS o d e M2 fun z M3 => match z with
    | .bl true => wpE cs W xo c ρ M3 fun f M4 => cmpS o' e f M4 fun z M5 => vTru z M5 Q
    | .bl false => vTru (.bl false) M3 Q
    | _ => False
  | .bo k ts => wpTs cs W xo k ts
  | .not t => fun ρ M Q => wpT cs W xo t ρ M fun b M1 => Q (!b) M1
def wpTs (cs : Pk) (W : WD) (xo : XO) (k : Bool) : MTs → TDT
  | .nil => fun _ _ _ => False
  | .cons t ts => fun ρ M Q => match ts with
    | .nil => wpT cs W xo t ρ M Q
    | .cons _ _ => wpT cs W xo t ρ M fun b M1 => if b = k then wpTs cs W xo k ts ρ M1 Q else Q (!k) M1
def wpIf (cs : Pk) (W : WD) (xo : XO) : MTs → TDT
  | .nil => fun _ M Q => Q true M
  | .cons t _ => wpT cs W xo t
def wpI (cs : Pk) (W : WD) (xo : XO) : MI → TDI
  | .of e => fun ρ M R => wpE cs W xo e ρ M fun d M1 => itsOf d M1 R
  | .rng es => fun ρ M R => wpA cs W xo es ρ M fun ds M1 => rngOf ds M1 R
  | .enu e => fun ρ M R => wpE cs W xo e ρ M fun d M1 => enuOf d M1 R
  | .zip a b => fun ρ M R => wpE cs W xo a ρ M fun d M1 => wpE cs W xo b ρ M1 fun e M2 => itsOf d M2 fun I M3 => itsOf e M3 fun J M4 => R ⟨zipL I.xs J.xs, fun M => I.ok M ∧ J.ok M⟩ M4
end

/-! ### statements -/
mutual
inductive MS where
  | set (tg : Tg) (e : ME)
  | par2 (i j : Nat) (a b : ME)
  | par3 (i j k : Nat) (a b c : ME)
  | setI (o i e : ME)
  | setF (c f : Nat) (o e : ME)
  | aug (i : Nat) (op : Operator) (e : ME)
  | augF (c f : Nat) (o : ME) (op : Operator) (e : ME)
  | ex (e : ME)
  | ret (e : ME)
  | retN
  | ifS (c : MT) (a b : MSs)
  | whl (c : MT) (b : MSs)
  | forS (tg : Tg) (it : MI) (b : MSs)
  | brk
  | cnt
  | pas
  | rse (c : Nat) (es : MEs)
  | tryS (b : MSs) (hs : MHs)
inductive MSs where
  | nil
  | cons (s : MS) (r : MSs)
inductive MHs where
  | nil
  | cons (c : Nat) (nm : Option Nat) (b : MSs) (r : MHs)
end
/-- a[i] = v on lists -/
def vSetI : D → D → D → Mem → (Mem → Prop) → Prop := fun o i v M Q => match o, i with
  | .obj a, .int j => match M a with
    | some (.lst xs) => match ixN xs.length j with
      | some k => Q (mup M a (.lst (xs.set k v)))
      | none => False
    | _ => False
  | _, _ => False
def vSetG : D → D → D → Mem → (Mem → Prop) → Prop := fun o i v M Q => if isDct M o = true then vDSet o i v M Q else vSetI o i v M Q
/-- a op= b, by values -/
def augS : Operator → R2D := fun o => match o with
  | .Add => fun d e M Q => match d, e with
    | .int i, .int j => Q (.int (i + j)) M
    | _, _ => False
  | .Sub => fun d e M Q => match d, e with
    | .int i, .int j => Q (.int (i - j)) M
    | _, _ => False
  | _ => fun _ _ _ _ => False
def putFd (fs : List D) (i : Nat) (v : D) : Option (List D) := if i < fs.length then some (fs.set i v) else if i = fs.length then some (fs ++ [v]) else none
mutual
def wpS (cs : Pk) (W : WD) (xo : XO) : MS → TDS
  | .set tg e => fun D ρ M => wpE cs W xo e ρ M fun d M1 => wpTg tg d ρ fun ρ' => D.nx ρ' M1
  | .par2 i j a b => fun D ρ M => wpE cs W xo a ρ M fun d M1 => wpE cs W xo b ρ M1 fun e M2 => D.nx ((ρ.set i (some d)).set j (some e)) M2
  | .par3 i j k a b c => fun D ρ M => wpE cs W xo a ρ M fun d M1 => wpE cs W xo b ρ M1 fun e M2 => wpE cs W xo c ρ M2 fun f M3 => D.nx (((ρ.set i (some d)).set j (some e)).set k (some f)) M3
  | .setI o i e => fun D ρ M => wpE cs W xo e ρ M fun v M1 => wpE cs W xo o ρ M1 fun d M2 => wpE cs W xo i ρ M2 fun j M3 => vSetG d j v M3 fun M4 => D.nx ρ M4
  | .setF c f o e => fun D ρ M => wpE cs W xo e ρ M fun v M1 => wpE cs W xo o ρ M1 fun d M2 => match d with
    | .obj p => match M2 p with
      | some (.ins c' fs) => c' = c ∧ match putFd fs f v with
        | some gs => D.nx ρ (mup M2 p (.ins c gs))
        | none => False
      | _ => False
    | _ => False
  | .aug i op e => fun D ρ M => match ρ[i]? with
    | some (some d) => wpE cs W xo e ρ M fun v M1 => augS op d v M1 fun z M2 => D.nx (ρ.set i (some z)) M2
    | _ => False
  | .augF c f o op e => fun D ρ M => wpE cs W xo o ρ M fun d M1 => match d with
    | .obj p => match M1 p with
      | some (.ins c' fs) => c' = c ∧ match fs[f]? with
        | some x => wpE cs W xo e ρ M1 fun v M2 => augS op x v M2 fun z M3 => match M3 p with
          | some (.ins c2 gs) => c2 = c ∧ f < gs.length ∧ D.nx ρ (mup M3 p (.ins c (gs.set f z)))
          | _ => False
        | none => False
      | _ => False
    | _ => False
  | .ex e => fun D ρ M => wpE cs W xo e ρ M fun _ M1 => D.nx ρ M1
  | .ret e => fun D ρ M => wpE cs W xo e ρ M D.rt
  | .retN => fun D _ M => D.rt .non M
  | .ifS c a b => fun D ρ M => wpT cs W xo c ρ M fun k M1 => if k = true then wpSs cs W xo a D ρ M1 else wpSs cs W xo b D ρ M1
  | .whl c b => fun D ρ M => ∃ I : Nat → En → Mem → Prop, (∃ m, I m ρ M) ∧ ∀ m ρ M, I m ρ M → wpT cs W xo c ρ M fun k M1 =>
    if k = true then wpSs cs W xo b { D with nx := fun ρ' M' => ∃ m' M'', m' < m ∧ Sub M'' M' ∧ I m' ρ' M'', ct := fun ρ' M' => ∃ m' M'', m' < m ∧ Sub M'' M' ∧ I m' ρ' M'', bk := D.nx } ρ M1 else D.nx ρ M1
  | .forS tg it b => fun D ρ M => wpI cs W xo it ρ M fun J M1 => ∃ I : Nat → En → Mem → Prop, I 0 ρ M1 ∧ ∀ i ρ M, I i ρ M → J.ok M ∧ match J.xs[i]? with
    | none => D.nx ρ M
    | some d => wpTg tg d ρ fun ρ' => wpSs cs W xo b { D with nx := fun ρ'' M' => ∃ M'', Sub M'' M' ∧ I (i + 1) ρ'' M'', ct := fun ρ'' M' => ∃ M'', Sub M'' M' ∧ I (i + 1) ρ'' M'', bk := D.nx } ρ' M
  | .brk => fun D ρ M => D.bk ρ M
  | .cnt => fun D ρ M => D.ct ρ M
  | .pas => fun D ρ M => D.nx ρ M
  | .rse c es => fun _ ρ M => wpA cs W xo es ρ M fun ds M1 => W ⟨c, ds⟩ ρ M1
  | .tryS b hs => fun D ρ M => wpSs cs (wpHs cs W hs D) none b D ρ M
def wpSs (cs : Pk) (W : WD) (xo : XO) : MSs → TDS
  | .nil => fun D ρ M => D.nx ρ M
  | .cons s r => fun D ρ M => ∃ Mid : En → Mem → Prop, wpS cs W xo s { D with nx := Mid } ρ M ∧ ∀ ρ' M', Mid ρ' M' → ∃ M'', Sub M'' M' ∧ wpSs cs W xo r D ρ' M''
def wpHs (cs : Pk) (W : WD) : MHs → EndsD → WD
  | .nil => fun _ => W
  | .cons c nm b r => fun D x ρ M => if cs.sub x.c c = true then ∀ a, match nm with
      | none => wpSs cs (fun _ _ _ => False) none b D ρ M
      | some i => wpSs cs (fun _ _ _ => False) (some (a, x)) b { nx := fun ρ' M' => D.nx (ρ'.set i none) M', rt := D.rt, bk := fun ρ' M' => D.bk (ρ'.set i none) M', ct := fun ρ' M' => D.ct (ρ'.set i none) M' } (ρ.set i (some (.obj a))) M
    else wpHs cs W r D x ρ M
end
end DL
set_option Elab.async false
set_option linter.all false
set_option maxRecDepth 100000
/-! DL6: the judgements of the small language's constructs, one lemma each. -/
namespace DL
open PySem PySem.Spec PyProof.Rows L2

/-! ### the tree's forms -/
def plainE : Expr → Bool
  | .BoolOp .. | .BinOp .. | .UnaryOp .. | .IfExp .. | .Dict .. | .ListComp .. | .DictComp .. | .Compare .. | .Call .. | .Constant .. | .Attribute .. | .Subscript .. | .Name .. | .List .. | .Tuple .. | .Lambda .. => true
  | _ => false
theorem star_plain {e : Expr} (h : plainE e = true) (es : List Expr) (env : Env) : starEach (e :: es) env = (false, eval e env) :: starEach es env := by
  cases e <;> first | rfl | cases h
theorem behind_plain {e : Expr} (h : plainE e = true) (op : CmpOp) : behindInMarks op e = false := by
  cases e <;> first | rfl | cases h
theorem folded_plain {e : Expr} (h : plainE e = true) (env : Env) (x : Value) : foldedSetIterable e env x = pure x := by
  cases e <;> first | rfl | cases h
theorem ix_plain {e : Expr} (h : plainE e = true) : PlainIx e := by
  intro o i; cases e <;> first | rfl | cases h
theorem aug_plain {e : Expr} (h : plainE e = true) (ov iv new : Value) : augStore e ov iv new = (do holding [new, ov, iv] (setItem ov iv new); release [new, ov, iv] []; pure .next) := by
  cases e <;> first | rfl | cases h
def plainEs (es : List Expr) : Bool := es.all plainE
theorem any_plain {es : List Expr} (h : plainEs es = true) (pos : Pos) (env : Env) : (backTo pos (starEach es env)).any (·.1) = false := by
  induction es with
  | nil => rfl
  | cons e es ih =>
    unfold plainEs at h
    rw [List.all_cons, Bool.and_eq_true] at h
    rw [star_plain h.1]
    unfold backTo at ih ⊢
    rw [List.map_cons, List.any_cons, ih h.2]; rfl
theorem all_plain {es : List Expr} (h : plainEs es = true) (pos : Pos) (env : Env) : (backTo pos (starEach es env)).all (fun x => !x.1) = true := by
  induction es with
  | nil => rfl
  | cons e es ih =>
    unfold plainEs at h
    rw [List.all_cons, Bool.and_eq_true] at h
    rw [star_plain h.1]
    unfold backTo at ih ⊢
    rw [List.map_cons, List.all_cons, ih h.2]; rfl
/-- a receiver that is no call without arguments -/
def recvE : Expr → Bool
  | .Call _ args _ _ => !args.isEmpty
  | .Starred .. | .Slice .. | .Set .. => false
  | _ => true
theorem base_plain {o : Expr} (h : recvE o = true) (attr : Str) (env : Env) (w : Sem Value) : attributeBase o attr env w = w := by
  cases o <;> first | rfl | skip
  rename_i f args kws pos
  cases args with
  | nil => cases h
  | cons a as => cases f <;> rfl
/-- a test that is a value's truth -/
def truE : Expr → Bool
  | .BinOp .. | .Call .. | .Constant .. | .Attribute .. | .Subscript .. | .Name .. | .List .. | .Tuple .. | .ListComp .. | .Dict .. | .DictComp .. => true
  | _ => false
theorem tru_plain {e : Expr} (h : truE e = true) (env : Env) (whole : Sem Value) : isTrue e env whole = (do let v ← whole; standAt e.pos; holding [v] (truthy v)) := by
  cases e <;> first | rfl | cases h

/-- a class of the program's own -/
structure ClsOk (G : Cfg) (ci : Str × List Str) : Prop where
  nd : ci.2.Nodup
  few : ci.2.length ≤ 900
  cls : ∃ C, G.mg ci.1 = some (.ref C) ∧ Cls G.K C ∧ ∀ f ∈ ci.2, NoAttr G.K C f
/-! ### where the code runs -/
structure CtxK (X : Cx) (G : Cfg) (N : List Str) (sc : Scope) : Prop where
  eK : X.K = G.K
  eM : X.mg = G.mg
  eP : X.prog = G.P
  ew : X.w = G.w
  eN : X.N = N
  nd : N.Nodup
  eS : X.env.scope = sc
  hu : X.A.units + 64 < cLine
  fb : ∀ x ∈ G.fb, G.mg x = none
  nc : ∀ ci, ci ∈ G.ct → ClsOk G ci
  gl : ∀ p ∈ G.gl, ∃ u v, G.mg p.1 = some u ∧ RelV v u ∧ ∀ H, RepD G.K H p.2 v
structure CtxOk (X : Cx) (G : Cfg) (N : List Str) (sc : Scope) : Prop extends CtxK X G N sc where
  calm : X.calm = true

section
variable {X : Cx} {G : Cfg} {N : List Str} {sc : Scope} {B : Bs} {W : WD} {pos : Pos} {a b c : Expr} {ta tb tc : TD}

theorem ld_lit {d : D} {v : V} {e : Expr} (h : PE X e (tC v)) (r : ∀ H, RepD G.K H d v) : PE X e (lift G B fun _ M Q => Q d M) :=
  h.weak fun σ H Q ⟨ρ, M, Q0, st, rs, rm, q, ok⟩ => ok d M H v q (r H) rm Step.rfl'
theorem ld_var {i : Nat} {x : Str} (C : CtxK X G N sc) (hN : N[i]? = some x) (hv : Vis sc x) (hd : (x == ("__debug__" : Str)) = false) (hcd : (x == ("__classdict__" : Str)) = false) :
    PE X (.Name x pos) (lift G B fun ρ M Q => match ρ[i]? with
      | some (some d) => Q d M
      | _ => False) := by
  refine (pe_var (i := i) (by rw [C.eN]; exact hN) (by rw [C.eS]; exact hv) hd hcd).weak fun σ H Q ⟨ρ, M, Q0, st, rs, rm, q, ok⟩ => ?_
  try dsimp only at q
  split at q
  · rename_i d e
    obtain ⟨v, ev, r⟩ := rs.2 i d e
    exact ⟨v, ev, ok d M H v q r rm Step.rfl'⟩
  · exact q.elim
/-- two parts, then r -/
theorem two_ok {r : R2D} {σ : L2.St} {H : Hp} {Q : VK} (h : lift G B (fun ρ M Q => ta ρ M fun d M1 => tb ρ M1 fun e M2 => r d e M2 Q) σ H Q) : tOp (lift2 G r) (lift G B ta) (lift G B tb) σ H Q := by
  obtain ⟨ρ, M, Q0, st, rs, rm, q, ok⟩ := h
  refine ⟨ρ, M, _, st, rs, rm, q, fun d M1 H1 x q1 r1 m1 s1 => ?_⟩
  refine ⟨ρ, M1, _, st.trans s1, rs.keep s1.kp, m1, q1, fun e M2 H2 y q2 r2 m2 s2 => ?_⟩
  exact ⟨d, e, M2, Q0, RepD.keep s2.kp _ _ r1, r2, m2, q2, ok.on (s1.trans s2)⟩
theorem ld_bin {op : Operator} {r : R2D} (ho : OpR X (binaryOp op) (lift2 G r)) (ha : PE X a (lift G B ta)) (hb : PE X b (lift G B tb)) :
    PE X (.BinOp a op b pos) (lift G B fun ρ M Q => ta ρ M fun d M1 => tb ρ M1 fun e M2 => r d e M2 Q) := (pe_op ho ha hb).weak fun _ _ _ h => two_ok h
theorem ld_cmp {op : CmpOp} {r : R2D} (ho : OpR X (compareOp op) (lift2 G r)) (ha : PE X a (lift G B ta)) (hb : PE X b (lift G B tb)) (hp : plainE b = true) :
    PE X (.Compare a [op] [b] pos) (lift G B fun ρ M Q => ta ρ M fun d M1 => tb ρ M1 fun e M2 => r d e M2 Q) := (pe_cmpR ho ha hb (behind_plain hp _)).weak fun _ _ _ h => two_ok h
theorem ld_idx {r : R2D} (ho : IxR X (lift2 G r)) (ha : PE X a (lift G B ta)) (hb : PE X b (lift G B tb)) (hp : plainE b = true) :
    PE X (.Subscript a b pos) (lift G B fun ρ M Q => ta ρ M fun d M1 => tb ρ M1 fun e M2 => r d e M2 Q) := (pe_ix ho ha hb (ix_plain hp)).weak fun _ _ _ h => two_ok h
theorem ld_neg (ha : PE X a (lift G B ta)) : PE X (.UnaryOp .USub a pos) (lift G B fun ρ M Q => ta ρ M fun d M1 => match d with
    | .int i => Q (.int (-i)) M1
    | _ => False) := by
  refine (pe_un un_neg ha).weak fun σ H Q ⟨ρ, M, Q0, st, rs, rm, q, ok⟩ => ?_
  refine ⟨ρ, M, _, st, rs, rm, q, fun d M1 H1 x q1 r1 m1 s1 => ?_⟩
  try dsimp only at q1
  split at q1
  · rename_i i
    rw [RepD.int] at r1; subst r1
    exact ⟨i, rfl, ok _ _ _ _ q1 (RepD.int.mpr rfl) m1 s1⟩
  · exact q1.elim
theorem ld_chn {op op' : CmpOp} {r r' : R2D} (ho : OpR X (compareOp op) (lift2 G r)) (ho' : OpR X (compareOp op') (lift2 G r')) (ha : PE X a (lift G B ta)) (hb : PE X b (lift G B tb)) (hc : PE X c (lift G B tc)) (hp : plainE c = true) :
    PE X (.Compare a [op, op'] [b, c] pos) (lift G B fun ρ M Q => ta ρ M fun d M1 => tb ρ M1 fun e M2 => r d e M2 fun z M3 => match z with
      | .bl true => tc ρ M3 fun f M4 => r' e f M4 Q
      | .bl false => Q (.bl false) M3
      | _ => False) := by
  refine (pe_chain ho ho' ha hb hc (behind_plain hp _)).weak fun σ H Q ⟨ρ, M, Q0, st, rs, rm, q, ok⟩ => ?_
  refine ⟨ρ, M, _, st, rs, rm, q, fun d M1 H1 x q1 r1 m1 s1 => ?_⟩
  refine ⟨ρ, M1, _, st.trans s1, rs.keep s1.kp, m1, q1, fun e M2 H2 y q2 r2 m2 s2 => ?_⟩
  refine ⟨d, e, M2, _, RepD.keep s2.kp _ _ r1, r2, m2, q2, fun z M3 H3 w q3 r3 m3 s3 => ?_⟩
  try dsimp only at q3
  split at q3
  · rw [RepD.bl] at r3; subst r3
    refine ⟨true, rfl, ?_⟩
    refine ⟨ρ, M3, _, st.trans ((s1.trans s2).trans s3), rs.keep ((s1.trans s2).trans s3).kp, m3, q3, fun f M4 H4 u q4 r4 m4 s4 => ?_⟩
    exact ⟨e, f, M4, Q0, RepD.keep (s3.trans s4).kp _ _ r2, r4, m4, q4, ok.on (((s1.trans s2).trans s3).trans s4)⟩
  · rw [RepD.bl] at r3; subst r3
    exact ⟨false, rfl, ok _ _ _ _ q3 (RepD.bl.mpr rfl) m3 ((s1.trans s2).trans s3)⟩
  · exact q3.elim

/-! ### argument lists, displays -/
theorem la_nil : PA X [] (liftA G B 0 fun _ M Q => Q [] M) := pa_nil.weak fun σ H Q ⟨ρ, M, Q0, st, rs, rm, q, ok⟩ => ok [] M H [] rfl q (RepL.nil.mpr rfl) rm Step.rfl'
theorem la_cons {es : List Expr} {n : Nat} {t : TDA} (ha : PE X a (lift G B ta)) (hr : PA X es (liftA G B n t)) (hp : plainE a = true) :
    PA X (a :: es) (liftA G B (n + 1) fun ρ M Q => ta ρ M fun d M1 => t ρ M1 fun ds M2 => Q (d :: ds) M2) := by
  refine (pa_cons ha hr (star_plain hp _ _)).weak fun σ H Q ⟨ρ, M, Q0, st, rs, rm, q, ok⟩ => ?_
  refine ⟨ρ, M, _, st, rs, rm, q, fun d M1 H1 x q1 r1 m1 s1 => ?_⟩
  refine ⟨ρ, M1, _, st.trans s1, rs.keep s1.kp, m1, q1, fun ds M2 H2 vs l q2 r2 m2 s2 => ?_⟩
  exact ok (d :: ds) M2 H2 (x :: vs) (by simp [l]) q2 (RepL.cons.mpr ⟨x, vs, rfl, RepD.keep s2.kp _ _ r1, r2⟩) m2 (s1.trans s2)
theorem ld_tup {es : List Expr} {n k : Nat} {t : TDA} (h : PA X es (liftA G B n t)) (hn : n ≤ big) : PE X (.Tuple es k pos) (lift G B fun ρ M Q => t ρ M fun ds M1 => Q (.tup ds) M1) := by
  refine (pe_tup h).weak fun σ H Q ⟨ρ, M, Q0, st, rs, rm, q, ok⟩ => ?_
  refine ⟨ρ, M, _, st, rs, rm, q, fun ds M1 H1 vs l q1 r1 m1 s1 => ⟨by rw [← r1.length, l, big_eq]; exact hn, fun p hp => ?_⟩⟩
  exact ok _ _ _ _ q1 (new_tup hp r1) (m1.skip hp) (s1.trans (Step.hid hp))
theorem ld_lst {es : List Expr} {n : Nat} {t : TDA} (h : PA X es (liftA G B n t)) (hn : n ≤ big) : PE X (.List es pos) (lift G B fun ρ M Q => t ρ M fun ds M1 => ∀ p, M1 p = none → Q (.obj p) (mup M1 p (.lst ds))) := by
  refine (pe_lst h).weak fun σ H Q ⟨ρ, M, Q0, st, rs, rm, q, ok⟩ => ?_
  refine ⟨ρ, M, _, st, rs, rm, q, fun ds M1 H1 vs l q1 r1 m1 s1 => ⟨by rw [← r1.length, l, big_eq]; exact hn, fun p hp => ?_⟩⟩
  exact ok _ _ _ _ (q1 p (m1.none hp)) (RepD.obj.mpr rfl) (new_lst m1 hp r1) (s1.trans (Step.new' hp))

/-! ### truth, and, or, not, if -/
theorem tru_ok' {H : Hp} {M : Mem} {d : D} {v : V} {Q0 : Bool → Mem → Prop} (C : CtxK X G N sc) (r : RepD G.K H d v) (m : RepM G H M) (h : vTru d M Q0) : ∃ k, TruV X.K v H k ∧ Q0 k M := tru_rep C.eK r m h
theorem ld_and {rest : List Expr} (C : CtxK X G N sc) (ha : PE X a (lift G B ta)) (hb : PE X (.BoolOp .And (b :: rest) pos) (lift G B tb)) :
    PE X (.BoolOp .And (a :: b :: rest) pos) (lift G B fun ρ M Q => ta ρ M fun d M1 => vTru d M1 fun k M2 => if k = true then tb ρ M2 Q else Q d M2) := by
  refine (pe_andT ha hb).weak fun σ H Q ⟨ρ, M, Q0, st, rs, rm, q, ok⟩ => ?_
  refine ⟨ρ, M, _, st, rs, rm, q, fun d M1 H1 x q1 r1 m1 s1 => ?_⟩
  obtain ⟨k, hk, q2⟩ := tru_ok' C r1 m1 q1
  refine ⟨k, hk, ?_⟩
  cases k with
  | true => exact ⟨ρ, M1, Q0, st.trans s1, rs.keep s1.kp, m1, q2, ok.on s1⟩
  | false => exact ok _ _ _ _ q2 r1 m1 s1
theorem ld_or {rest : List Expr} (C : CtxK X G N sc) (ha : PE X a (lift G B ta)) (hb : PE X (.BoolOp .Or (b :: rest) pos) (lift G B tb)) :
    PE X (.BoolOp .Or (a :: b :: rest) pos) (lift G B fun ρ M Q => ta ρ M fun d M1 => vTru d M1 fun k M2 => if k = false then tb ρ M2 Q else Q d M2) := by
  refine (pe_orT ha hb).weak fun σ H Q ⟨ρ, M, Q0, st, rs, rm, q, ok⟩ => ?_
  refine ⟨ρ, M, _, st, rs, rm, q, fun d M1 H1 x q1 r1 m1 s1 => ?_⟩
  obtain ⟨k, hk, q2⟩ := tru_ok' C r1 m1 q1
  refine ⟨k, hk, ?_⟩
  cases k with
  | false => exact ⟨ρ, M1, Q0, st.trans s1, rs.keep s1.kp, m1, q2, ok.on s1⟩
  | true => exact ok _ _ _ _ q2 r1 m1 s1
theorem ld_one {op : BoolOp} (ha : PE X a (lift G B ta)) : PE X (.BoolOp op [a] pos) (lift G B ta) := pe_one ha
theorem ld_not (C : CtxK X G N sc) (ha : PE X a (lift G B ta)) : PE X (.UnaryOp .Not a pos) (lift G B fun ρ M Q => ta ρ M fun d M1 => vTru d M1 fun b M2 => Q (.bl (!b)) M2) := by
  refine (pe_notT ha).weak fun σ H Q ⟨ρ, M, Q0, st, rs, rm, q, ok⟩ => ?_
  refine ⟨ρ, M, _, st, rs, rm, q, fun d M1 H1 x q1 r1 m1 s1 => ?_⟩
  obtain ⟨k, hk, q2⟩ := tru_ok' C r1 m1 q1
  exact ⟨k, hk, ok _ _ _ _ q2 (RepD.bl.mpr rfl) m1 s1⟩
/-- the test of a term -/
def tstD (t : TD) : TDT := fun ρ M Q => t ρ M fun d M1 => vTru d M1 Q
theorem lt_val (C : CtxK X G N sc) (ha : PE X a (lift G B ta)) (he : truE a = true) : PT X a (liftT G B (tstD ta)) := by
  refine (pt_truth ha (fun wh => tru_plain he _ wh)).weak fun σ H Q ⟨ρ, M, Q0, st, rs, rm, q, ok⟩ => ?_
  refine ⟨ρ, M, _, st, rs, rm, q, fun d M1 H1 x q1 r1 m1 s1 => ?_⟩
  obtain ⟨k, hk, q2⟩ := tru_ok' C r1 m1 q1
  exact ⟨k, hk, ok _ _ _ q2 m1 s1⟩
theorem lt_cmp {op : CmpOp} {r : R2D} (hr : ∀ d e M Q, r d e M (fun z M' => vTru z M' Q) → r d e M (fun z M' => ∃ k, z = .bl k ∧ Q k M')) (ho : OpR X (compareOp op) (lift2 G r)) (ha : PE X a (lift G B ta)) (hb : PE X b (lift G B tb)) (hp : plainE b = true) :
    PT X (.Compare a [op] [b] pos) (liftT G B (tstD fun ρ M Q => ta ρ M fun d M1 => tb ρ M1 fun e M2 => r d e M2 Q)) := by
  refine (pt_cmpR ho ha hb (behind_plain hp _)).weak fun σ H Q ⟨ρ, M, Q0, st, rs, rm, q, ok⟩ => ?_
  refine ⟨ρ, M, _, st, rs, rm, q, fun d M1 H1 x q1 r1 m1 s1 => ?_⟩
  refine ⟨ρ, M1, _, st.trans s1, rs.keep s1.kp, m1, q1, fun e M2 H2 y q2 r2 m2 s2 => ?_⟩
  refine ⟨d, e, M2, _, RepD.keep s2.kp _ _ r1, r2, m2, hr _ _ _ _ q2, fun z M3 H3 w q3 r3 m3 s3 => ?_⟩
  obtain ⟨k, rfl, q3⟩ := q3
  rw [RepD.bl] at r3
  exact ⟨k, r3, ok _ _ _ q3 m3 ((s1.trans s2).trans s3)⟩
theorem lt_chn {op op' : CmpOp} {r r' : R2D} (hr' : ∀ d e M Q, r' d e M (fun z M' => vTru z M' Q) → r' d e M (fun z M' => ∃ k, z = .bl k ∧ Q k M')) (ho : OpR X (compareOp op) (lift2 G r)) (ho' : OpR X (compareOp op') (lift2 G r')) (ha : PE X a (lift G B ta)) (hb : PE X b (lift G B tb)) (hc : PE X c (lift G B tc)) (hp : plainE c = true) :
    PT X (.Compare a [op, op'] [b, c] pos) (liftT G B (tstD fun ρ M Q => ta ρ M fun d M1 => tb ρ M1 fun e M2 => r d e M2 fun z M3 => match z with
      | .bl true => tc ρ M3 fun f M4 => r' e f M4 Q
      | .bl false => Q (.bl false) M3
      | _ => False)) := by
  refine (pt_chain ho ho' ha hb hc (behind_plain hp _)).weak fun σ H Q ⟨ρ, M, Q0, st, rs, rm, q, ok⟩ => ?_
  refine ⟨ρ, M, _, st, rs, rm, q, fun d M1 H1 x q1 r1 m1 s1 => ?_⟩
  refine ⟨ρ, M1, _, st.trans s1, rs.keep s1.kp, m1, q1, fun e M2 H2 y q2 r2 m2 s2 => ?_⟩
  refine ⟨d, e, M2, _, RepD.keep s2.kp _ _ r1, r2, m2, q2, fun z M3 H3 w q3 r3 m3 s3 => ?_⟩
  split at q3
  · rw [RepD.bl] at r3; subst r3
    refine ⟨true, rfl, ?_⟩
    refine ⟨ρ, M3, _, st.trans ((s1.trans s2).trans s3), rs.keep ((s1.trans s2).trans s3).kp, m3, q3, fun f M4 H4 u q4 r4 m4 s4 => ?_⟩
    refine ⟨e, f, M4, _, RepD.keep (s3.trans s4).kp _ _ r2, r4, m4, hr' _ _ _ _ q4, fun z M5 H5 w q5 r5 m5 s5 => ?_⟩
    obtain ⟨k, rfl, q5⟩ := q5
    rw [RepD.bl] at r5
    exact ⟨k, r5, ok _ _ _ q5 m5 ((((s1.trans s2).trans s3).trans s4).trans s5)⟩
  · rw [RepD.bl] at r3; subst r3
    exact ⟨false, rfl, false, rfl, ok _ _ _ q3 m3 ((s1.trans s2).trans s3)⟩
  · exact q3.elim
theorem lt_not {t : TDT} (ha : PT X a (liftT G B t)) : PT X (.UnaryOp .Not a pos) (liftT G B fun ρ M Q => t ρ M fun b M1 => Q (!b) M1) := by
  refine (pt_not ha).weak fun σ H Q ⟨ρ, M, Q0, st, rs, rm, q, ok⟩ => ?_
  exact ⟨ρ, M, _, st, rs, rm, q, fun b M1 H1 q1 m1 s1 => ok _ _ _ q1 m1 s1⟩
theorem lw_one {op : BoolOp} {t : TDT} (ha : PT X a (liftT G B t)) : PW X (.BoolOp op [a] pos) (liftT G B t) := by
  cases op with
  | And => exact pw_and1 ha
  | Or => exact pw_or1 ha
theorem lw_and {rest : List Expr} {t u : TDT} (ha : PT X a (liftT G B t)) (hb : PW X (.BoolOp .And (b :: rest) pos) (liftT G B u)) :
    PW X (.BoolOp .And (a :: b :: rest) pos) (liftT G B fun ρ M Q => t ρ M fun k M1 => if k = true then u ρ M1 Q else Q false M1) := by
  refine (pw_and ha hb).weak fun σ H Q ⟨ρ, M, Q0, st, rs, rm, q, ok⟩ => ?_
  refine ⟨ρ, M, _, st, rs, rm, q, fun k M1 H1 q1 m1 s1 => ?_⟩
  cases k with
  | true => exact ⟨ρ, M1, Q0, st.trans s1, rs.keep s1.kp, m1, q1, ok.on s1⟩
  | false => exact ok _ _ _ q1 m1 s1
theorem lw_or {rest : List Expr} {t u : TDT} (ha : PT X a (liftT G B t)) (hb : PW X (.BoolOp .Or (b :: rest) pos) (liftT G B u)) :
    PW X (.BoolOp .Or (a :: b :: rest) pos) (liftT G B fun ρ M Q => t ρ M fun k M1 => if k = false then u ρ M1 Q else Q true M1) := by
  refine (pw_or ha hb).weak fun σ H Q ⟨ρ, M, Q0, st, rs, rm, q, ok⟩ => ?_
  refine ⟨ρ, M, _, st, rs, rm, q, fun k M1 H1 q1 m1 s1 => ?_⟩
  cases k with
  | false => exact ⟨ρ, M1, Q0, st.trans s1, rs.keep s1.kp, m1, q1, ok.on s1⟩
  | true => exact ok _ _ _ q1 m1 s1
theorem ld_ite {t : TDT} (hc : PT X c (liftT G B t)) (ha : PE X a (lift G B ta)) (hb : PE X b (lift G B tb)) :
    PE X (.IfExp c a b pos) (lift G B fun ρ M Q => t ρ M fun k M1 => if k = true then ta ρ M1 Q else tb ρ M1 Q) := by
  refine (pe_ifExp hc ha hb).weak fun σ H Q ⟨ρ, M, Q0, st, rs, rm, q, ok⟩ => ?_
  refine ⟨ρ, M, _, st, rs, rm, q, fun k M1 H1 q1 m1 s1 => ?_⟩
  cases k with
  | true => exact ⟨ρ, M1, Q0, st.trans s1, rs.keep s1.kp, m1, q1, ok.on s1⟩
  | false => exact ⟨ρ, M1, Q0, st.trans s1, rs.keep s1.kp, m1, q1, ok.on s1⟩

/-! ### slices -/
def liftO (G : Cfg) (B : Bs) (t : En → Mem → (Option Int → Mem → Prop) → Prop) : TO := fun σ H Q => ∃ ρ M Q0, Step B.H B.M H M ∧ RepS G.K H ρ σ ∧ RepM G H M ∧ t ρ M Q0 ∧ ∀ o M' H', Q0 o M' → RepM G H' M' → Step H M H' M' → Q o H'
theorem lo_none : PO X none (liftO G B (optI fun _ M Q => Q [] M)) := by
  refine ⟨fun pins s σ H Q I ⟨ρ, M, Q0, st, rs, rm, q, ok⟩ => po_none.run pins s σ H Q I (ok none M H q rm Step.rfl')⟩
theorem lo_some (ha : PE X a (lift G B ta)) : PO X (some a) (liftO G B (optI fun ρ M Q => ta ρ M fun d M1 => Q [d] M1)) := by
  refine ⟨fun pins s σ H Q I ⟨ρ, M, Q0, st, rs, rm, q, ok⟩ => (po_some ha).run pins s σ H Q I ⟨ρ, M, _, st, rs, rm, q, fun d M1 H1 x q1 r1 m1 s1 => ?_⟩⟩
  try dsimp only at q1
  split at q1
  · rename_i h; cases h
  · rename_i i h
    cases h
    rw [RepD.int] at r1
    exact ⟨i, r1, ok _ _ _ q1 m1 s1⟩
  · exact q1.elim
theorem ld_slc {r : RSD} {lo hi : Option Expr} {p2 : Pos} {tl th : En → Mem → (Option Int → Mem → Prop) → Prop} (hr : SlR X (liftSl G r)) (ha : PE X a (lift G B ta)) (hl : PO X lo (liftO G B tl)) (hh : PO X hi (liftO G B th)) :
    PE X (.Subscript a (.Slice lo hi none p2) pos) (lift G B fun ρ M Q => ta ρ M fun d M1 => tl ρ M1 fun l M2 => th ρ M2 fun u M3 => r d l u M3 Q) := by
  refine (pe_slice hr ha hl hh).weak fun σ H Q ⟨ρ, M, Q0, st, rs, rm, q, ok⟩ => ?_
  refine ⟨ρ, M, _, st, rs, rm, q, fun d M1 H1 x q1 r1 m1 s1 => ?_⟩
  refine ⟨ρ, M1, _, st.trans s1, rs.keep s1.kp, m1, q1, fun l M2 H2 q2 m2 s2 => ?_⟩
  refine ⟨ρ, M2, _, (st.trans s1).trans s2, rs.keep (s1.trans s2).kp, m2, q2, fun u M3 H3 q3 m3 s3 => ?_⟩
  exact ⟨d, M3, Q0, RepD.keep (s2.trans s3).kp _ _ r1, m3, q3, ok.on ((s1.trans s2).trans s3)⟩

/-! ### fields -/
theorem rep_fld {H : Hp} {fs : List D} {fv : List (Str × V)} {ns : List Str} {i : Nat} {f : Str} {d : D} (nd : ns.Nodup) (hf : ns[i]? = some f) (hn : fv.map (·.1) = ns.take fs.length) (r : RepL G.K H fs (fv.map (·.2))) (e : fs[i]? = some d) :
    ∃ v, fv.lookup f = some v ∧ RepD G.K H d v := by
  obtain ⟨v, ev, rv⟩ := r.get e
  refine ⟨v, ?_, rv⟩
  have hi : i < fs.length := (List.getElem?_eq_some_iff.mp e).1
  have e1 : (fv.map (·.1))[i]? = some f := by rw [hn, List.getElem?_take_of_lt hi]; exact hf
  rw [List.getElem?_map] at e1 ev
  cases q : fv[i]? with
  | none => rw [q] at e1; cases e1
  | some p =>
    rw [q] at e1 ev
    simp only [Option.map_some, Option.some.injEq] at e1 ev
    obtain ⟨x, y⟩ := p
    simp only at e1 ev
    subst e1 ev
    have nd2 : (fv.map (·.1)).Nodup := by rw [hn]; exact nd.sublist (List.take_sublist _ _)
    clear hn r hf e rv hi
    induction fv generalizing i with
    | nil => simp at q
    | cons z zs ih =>
      obtain ⟨zk, zv⟩ := z
      rw [List.map_cons, List.nodup_cons] at nd2
      cases i with
      | zero => simp at q; obtain ⟨rfl, rfl⟩ := q; simp [List.lookup]
      | succ j =>
        simp only [List.getElem?_cons_succ] at q
        have : x ≠ zk := fun h => nd2.1 (by rw [← h]; exact List.mem_map.mpr ⟨(x, y), List.mem_of_getElem? q, rfl⟩)
        rw [List.lookup_cons]
        have h2 : (x == zk) = false := by simp [this]
        rw [h2]
        exact ih q nd2.2
theorem ld_fld {ci : Str × List Str} {k i : Nat} {f : Str} (C : CtxK X G N sc) (hci : G.ct[k]? = some ci) (hk : ClsOk G ci) (hf : ci.2[i]? = some f) (ha : PE X a (lift G B ta)) (hr : recvE a = true) :
    PE X (.Attribute a f pos) (lift G B fun ρ M Q => ta ρ M fun d M1 => match d with
      | .obj p => match M1 p with
        | some (.ins c' fs) => c' = k ∧ match fs[i]? with
          | some x => Q x M1
          | none => False
        | _ => False
      | _ => False) := by
  refine (pe_fld ha (base_plain hr _ _ _)).weak fun σ H Q ⟨ρ, M, Q0, st, rs, rm, q, ok⟩ => ?_
  refine ⟨ρ, M, _, st, rs, rm, q, fun d M1 H1 x q1 r1 m1 s1 => ?_⟩
  try dsimp only at q1
  split at q1
  · rename_i p
    rw [RepD.obj] at r1; subst r1
    split at q1
    · rename_i c' fs e
      obtain ⟨rfl, q1⟩ := q1
      split at q1
      · rename_i z ez
        obtain ⟨ho, h1, ci', C', dx, fv, h2, h3, rfl, h4, h5⟩ := m1 p _ e
        rw [hci] at h2; cases h2
        obtain ⟨C2, g1, g2, g3⟩ := hk.cls
        rw [h3] at g1; cases g1
        obtain ⟨v, ev, rv⟩ := rep_fld hk.nd hf h4 h5 ez
        exact ⟨p, C', dx, fv, v, rfl, h1, by rw [C.eK]; exact g2, by rw [C.eK]; exact g3 f (List.mem_of_getElem? hf), ev, ok _ _ _ _ q1 rv m1 s1⟩
      · exact q1.elim
    · exact q1.elim
  · exact q1.elim
end
end DL
set_option Elab.async false
set_option linter.all false
set_option maxRecDepth 100000
/-! DL7: calls, walks, comprehensions of the small language. -/
namespace DL
open PySem PySem.Spec PyProof.Rows L2

/-! ### the defs that are called -/
def Cal.Ok (P : Program) (w : World) (G : Cfg) (base : Heap) (c : Cal) : Prop := match c.kind with
  | .fn => ∃ f fd ps, G.mg c.nm = some (.ref f) ∧ PySem.W.keepIn G.K (.ref f) = true ∧ Binds G.K fd ps [] ∧ ps.length = c.ar ∧ FnOk P w G.K G.mg base (CX P w) c.lev f fd ps (liftSp G c.ar c.sp)
  | .me k => ∃ ci C f fd ps, G.ct[k]? = some ci ∧ G.mg ci.1 = some (.ref C) ∧ Cls G.K C ∧ Meth G.K C c.nm f ∧ c.nm ∉ ci.2 ∧ Binds G.K fd ps [] ∧ ps.length = c.ar ∧ FnOk P w G.K G.mg base (CX P w) c.lev f fd ps (liftSp G c.ar c.sp)
  | .mk k => ∃ ci C f fd ps, G.ct[k]? = some ci ∧ ci.1 = c.nm ∧ G.mg ci.1 = some (.ref C) ∧ Mk G.K C f ∧ Binds G.K fd ps [] ∧ ps.length = c.ar ∧ FnOk P w G.K G.mg base (CX P w) c.lev f fd ps (liftSp G c.ar c.sp)
/-- the room that a call needs -/
def Cal.need (c : Cal) : Nat := match c.kind with
  | .mk _ => c.lev + 1
  | _ => c.lev

section
variable {X : Cx} {G : Cfg} {N : List Str} {sc : Scope} {B : Bs} {W : WD} {pos : Pos} {a b c : Expr} {ta tb tc : TD} {x : Str} {p apos : Pos} {es : List Expr} {n : Nat} {t : TDA}
/-- a callee's promise at a call -/
theorem sp_at {c : Cal} {ρ : En} {M : Mem} {Q0 : DK} {ds : List D} {vs : List V} {H1 : Hp} {σ : L2.St} {Q : VK} (st : Step B.H B.M H1 M) (rs : RepS G.K H1 ρ σ) (l : ds.length = c.ar) (r : RepL G.K H1 ds vs) (m : RepM G H1 M)
    (q : c.sp ds M Q0 fun x M' => W x ρ M') (ok : OkK G H1 M Q0 Q) : liftSp G c.ar c.sp vs H1 Q (WE (liftW G B W) σ) :=
  ⟨ds, M, Q0, _, l, r, m, q, ok, fun x M' H' cls dx w rx rm s => ⟨x, ρ, M', st.trans s, rx, rs.keep s.kp, rm, w⟩⟩
theorem run_makeS {C f : Addr} {CX : CXT} {k : Nat} {fd : FuncData} {ps : List Str} {sp : Sp} {E : L2.St → XK} {pins : List (Addr × Obj)} {σ : L2.St} {H : Hp} {s : Shared} {Q : VK} {us : List Value} {vs : List V} (M : Mk X.K C f) (F : FnOk X.prog X.w X.K X.mg X.base CX k f fd ps sp) (hr : Room (k + 1) X.A) (hb : Binds X.K fd ps [])
    (hx : ∀ (H' : Hp) (s s' : Shared) (e : Value), Inv X pins σ H' s → CX X.stack H' s (E σ) e s' → X.xe e s') (I : Inv X pins σ H s) (r : Vals vs us)
    (h : ∀ x dx, H x = none → H dx = none → dx ≠ x → sp (.ref x :: vs) (upd (upd H dx (.own x)) x (.ins C dx [])) (fun v H2 => v = .non ∧ Q (.ref x) H2) (E σ)) :
    wpAny (model X.prog X.w) X.A (call (.ref C) us) (EP X pins σ Q) X.xe s := by
  have hq := h (s.heap.objs.size + 1) s.heap.objs.size (I.hok.fresh (Nat.le_succ _)) (I.hok.fresh (Nat.le_refl _)) (Nat.ne_of_lt (Nat.lt_succ_self _))
  have I2 := Inv.made (C := C) I
  have r2 : Vals (V.ref (s.heap.objs.size + 1) :: vs) (Value.ref (s.heap.objs.size + 1) :: us) := .cons rfl r
  have hl : (Value.ref (s.heap.objs.size + 1) :: us).length = ps.length := by
    have e := r2.length
    rw [F.len _ _ _ _ hq] at e
    exact e.symm
  have hb2 := hb _ (Value.ref (s.heap.objs.size + 1) :: us) I2.kIn (by rw [List.append_nil]; exact hl)
  rw [List.append_nil] at hb2
  refine wpAny_call (make_map (f := f) I.kIn M.makes M.init (beq_iff_eq.mp M.fn) (codeAny_mono (F.run _ X.stack _ _ ⟨Value.ref (s.heap.objs.size + 1) :: us, []⟩ (Value.ref (s.heap.objs.size + 1) :: us) _ _ (E σ) (hr.make C us [])
    (I2.env0.make C us []) hb2 r2 hq) fun r s' hq' => ?_))
  cases r with
  | error e => exact hx _ _ s' e I2 hq'
  | ok fl =>
    cases fl with
    | ret u =>
      obtain ⟨v, H', I3, rv, ev, q3⟩ := I2.after hq'
      subst ev
      exact ⟨rv, ⟨V.ref (s.heap.objs.size + 1), H', I3, rfl, q3⟩⟩
    | next => exact False.elim hq'
    | brk => exact False.elim hq'
    | cont => exact False.elim hq'

theorem ld_call0 {k : Nat} {cl : Cal} (C : CtxK X G N sc) (hk : cl.kind = .fn) (F : cl.Ok X.prog X.w G X.base) (ha : cl.ar = 0) (hr : Room cl.need X.A) (tk : Takes X (liftW G B W)) (hg : Gl X cl.nm) (hdb : (cl.nm == ("__debug__" : Str)) = false) :
    PE X (.Call (.Name cl.nm p) [] [] pos) (lift G B fun ρ M Q => cl.sp [] M Q fun x M' => W x ρ M') := by
  unfold Cal.Ok at F
  unfold Cal.need at hr
  rw [hk] at F hr
  obtain ⟨f, fd, ps, h1, h2, h3, h4, h5⟩ := F
  refine ⟨fun pins s σ H Q I h => ?_⟩
  obtain ⟨ρ, M, Q0, st, rs, rm, q, ok⟩ := h
  refine wpAny_Call_Name_kw (ld_glob I hg (by rw [C.eM]; exact h1) ?_ hdb)
  refine PySem.W.callWith_K0 I.kIn (by rw [C.eK]; exact h2) ?_
  rw [← C.eK, ← C.eM] at h5
  rw [← C.eK] at h3
  exact run_fnS (us := []) h5 hr h3 (passAt tk σ) I .nil (sp_at st rs (by rw [ha]; rfl) (RepL.nil.mpr rfl) rm q ok)
theorem ld_callN {e : Expr} {cl : Cal} (C : CtxK X G N sc) (hk : cl.kind = .fn) (F : cl.Ok X.prog X.w G X.base) (ha : cl.ar = n) (hr : Room cl.need X.A) (tk : Takes X (liftW G B W)) (hg : Gl X cl.nm) (hdb : (cl.nm == ("__debug__" : Str)) = false)
    (hp : plainEs (e :: es) = true) (hA : PA X (e :: es) (liftA G B n t)) : PE X (.Call (.Name cl.nm p) (e :: es) [] pos) (lift G B fun ρ M Q => t ρ M fun ds M1 => cl.sp ds M1 Q fun x M' => W x ρ M') := by
  unfold Cal.Ok at F
  unfold Cal.need at hr
  rw [hk] at F hr
  obtain ⟨f, fd, ps, h1, h2, h3, h4, h5⟩ := F
  unfold plainEs at hp
  rw [List.all_cons, Bool.and_eq_true] at hp
  rw [← C.eK, ← C.eM] at h5
  rw [← C.eK] at h3
  refine (pe_callS (E := WE (liftW G B W)) h5 hr hg (by rw [C.eM]; exact h1) (by rw [C.eK]; exact h2) h3 (fun σ => passAt tk σ) hA hdb (star_plain hp.1 _ _) (any_plain hp.2 _ _)).weak fun σ H Q ⟨ρ, M, Q0, st, rs, rm, q, ok⟩ => ?_
  refine ⟨ρ, M, _, st, rs, rm, q, fun ds M1 H1 vs l q1 r1 m1 s1 => ?_⟩
  have z := sp_at (W := W) (σ := σ) (c := cl) (Q := Q) (st.trans s1) (rs.keep s1.kp) (by rw [l, ha]) r1 m1 q1 (ok.on s1)
  exact z
/-- o.m(..) as the machine does it -/
def plainOf (o : Expr) (env : Env) : Sem Bool := do return (← importBound o env).getD true
theorem mcall_line {o : Expr} {m : Str} {env : Env} {ov : Value} {k : Nat} {args : List (Bool × Sem Value)} {kws : List (Option Str × Sem Value)} (hf : methodCallForm k args kws = true) (hl : (apos.endLine == pos.line) = true) :
    methodCall o m apos pos env ov k args kws = (do
      let (f, first) ← holding [ov] (getMethod ov m (plainOf o env))
      callWith pos f first args kws) := by
  have e1 : calleeOf (methodCallForm k args kws) o env ov m = getMethod ov m (plainOf o env) := by
    rw [hf] <;> rfl
  have e2 : methodCallPos (methodCallForm k args kws) o env apos pos = pure pos := by
    unfold methodCallPos
    exact if_pos (by rw [hl, Bool.or_true])
  unfold methodCall
  rw [e1, e2]
  first
    | rfl
    | simp only [pure_bind]
theorem few_plain (hp : plainEs es = true) (hl : es.length < 29) (env : Env) : methodCallForm (es.length + ([] : List Keyword).length) (backTo pos (starEach es env)) (backToKw pos (keywordEach [] env)) = true := by
  unfold methodCallForm
  rw [all_plain hp]
  show (true && true && decide (es.length + 0 + 0 < 30)) = true
  rw [decide_eq_true (by omega)]; rfl
theorem eval_meth {o : Expr} {m : Str} {env : Env} (hr : recvE o = true) (hp : plainEs es = true) (hn : es.length < 29) (hl : (apos.endLine == pos.line) = true) : eval (.Call (.Attribute o m apos) es [] pos) env = (do
      let ov ← eval o env
      standAt apos.atName
      let (f, first) ← holding [ov] (getMethod ov m (plainOf o env))
      callWith pos f first (backTo pos (starEach es env)) (backToKw pos (keywordEach [] env))) := by
  rw [arm_eval_Call, base_plain hr]
  exact congrArg (fun f => eval o env >>= f) (funext fun ov => congrArg (fun g => standAt apos.atName >>= g) (funext fun _ => mcall_line (few_plain hp hn env) hl))
/-- the receiver is an own instance -/
def onIns (k : Nat) (d : D) (M : Mem) (R : Prop) : Prop := match d with
  | .obj p => match M p with
    | some (.ins c' fs) => c' = k ∧ R
    | _ => False
  | _ => False
theorem look_none {fv : List (Str × V)} {ns : List Str} {m : Str} {k : Nat} (h : fv.map (·.1) = ns.take k) (hm : m ∉ ns) : fv.lookup m = none := by
  have h2 : m ∉ fv.map (·.1) := by rw [h]; exact fun z => hm (List.mem_of_mem_take z)
  clear h
  induction fv with
  | nil => rfl
  | cons z zs ih =>
    obtain ⟨zk, zv⟩ := z
    rw [List.map_cons, List.mem_cons, not_or] at h2
    rw [List.lookup_cons]
    have : (m == zk) = false := by simp [h2.1]
    rw [this]
    exact ih h2.2
theorem ld_methN {o e : Expr} {cl : Cal} {k : Nat} (C : CtxK X G N sc) (hk : cl.kind = .me k) (F : cl.Ok X.prog X.w G X.base) (ha : cl.ar = n + 1) (hr : Room cl.need X.A) (tk : Takes X (liftW G B W))
    (ho : PE X o (lift G B ta)) (hre : recvE o = true) (hp : plainEs (e :: es) = true) (hA : PA X (e :: es) (liftA G B n t)) (hn : (e :: es).length < 29) (hl : (apos.endLine == pos.line) = true) :
    PE X (.Call (.Attribute o cl.nm apos) (e :: es) [] pos) (lift G B fun ρ M Q => ta ρ M fun d M1 => onIns k d M1 (t ρ M1 fun ds M2 => cl.sp (d :: ds) M2 Q fun x M' => W x ρ M')) := by
  unfold Cal.Ok at F
  unfold Cal.need at hr
  rw [hk] at F hr
  obtain ⟨ci, CC, f, fd, ps, g1, g2, g3, g4, g5, h3, h4, h5⟩ := F
  have hp' := hp
  unfold plainEs at hp
  rw [List.all_cons, Bool.and_eq_true] at hp
  rw [← C.eK, ← C.eM] at h5
  rw [← C.eK] at h3 g3 g4
  refine ⟨fun pins s σ H Q I h => ?_⟩
  obtain ⟨ρ, M, Q0, st, rs, rm, q, ok⟩ := h
  refine PySem.W.methodCall_KW (pl := plainOf o X.env) (thn (ho.run pins s σ H (fun v H1 => ∃ d M1, t ρ M1 (fun ds M2 => cl.sp (d :: ds) M2 Q0 fun x M' => W x ρ M') ∧ RepD G.K H1 d v ∧ RepM G H1 M1 ∧ Step H M H1 M1 ∧ ∃ pa fs, d = .obj pa ∧ M1 pa = some (.ins k fs)) I ⟨ρ, M, _, st, rs, rm, q, fun d M1 H1 x q1 r1 m1 s1 => ?_⟩) fun u s1 hu => ?_) (eval_meth hre hp' hn hl)
  · unfold onIns at q1
    split at q1
    · rename_i pa
      split at q1
      · rename_i c' fs e
        obtain ⟨rfl, q1⟩ := q1
        exact ⟨_, M1, q1, r1, m1, s1, pa, fs, rfl, e⟩
      · exact q1.elim
    · exact q1.elim
  · obtain ⟨v, H1, I1, rx, d, M1, q1, r1, m1, s1', pa, fs, rfl, em⟩ := hu
    rw [RepD.obj] at r1; subst r1
    obtain rfl : u = Value.ref pa := rx
    obtain ⟨hob, e1, ci', C', dx, fv, e2, e3, rfl, e4, e5⟩ := m1 pa _ em
    rw [g1] at e2; cases e2
    rw [g2] at e3; cases e3
    refine getmeth_ok I1 e1 g3 g4 (look_none e4 g5) ?_
    refine PySem.W.callWith_K (first := [.ref pa]) (h₀ := X.base) I.ok.mod.kin g4.kp (thn (hA.run pos pins s1 σ H1 (fun vs H2 => liftSp G cl.ar cl.sp (.ref pa :: vs) H2 Q (WE (liftW G B W) σ)) I1 ⟨ρ, M1, _, st.trans s1', rs.keep s1'.kp, m1, q1, fun ds M2 H2 vs l q2 r2 m2 s2 => ?_⟩) fun us s2 ⟨vs, H2, I2, r, q2⟩ => ⟨I2.kIn, ?_⟩) (star_plain hp.1 _ _) (any_plain hp.2 _ _)
    · exact sp_at ((st.trans s1').trans s2) ((rs.keep s1'.kp).keep s2.kp) (by simp [l, ha]) (RepL.cons.mpr ⟨_, _, rfl, RepD.obj.mpr rfl, r2⟩) m2 q2 (ok.on (s1'.trans s2))
    · exact run_fnS (us := .ref pa :: us) (vs := .ref pa :: vs) h5 hr h3 (passAt tk σ) I2 (.cons rfl r) q2
theorem ld_meth0 {o : Expr} {cl : Cal} {k : Nat} (C : CtxK X G N sc) (hk : cl.kind = .me k) (F : cl.Ok X.prog X.w G X.base) (ha : cl.ar = 1) (hr : Room cl.need X.A) (tk : Takes X (liftW G B W))
    (ho : PE X o (lift G B ta)) (hre : recvE o = true) (hl : (apos.endLine == pos.line) = true) :
    PE X (.Call (.Attribute o cl.nm apos) [] [] pos) (lift G B fun ρ M Q => ta ρ M fun d M1 => onIns k d M1 (cl.sp [d] M1 Q fun x M' => W x ρ M')) := by
  unfold Cal.Ok at F
  unfold Cal.need at hr
  rw [hk] at F hr
  obtain ⟨ci, CC, f, fd, ps, g1, g2, g3, g4, g5, h3, h4, h5⟩ := F
  rw [← C.eK, ← C.eM] at h5
  rw [← C.eK] at h3 g3 g4
  refine ⟨fun pins s σ H Q I h => ?_⟩
  obtain ⟨ρ, M, Q0, st, rs, rm, q, ok⟩ := h
  refine PySem.W.methodCall_KW (pl := plainOf o X.env) (thn (ho.run pins s σ H (fun v H1 => ∃ d M1, cl.sp [d] M1 Q0 (fun x M' => W x ρ M') ∧ RepD G.K H1 d v ∧ RepM G H1 M1 ∧ Step H M H1 M1 ∧ ∃ pa fs, d = .obj pa ∧ M1 pa = some (.ins k fs)) I ⟨ρ, M, _, st, rs, rm, q, fun d M1 H1 x q1 r1 m1 s1 => ?_⟩) fun u s1 hu => ?_) (eval_meth hre rfl (by decide) hl)
  · unfold onIns at q1
    split at q1
    · rename_i pa
      split at q1
      · rename_i c' fs e
        obtain ⟨rfl, q1⟩ := q1
        exact ⟨_, M1, q1, r1, m1, s1, pa, fs, rfl, e⟩
      · exact q1.elim
    · exact q1.elim
  · obtain ⟨v, H1, I1, rx, d, M1, q1, r1, m1, s1', pa, fs, rfl, em⟩ := hu
    rw [RepD.obj] at r1; subst r1
    obtain rfl : u = Value.ref pa := rx
    obtain ⟨hob, e1, ci', C', dx, fv, e2, e3, rfl, e4, e5⟩ := m1 pa _ em
    rw [g1] at e2; cases e2
    rw [g2] at e3; cases e3
    refine getmeth_ok I1 e1 g3 g4 (look_none e4 g5) ?_
    refine PySem.W.callWith_K0 (first := [.ref pa]) I1.kIn g4.kp ?_
    have z := sp_at (W := W) (B := B) (σ := σ) (c := cl) (Q := Q) (vs := [.ref pa]) (st.trans s1') (rs.keep s1'.kp) (by simp [ha]) (RepL.one (RepD.obj.mpr rfl)) m1 q1 (ok.on s1')
    exact run_fnS (us := [.ref pa]) (vs := [.ref pa]) h5 hr h3 (passAt tk σ) I1 (.cons rfl .nil) z

/-! ### new instances -/
theorem make_ok {cl : Cal} {k : Nat} {σ : L2.St} {H1 : Hp} {ρ : En} {M1 : Mem} {ds : List D} {vs : List V} {Q0 : DK} {Q : VK} {ci : Str × List Str} {CC : Addr} (g1 : G.ct[k]? = some ci) (g2 : G.mg ci.1 = some (.ref CC)) (ha : cl.ar = ds.length + 1) (st : Step B.H B.M H1 M1) (rs : RepS G.K H1 ρ σ) (m1 : RepM G H1 M1) (r1 : RepL G.K H1 ds vs)
    (q1 : ∀ p, M1 p = none → cl.sp (.obj p :: ds) (mup M1 p (.ins k [])) (fun v M2 => match v with
        | .non => Q0 (.obj p) M2
        | _ => False) fun x M' => W x ρ M') (ok : OkK G H1 M1 Q0 Q) (x dx : Addr) (hx : H1 x = none) (hdx : H1 dx = none) (ne : dx ≠ x) :
    liftSp G cl.ar cl.sp (.ref x :: vs) (upd (upd H1 dx (.own x)) x (.ins CC dx [])) (fun v H2 => v = .non ∧ Q (.ref x) H2) (WE (liftW G B W) σ) := by
  have hx' : (upd H1 dx (.own x)) x = none := by rw [upd_ne (Ne.symm ne)]; exact hx
  have s1 : Step H1 M1 (upd (upd H1 dx (.own x)) x (.ins CC dx [])) (mup M1 x (.ins k [])) := (Step.hid hdx).trans (Step.new' hx')
  have m2 : RepM G (upd (upd H1 dx (.own x)) x (.ins CC dx [])) (mup M1 x (.ins k [])) := (m1.skip hdx).new hx' ⟨ci, CC, dx, [], g1, g2, rfl, rfl, RepL.nil.mpr rfl⟩
  have z := sp_at (W := W) (B := B) (σ := σ) (c := cl) (ρ := ρ) (Q := fun v H2 => v = .non ∧ Q (.ref x) H2) (vs := .ref x :: vs) (st.trans s1) (rs.keep s1.kp) (by simp [ha]) (RepL.cons.mpr ⟨_, _, rfl, RepD.obj.mpr rfl, RepL.keep s1.kp _ _ r1⟩) m2 (q1 x (m1.none hx)) (fun d M' H' v q r m s => by
    cases d with
    | non => rw [RepD.non] at r; exact ⟨r, ok _ _ _ _ q (RepD.obj.mpr rfl) m (s1.trans s)⟩
    | _ => exact q.elim)
  exact z
theorem ld_makeN {e : Expr} {cl : Cal} {k : Nat} (C : CtxK X G N sc) (hk : cl.kind = .mk k) (F : cl.Ok X.prog X.w G X.base) (ha : cl.ar = n + 1) (hr : Room cl.need X.A) (tk : Takes X (liftW G B W)) (hg : Gl X cl.nm) (hdb : (cl.nm == ("__debug__" : Str)) = false)
    (hp : plainEs (e :: es) = true) (hA : PA X (e :: es) (liftA G B n t)) :
    PE X (.Call (.Name cl.nm p) (e :: es) [] pos) (lift G B fun ρ M Q => t ρ M fun ds M1 => ∀ p, M1 p = none → cl.sp (.obj p :: ds) (mup M1 p (.ins k [])) (fun v M2 => match v with
        | .non => Q (.obj p) M2
        | _ => False) fun x M' => W x ρ M') := by
  unfold Cal.Ok at F
  unfold Cal.need at hr
  rw [hk] at F hr
  obtain ⟨ci, CC, f, fd, ps, g1, g0, g2, g3, h3, h4, h5⟩ := F
  unfold plainEs at hp
  rw [List.all_cons, Bool.and_eq_true] at hp
  rw [← C.eK, ← C.eM] at h5
  rw [← C.eK] at h3 g3
  refine ⟨fun pins s σ H Q I h => ?_⟩
  obtain ⟨ρ, M, Q0, st, rs, rm, q, ok⟩ := h
  refine wpAny_Call_Name_kw (ld_glob I hg (by rw [C.eM, ← g0]; exact g2) ?_ hdb)
  refine PySem.W.callWith_K (h₀ := X.base) I.ok.mod.kin g3.kp (thn (hA.run pos pins s σ H (fun vs H1 => ∀ x dx, H1 x = none → H1 dx = none → dx ≠ x → liftSp G cl.ar cl.sp (.ref x :: vs) (upd (upd H1 dx (.own x)) x (.ins CC dx [])) (fun v H2 => v = .non ∧ Q (.ref x) H2) (WE (liftW G B W) σ)) I ⟨ρ, M, _, st, rs, rm, q, fun ds M1 H1 vs l q1 r1 m1 s1 => ?_⟩) fun us s1 ⟨vs, H1, I1, r, q⟩ => ⟨I1.kIn, ?_⟩) (star_plain hp.1 _ _) (any_plain hp.2 _ _)
  · exact make_ok g1 g2 (by rw [ha, l]) (st.trans s1) (rs.keep s1.kp) m1 r1 q1 (ok.on s1)
  · exact run_makeS g3 h5 hr h3 (fun H' s s' e I c => passAt tk σ pins H' s e s' I c) I1 r q
theorem ld_make0 {cl : Cal} {k : Nat} (C : CtxK X G N sc) (hk : cl.kind = .mk k) (F : cl.Ok X.prog X.w G X.base) (ha : cl.ar = 1) (hr : Room cl.need X.A) (tk : Takes X (liftW G B W)) (hg : Gl X cl.nm) (hdb : (cl.nm == ("__debug__" : Str)) = false) :
    PE X (.Call (.Name cl.nm p) [] [] pos) (lift G B fun ρ M Q => ∀ p, M p = none → cl.sp [.obj p] (mup M p (.ins k [])) (fun v M2 => match v with
        | .non => Q (.obj p) M2
        | _ => False) fun x M' => W x ρ M') := by
  unfold Cal.Ok at F
  unfold Cal.need at hr
  rw [hk] at F hr
  obtain ⟨ci, CC, f, fd, ps, g1, g0, g2, g3, h3, h4, h5⟩ := F
  rw [← C.eK, ← C.eM] at h5
  rw [← C.eK] at h3 g3
  refine ⟨fun pins s σ H Q I h => ?_⟩
  obtain ⟨ρ, M, Q0, st, rs, rm, q, ok⟩ := h
  refine wpAny_Call_Name_kw (ld_glob I hg (by rw [C.eM, ← g0]; exact g2) ?_ hdb)
  exact PySem.W.callWith_K0 I.kIn g3.kp (run_makeS (us := []) (vs := []) g3 h5 hr h3 (fun H' s s' e I c => passAt tk σ pins H' s e s' I c) I .nil (make_ok (ds := []) g1 g2 ha st rs rm (RepL.nil.mpr rfl) q ok))

/-! ### built-in functions, methods, isinstance -/
def BI.cool : BI → Bool | .min | .max | .sum | .any | .all => false | _ => true
theorem bi_ok (C : CtxK X G N sc) (f : BI) (hc : f.cool = true ∨ X.calm = true) : CallR X f.val (liftC G (biS f)) := by
  cases f with
  | len => exact cd_len C.eK
  | int => exact cd_int
  | str => exact cd_str
  | abs => exact cd_abs
  | min => exact cd_min C.eK (hc.resolve_left (by decide)) C.hu
  | max => exact cd_max C.eK (hc.resolve_left (by decide))
  | sum => exact cd_sum C.eK (hc.resolve_left (by decide))
  | any => exact cd_any C.eK (hc.resolve_left (by decide))
  | all => exact cd_all C.eK (hc.resolve_left (by decide))
  | sorted => exact cd_sorted C.eK
  | list => exact cd_list C.eK
  | tuple => exact cd_tuple C.eK
  | ord => exact cd_ord
theorem ld_bi {e : Expr} (C : CtxK X G N sc) (f : BI) (hco : f.cool = true ∨ X.calm = true) (hg : Gl X f.name) (hf : f.name ∈ G.fb) (hp : plainEs (e :: es) = true) (hA : PA X (e :: es) (liftA G B n t)) :
    PE X (.Call (.Name f.name p) (e :: es) [] pos) (lift G B fun ρ M Q => t ρ M fun ds M1 => biS f ds M1 Q) := by
  unfold plainEs at hp
  rw [List.all_cons, Bool.and_eq_true] at hp
  have hm : X.mg f.name = none := by rw [C.eM]; exact C.fb _ hf
  have go : ∀ (r : List V → Hp → VK → Prop), (∀ σ H Q, lift G B (fun ρ M Q => t ρ M fun ds M1 => biS f ds M1 Q) σ H Q → tCB (liftC G (biS f)) (liftA G B n t) σ H Q) := fun _ σ H Q ⟨ρ, M, Q0, st, rs, rm, q, ok⟩ =>
    ⟨ρ, M, _, st, rs, rm, q, fun ds M1 H1 vs l q1 r1 m1 s1 => ⟨ds, M1, Q0, r1, m1, q1, ok.on s1⟩⟩
  have hc := bi_ok C f hco
  have hb := f.boot
  cases hv : f.val with
  | builtin id =>
    rw [hv] at hc hb
    exact (pe_callB hc hg hm hb hA f.nn f.nd (star_plain hp.1 _ _) (any_plain hp.2 _ _)).weak (go (fun _ _ _ => True))
  | type T =>
    rw [hv] at hc hb
    exact (pe_callTy hc hg hm hb hA f.nn f.nd (star_plain hp.1 _ _) (any_plain hp.2 _ _)).weak (go (fun _ _ _ => True))
  | _ => cases f <;> cases hv
/-- the classes of isinstance -/
def isT (T : String) : Bool := T == "int" || T == "bool" || T == "str" || T == "tuple" || T == "list" || T == "dict"
theorem isT_boot {T : String} (h : isT T = true) : bootBuiltins (PySem.Str.ofString T) = some (.type T) ∧ (PySem.Str.ofString T) ≠ "__name__" ∧ ((PySem.Str.ofString T) == ("__debug__" : Str)) = false := by
  unfold isT at h
  simp only [Bool.or_eq_true, beq_iff_eq] at h
  rcases h with ((((rfl | rfl) | rfl) | rfl) | rfl) | rfl <;> exact ⟨by decide +kernel, by decide +kernel, by decide +kernel⟩
theorem ld_isi {T : String} {p2 : Pos} (C : CtxK X G N sc) (hg : Gl X "isinstance") (hf : ("isinstance" : Str) ∈ G.fb) (hT : isT T = true) (hgT : Gl X (PySem.Str.ofString T)) (hfT : (PySem.Str.ofString T) ∈ G.fb) (ha : PE X a (lift G B ta)) (hp : plainE a = true) :
    PE X (.Call (.Name "isinstance" p) [a, .Name (PySem.Str.ofString T) p2] [] pos) (lift G B fun ρ M Q => ta ρ M fun d M1 => match tyD M1 d with
      | some U => match kitB U T with
        | some r => Q (.bl r) M1
        | none => False
      | none => False) := by
  obtain ⟨b1, b2, b3⟩ := isT_boot hT
  have e2 : PE X (.Name (PySem.Str.ofString T) p2) (tC (.ty T)) := pe_bltn hgT (by rw [C.eM]; exact C.fb _ hfT) b1 rfl b2 b3
  refine (pe_callB call_isiY hg (by rw [C.eM]; exact C.fb _ hf) (by decide +kernel) (pa_cons ha (pa_cons e2 pa_nil (by rfl)) (star_plain hp _ _)) (by decide +kernel) (by decide +kernel) (star_plain hp _ _) (by rfl)).weak fun σ H Q ⟨ρ, M, Q0, st, rs, rm, q, ok⟩ => ?_
  refine ⟨ρ, M, _, st, rs, rm, q, fun d M1 H1 x q1 r1 m1 s1 => ?_⟩
  try dsimp only at q1
  split at q1
  · rename_i U eU
    split at q1
    · rename_i r er
      exact ⟨x, .ty T, .type U, .type T, r, rfl, .ty T, tyD_ok C.eK r1 m1 eU, kit_ty er, ok _ _ _ _ q1 (RepD.bl.mpr rfl) m1 s1⟩
    · exact q1.elim
  · exact q1.elim
/-- a method of a built-in type -/
structure BmOk (X : Cx) (G : Cfg) (f : BM) (id : String) : Prop where
  pa : PlainAttrs f.ty
  slot : Slot f.ty f.name id
  ty : typeOf (.builtin id) = pure (.type "method_descriptor")
  ok : MtR X id (liftM G (bmS f))
theorem bm_ok (C : CtxK X G N sc) (f : BM) : ∃ id, BmOk X G f id := by
  cases f with
  | append => exact ⟨_, PySem.F.plainAttrs_list, PySem.F.slot_list_append, PySem.F.type_list_append, md_append⟩
  | extend => exact ⟨_, PySem.F.plainAttrs_list, PySem.F.slot_list_extend, PySem.F.type_list_extend, md_extend⟩
  | pop => exact ⟨_, PySem.F.plainAttrs_list, PySem.F.slot_list_pop, PySem.F.type_list_pop, md_pop⟩
  | popAt => exact ⟨_, PySem.F.plainAttrs_list, PySem.F.slot_list_pop, PySem.F.type_list_pop, md_popAt⟩
  | insert => exact ⟨_, PySem.F.plainAttrs_list, PySem.F.slot_list_insert, PySem.F.type_list_insert, md_insert⟩
  | index => exact ⟨_, PySem.F.plainAttrs_list, PySem.F.slot_list_index, PySem.F.type_list_index, md_index C.eK⟩
  | join => exact ⟨_, PySem.F.plainAttrs_str, PySem.F.slot_str_join, PySem.F.type_str_join, md_join C.eK⟩
  | icount => exact ⟨_, PySem.F.plainAttrs_list, PySem.F.slot_list_count, PySem.F.type_list_count, md_icount C.eK⟩
theorem recv_ok {H : Hp} {M : Mem} {d : D} {v : V} {T : String} (C : CtxK X G N sc) (r : RepD G.K H d v) (m : RepM G H M) (h : recv T d M) : tyV X.K T v H := by
  unfold recv at h
  split at h
  · rw [RepD.str] at r; subst r; exact h
  · rename_i a
    rw [RepD.obj] at r; subst r
    obtain ⟨rfl, h⟩ := h
    cases e : rdL M a with
    | none => rw [e] at h; cases h
    | some xs =>
      obtain ⟨vs, hp, _⟩ := rdL_ok m e
      exact .inl ⟨rfl, vs, by rw [C.eK]; exact hp⟩
  · exact h.elim
theorem ld_bm0 {o : Expr} (C : CtxK X G N sc) (f : BM) (ho : PE X o (lift G B ta)) (hr : recvE o = true) (hl : (apos.endLine == pos.line) = true) :
    PE X (.Call (.Attribute o f.name apos) [] [] pos) (lift G B fun ρ M Q => ta ρ M fun d M1 => recv f.ty d M1 ∧ bmS f d [] M1 Q) := by
  obtain ⟨id, F⟩ := bm_ok C f
  refine (pe_bm0 F.pa F.slot F.ty F.ok ho (base_plain hr _ _ _) hl).weak fun σ H Q ⟨ρ, M, Q0, st, rs, rm, q, ok⟩ => ?_
  refine ⟨ρ, M, _, st, rs, rm, q, fun d M1 H1 x q1 r1 m1 s1 => ⟨recv_ok C r1 m1 q1.1, d, [], M1, Q0, r1, RepL.nil.mpr rfl, m1, q1.2, ok.on s1⟩⟩
theorem ld_bmN {o e : Expr} (C : CtxK X G N sc) (f : BM) (ho : PE X o (lift G B ta)) (hr : recvE o = true) (hp : plainEs (e :: es) = true) (hA : PA X (e :: es) (liftA G B n t)) (hn : (e :: es).length < 29) (hl : (apos.endLine == pos.line) = true) :
    PE X (.Call (.Attribute o f.name apos) (e :: es) [] pos) (lift G B fun ρ M Q => ta ρ M fun d M1 => recv f.ty d M1 ∧ t ρ M1 fun ds M2 => bmS f d ds M2 Q) := by
  obtain ⟨id, F⟩ := bm_ok C f
  have hp' := hp
  unfold plainEs at hp
  rw [List.all_cons, Bool.and_eq_true] at hp
  refine (pe_bm F.pa F.slot F.ty F.ok ho hA (base_plain hr _ _ _) ?_ hl (star_plain hp.1 _ _) (any_plain hp.2 _ _)).weak fun σ H Q ⟨ρ, M, Q0, st, rs, rm, q, ok⟩ => ?_
  · rw [all_plain hp']
    show (true && true && decide ((e :: es).length + 0 + 0 < 30)) = true
    rw [decide_eq_true (by omega)]; rfl
  · refine ⟨ρ, M, _, st, rs, rm, q, fun d M1 H1 x q1 r1 m1 s1 => ⟨recv_ok C r1 m1 q1.1, ρ, M1, _, st.trans s1, rs.keep s1.kp, m1, q1.2, fun ds M2 H2 vs l q2 r2 m2 s2 => ?_⟩⟩
    exact ⟨d, ds, M2, Q0, RepD.keep s2.kp _ _ r1, r2, m2, q2, ok.on (s1.trans s2)⟩
end
end DL
set_option Elab.async false
set_option linter.all false
set_option maxRecDepth 100000
/-! DL8: walks, targets, comprehensions. -/
namespace DL
open PySem PySem.Spec PyProof.Rows L2

/-- the layer's iterator yields just these items, from a heap on -/
structure ItD (G : Cfg) (H0 : Hp) (J : It) (I : Its) : Prop where
  go : ∀ i H M, Keep H0 H → i < I.xs.length → RepM G H M → I.ok M → J.go i H
  yld : ∀ i H x H' M, Keep H0 H → i < I.xs.length → RepM G H M → I.ok M → J.yld i H x H' → ∃ d, I.xs[i]? = some d ∧ RepD G.K H' d x ∧ RepM G H' M ∧ Step H M H' M
  stop : ∀ H M, Keep H0 H → RepM G H M → I.ok M → J.stop I.xs.length H
def liftI (G : Cfg) (B : Bs) (t : TDI) : TI := fun σ H R => ∃ ρ M R0, Step B.H B.M H M ∧ RepS G.K H ρ σ ∧ RepM G H M ∧ t ρ M R0 ∧ ∀ I M' H' J, R0 I M' → RepM G H' M' → Step H M H' M' → ItD G H' J I → R J H'

section
variable {X : Cx} {G : Cfg} {N : List Str} {sc : Scope} {B : Bs} {W : WD} {pos : Pos} {a b c tg : Expr} {ta tb tc : TD} {x : Str} {p apos : Pos} {es : List Expr} {n : Nat} {t : TDA}

theorem it_list (C : CtxK X G N sc) {l : Addr} {xs : List D} {H0 : Hp} : ItD G H0 (Itl X.K l) ⟨xs, fun M => rdL M l = some xs⟩ where
  go := fun i H M _ hi m ok => by
    obtain ⟨vs, hp, rp⟩ := rdL_ok m ok
    have hi' : i < vs.length := by rw [← rp.length]; exact hi
    exact ⟨vs, vs[i], by rw [C.eK]; exact hp, List.getElem?_eq_getElem hi'⟩
  yld := fun i H x H' M _ hi m ok y => by
    obtain ⟨rfl, y⟩ := y
    obtain ⟨vs, hp, rp⟩ := rdL_ok m ok
    obtain ⟨d, ed, rd⟩ := rp.getV (y vs (by rw [C.eK]; exact hp))
    exact ⟨d, ed, rd, m, Step.rfl'⟩
  stop := fun H M _ m ok => by
    obtain ⟨vs, hp, rp⟩ := rdL_ok m ok
    exact ⟨vs, by rw [C.eK]; exact hp, Nat.le_of_eq rp.length.symm⟩
theorem it_tup (C : CtxK X G N sc) {l : Addr} {xs : List D} {vs : List V} {H0 : Hp} (hp : SqT G.K H0 l vs) (rp : RepL G.K H0 xs vs) : ItD G H0 (Itt X.K l) ⟨xs, fun _ => True⟩ where
  go := fun i H M k hi m ok => by
    have hi' : i < vs.length := by rw [← rp.length]; exact hi
    exact ⟨vs, vs[i], by rw [C.eK]; exact sqT_keep k hp, List.getElem?_eq_getElem hi'⟩
  yld := fun i H x H' M k hi m ok y => by
    obtain ⟨rfl, y⟩ := y
    obtain ⟨d, ed, rd⟩ := rp.getV (y vs (by rw [C.eK]; exact sqT_keep k hp))
    exact ⟨d, ed, RepD.keep k _ _ rd, m, Step.rfl'⟩
  stop := fun H M k m ok => ⟨vs, by rw [C.eK]; exact sqT_keep k hp, Nat.le_of_eq rp.length.symm⟩
theorem it_str {l : List Nat} {H0 : Hp} : ItD G H0 (L2.Its (S l)) ⟨l.map fun c => .str [c], fun _ => True⟩ where
  go := fun i H M k hi m ok => by
    show i < (S l).cps.size
    simpa [S] using hi
  yld := fun i H x H' M k hi m ok y => by
    obtain ⟨rfl, c, ec, rfl⟩ := y
    refine ⟨.str [c], ?_, RepD.str.mpr rfl, m, Step.rfl'⟩
    have : l[i]? = some c := by simpa [S] using ec
    simp [this]
  stop := fun H M k m ok => by
    show (S l).cps.size ≤ _
    simp [S]
theorem it_rng {lo : Int} {k : Nat} {H0 : Hp} {xs : List D} (hx : xs = (List.range k).map fun j => .int (lo + (j : Nat))) : ItD G H0 (Itr lo k) ⟨xs, fun _ => True⟩ where
  go := fun i H M _ hi m ok => by
    subst hx
    show i < k
    simpa using hi
  yld := fun i H x H' M _ hi m ok y => by
    subst hx
    obtain ⟨rfl, rfl⟩ := y
    have hi' : i < k := by simpa using hi
    exact ⟨.int (lo + (i : Nat)), by simp [hi'], RepD.int.mpr rfl, m, Step.rfl'⟩
  stop := fun H M _ m ok => by
    subst hx
    show k ≤ _
    simp

/-- walking a value: list, tuple, text -/
theorem li_of (C : CtxK X G N sc) (ha : PE X a (lift G B ta)) : PI X tg a (liftI G B fun ρ M R => ta ρ M fun d M1 => itsOf d M1 R) := by
  refine ⟨fun pins s σ H R I h => ?_⟩
  obtain ⟨ρ, M, R0, st, rs, rm, q, ok⟩ := h
  refine thn (ha.run pins s σ H (fun v H1 => ∃ d M1, itsOf d M1 R0 ∧ RepD G.K H1 d v ∧ RepM G H1 M1 ∧ Step H M H1 M1) I ⟨ρ, M, _, st, rs, rm, q, fun d M1 H1 x q1 r1 m1 s1 => ⟨d, M1, q1, r1, m1, s1⟩⟩) fun v s1 ⟨x, H1, I1, rx, d, M1, q1, r1, m1, s1'⟩ => ?_
  unfold itsOf at q1
  split at q1
  · rename_i xs
    obtain ⟨l, vs, rfl, hp, rp⟩ := RepD.tup.mp r1
    cases rx
    obtain ⟨its, rv, pp, hz⟩ := I1.tuple (by rw [C.eK]; exact hp)
    refine wpAny_pyIter_tuple (show s1.heap.IsTuple l its.toArray from pp) ?_
    refine ⟨s1.heap.objs.size, [s1.heap.objs.size], _, _, H1, rfl, I1.kept (t' := s1.toks) fun b o e => Heap.get?_push_of_some _ e, turn_tuple l _, ⟨_, Heap.get?_push_size _ rfl, rfl, rfl⟩, fun b hb => ?_, ok _ _ _ _ q1 m1 s1' (it_tup C hp rp)⟩
    have e : b = s1.heap.objs.size := by simpa using hb
    subst e
    exact I1.fpOk (Nat.le_refl _) (I1.hok.fresh (Nat.le_refl _))
  · rename_i l
    rw [RepD.str] at r1; subst r1
    have qq := ok _ _ _ _ q1 m1 s1' (it_str (G := G) (l := l) (H0 := H1))
    obtain ⟨t, rfl⟩ := rx
    cases ha : (S l).cps.all (· < 128)
    · exact wpAny_pyIter_wide ha (pi_one (tk := s1.toks) I1 _ (turn_str _ (S l) t "str_iterator" (.inr rfl)) ⟨_, Heap.get?_push_size _ rfl, rfl, rfl⟩ qq)
    · exact wpAny_pyIter_ascii ha (pi_one (tk := s1.toks) I1 _ (turn_str _ (S l) t "str_ascii_iterator" (.inl rfl)) ⟨_, Heap.get?_push_size _ rfl, rfl, rfl⟩ qq)
  · rename_i l
    rw [RepD.obj] at r1; subst r1
    split at q1
    · rename_i xs e
      cases rx
      obtain ⟨vs, hp, rp⟩ := rdL_ok m1 e
      obtain ⟨its, rv, pp, hz⟩ := I1.list (by rw [C.eK]; exact hp)
      refine wpAny_pyIter_list pp.isList ?_
      refine ⟨s1.heap.objs.size, [s1.heap.objs.size], _, _, H1, rfl, I1.kept (t' := s1.toks) fun b o e => Heap.get?_push_of_some _ e, turn_list l _, ⟨_, Heap.get?_push_size _ rfl, rfl, rfl⟩, fun b hb => ?_, ok _ _ _ _ q1 m1 s1' (it_list C)⟩
      have e : b = s1.heap.objs.size := by simpa using hb
      subst e
      exact I1.fpOk (Nat.le_refl _) (I1.hok.fresh (Nat.le_refl _))
    · exact q1.elim
  · exact q1.elim

theorem li_rng1 (C : CtxK X G N sc) (hg : Gl X "range") (hf : ("range" : Str) ∈ G.fb) (hA : PA X [a] (liftA G B 1 t)) (hp : plainE a = true) :
    PI X tg (.Call (.Name "range" p) [a] [] pos) (liftI G B fun ρ M R => t ρ M fun ds M1 => rngOf ds M1 R) := by
  have z : PI X tg (.Call (.Name "range" p) [a] [] pos) (iRng1 (liftA G B 1 t)) := pi_range1 hg (by rw [C.eM]; exact C.fb _ hf) hA (star_plain hp [] X.env)
  refine ⟨fun pins s σ H R I h => z.run pins s σ H R I ?_⟩
  obtain ⟨ρ, M, R0, st, rs, rm, q, ok⟩ := h
  refine ⟨ρ, M, _, st, rs, rm, q, fun ds M1 H1 vs l q1 r1 m1 s1 => ?_⟩
  unfold rngOf at q1
  split at q1
  · rename_i j
    obtain ⟨v, rfl, r2⟩ := rep1 r1
    rw [RepD.int] at r2; subst r2
    exact ⟨j, rfl, q1.1, q1.2.1, ok _ _ _ _ q1.2.2 m1 s1 (it_rng (by simp))⟩
  · simp at l
  · exact q1.elim
theorem li_rng2 (C : CtxK X G N sc) (hg : Gl X "range") (hf : ("range" : Str) ∈ G.fb) (hA : PA X [a, b] (liftA G B 2 t)) (hp : plainE a = true) (hp2 : plainE b = true) :
    PI X tg (.Call (.Name "range" p) [a, b] [] pos) (liftI G B fun ρ M R => t ρ M fun ds M1 => rngOf ds M1 R) := by
  have z : PI X tg (.Call (.Name "range" p) [a, b] [] pos) (iRng2 (liftA G B 2 t)) := pi_range2 hg (by rw [C.eM]; exact C.fb _ hf) hA (by rw [star_plain hp, star_plain hp2] <;> rfl) (star_plain hp2 [] X.env)
  refine ⟨fun pins s σ H R I h => z.run pins s σ H R I ?_⟩
  obtain ⟨ρ, M, R0, st, rs, rm, q, ok⟩ := h
  refine ⟨ρ, M, _, st, rs, rm, q, fun ds M1 H1 vs l q1 r1 m1 s1 => ?_⟩
  unfold rngOf at q1
  split at q1
  · simp at l
  · rename_i i j
    obtain ⟨v, u, rfl, r2, r3⟩ := rep2 r1
    rw [RepD.int] at r2 r3; subst r2 r3
    exact ⟨i, j, rfl, q1.1, ok _ _ _ _ q1.2 m1 s1 (it_rng rfl)⟩
  · exact q1.elim

/-! ### targets -/
/-- outside the slots nothing is changed -/
def Off (sl : List Nat) (σ σ' : L2.St) : Prop := σ'.length = σ.length ∧ ∀ j, j ∉ sl → σ'[j]? = σ[j]?
theorem Off.trans {s1 s2 : List Nat} {σ σ1 σ2 : L2.St} (a : Off s1 σ σ1) (b : Off s2 σ1 σ2) : Off (s1 ++ s2) σ σ2 :=
  ⟨b.1.trans a.1, fun j h => by
    rw [List.mem_append, not_or] at h
    exact (b.2 j h.2).trans (a.2 j h.1)⟩
def liftG (G : Cfg) (sl : List Nat) (t : D → En → (En → Prop) → Prop) : TG := fun v σ H Q => ∃ d ρ k, RepD G.K H d v ∧ RepS G.K H ρ σ ∧ t d ρ k ∧ ∀ ρ' σ', k ρ' → RepS G.K H ρ' σ' → Off sl σ σ' → Q σ' H
def liftGs (G : Cfg) (sl : List Nat) (t : List D → En → (En → Prop) → Prop) : TGs := fun vs σ H Q => ∃ ds ρ k, RepL G.K H ds vs ∧ RepS G.K H ρ σ ∧ t ds ρ k ∧ ∀ ρ' σ', k ρ' → RepS G.K H ρ' σ' → Off sl σ σ' → Q σ' H
theorem lg_name {i : Nat} (C : CtxK X G N sc) (hN : N[i]? = some x) (hl : L2.Loc sc x) (hfn : X.fn x = true ∨ sc.names.lookup x = some .local) : PG X (.Name x pos) (liftG G [i] (wpTg (.name i))) := by
  have z := pg_name (X := X) (pos := pos) (i := i) (x := x) (by rw [C.eN]; exact C.nd) (by rw [C.eN]; exact hN) (by rw [C.eS]; exact hl) (by rw [C.eS]; exact hfn)
  refine ⟨fun pins s σ H v u Q I r h => z.run pins s σ H v u Q I r ?_⟩
  obtain ⟨d, ρ, k, rd, rs, q, ok⟩ := h
  refine ok _ _ q (rs.set i rd) ⟨List.length_set .., fun j hj => ?_⟩
  rw [List.getElem?_set_ne]
  simpa [eq_comm] using hj
/-- targets that are names and tuples of such -/
def plainT : Expr → Bool | .Name .. => true | .Tuple .. => true | _ => false
theorem asg_plain {e : Expr} (h : plainT e = true) (es : List Expr) (env : Env) : assignEach (e :: es) env = (false, assign e env) :: assignEach es env := by
  cases e <;> first | rfl | cases h
theorem asg_len {es : List Expr} (h : es.all plainT = true) (env : Env) : (assignEach es env).length = es.length ∧ (assignEach es env).findIdx? (·.1) = none := by
  induction es with
  | nil => exact ⟨rfl, rfl⟩
  | cons e es ih =>
    rw [List.all_cons, Bool.and_eq_true] at h
    rw [asg_plain h.1]
    obtain ⟨h1, h2⟩ := ih h.2
    refine ⟨by rw [List.length_cons, List.length_cons, h1], ?_⟩
    rw [List.findIdx?_cons, h2]; rfl
theorem lgs_nil : PGs X [] (liftGs G [] (wpTgs .nil)) := by
  refine ⟨fun pins s σ H vs us Q I r h => pgs_nil.run pins s σ H vs us Q I r ?_⟩
  obtain ⟨ds, ρ, k, rd, rs, q, ok⟩ := h
  unfold wpTgs at q
  split at q
  · rw [RepL.nil] at rd
    exact ⟨rd, ok _ _ q rs ⟨rfl, fun _ _ => rfl⟩⟩
  · exact q.elim
theorem lgs_cons {g : Tg} {gs : Tgs} {e : Expr} {s1 s2 : List Nat} (h1 : PG X e (liftG G s1 (wpTg g))) (h2 : PGs X es (liftGs G s2 (wpTgs gs))) (hp : plainT e = true) : PGs X (e :: es) (liftGs G (s1 ++ s2) (wpTgs (.cons g gs))) := by
  have z := pgs_cons h1 h2 (by rw [asg_plain hp]; rfl)
  refine ⟨fun pins s σ H vs us Q I r h => z.run pins s σ H vs us Q I r ?_⟩
  obtain ⟨ds, ρ, k, rd, rs, q, ok⟩ := h
  unfold wpTgs at q
  split at q
  · rename_i d ds'
    obtain ⟨v, ws, rfl, r1, r2⟩ := RepL.cons.mp rd
    refine ⟨v, ws, rfl, d, ρ, _, r1, rs, q, fun ρ1 σ1 q1 rs1 o1 => ?_⟩
    exact ⟨ds', ρ1, k, r2, rs1, q1, fun ρ2 σ2 q2 rs2 o2 => ok _ _ q2 rs2 (o1.trans o2)⟩
  · exact q.elim
theorem lg_tup {gs : Tgs} {k : Nat} {sl : List Nat} (C : CtxOk X G N sc) (h : PGs X es (liftGs G sl (wpTgs gs))) (hp : es.all plainT = true) (hn : ∀ ds ρ k, wpTgs gs ds ρ k → ds.length = es.length) : PG X (.Tuple es k pos) (liftG G sl (wpTg (.tup gs))) := by
  obtain ⟨a1, a2⟩ := asg_len hp X.env
  have z := pg_tup (X := X) (pos := pos) (k := k) (n := es.length) C.calm h a1 a2
  refine ⟨fun pins s σ H v u Q I r h => z.run pins s σ H v u Q I r ?_⟩
  obtain ⟨d, ρ, kk, rd, rs, q, ok⟩ := h
  unfold wpTg at q
  split at q
  · rename_i ds
    obtain ⟨pa, vs, rfl, hp, rp⟩ := RepD.tup.mp rd
    exact ⟨pa, vs, rfl, by rw [C.eK]; exact hp, by rw [← rp.length]; exact hn _ _ _ q, ds, ρ, kk, rp, rs, q, ok⟩
  · exact q.elim

/-! ### list comprehensions -/
theorem wipe_get : ∀ (vs : List Nat) (σ : L2.St) (j : Nat), (wipe σ vs)[j]? = if j ∈ vs ∧ j < σ.length then some none else σ[j]?
  | [], σ, j => by simp [wipe]
  | v :: vs, σ, j => by
    unfold wipe
    by_cases e : v = j
    · subst e
      by_cases h : v < σ.length
      · rw [List.getElem?_set_self (by rw [wipe_length]; exact h)]; simp [h]
      · rw [List.getElem?_eq_none (by rw [List.length_set, wipe_length]; omega), if_neg (by omega), List.getElem?_eq_none (by omega)]
    · rw [List.getElem?_set_ne e, wipe_get vs σ j]
      have : (j ∈ v :: vs) ↔ j ∈ vs := by simp [Ne.symm e]
      simp only [this]
theorem wipe_off {sl vs : List Nat} {σ σ' : L2.St} (h : Off sl (wipe σ vs) σ') (hs : ∀ i ∈ sl, i ∈ vs) : wipe σ' vs = wipe σ vs := by
  apply List.ext_getElem?
  intro j
  rw [wipe_get, wipe_get]
  have hl : σ'.length = σ.length := by rw [h.1, wipe_length]
  rw [hl]
  by_cases c : j ∈ vs ∧ j < σ.length
  · rw [if_pos c, if_pos c]
  · rw [if_neg c, if_neg c]
    by_cases hj : j ∈ vs
    · have : ¬ j < σ.length := fun z => c ⟨hj, z⟩
      rw [List.getElem?_eq_none (by omega), List.getElem?_eq_none (by omega)]
    · have := h.2 j fun z => hj (hs j z)
      rw [this, wipe_get, if_neg c]
theorem wipe_rep {K : PySem.W.Frag} {H : Hp} {ρ : En} {σ : L2.St} (h : RepS K H ρ σ) : ∀ vs : List Nat, RepS K H (wipeD ρ vs) (wipe σ vs)
  | [] => h
  | v :: vs => by unfold wipeD wipe; exact (wipe_rep h vs).unset v
theorem Step.over {H H' : Hp} {M M' : Mem} {p : Addr} {o : HO} (s : Step H M H' M') (h : H p = none) : Step H M (upd H' p o) M' :=
  ⟨⟨fun b xs e => by rw [upd_ne (ne_of_none e h)]; exact s.kp.tup b xs e, fun b ob u e => by rw [upd_ne (ne_of_none e h)]; exact s.kp.frz b ob u e⟩, fun a e => upd_grow a (s.grow a e), s.new, fun a u e m => by rw [upd_ne (ne_of_none e h)]; exact s.frame a u e m⟩
theorem RepM.over {H : Hp} {M : Mem} {p : Addr} {vs ws : List V} (h : RepM G H M) (e : H p = some (.lst vs)) (m : M p = Option.none) : RepM G (upd H p (.lst ws)) M := fun a o q => by
  obtain ⟨ho, h1, h2⟩ := h a o q
  have : a ≠ p := fun z => by subst z; rw [m] at q; cases q
  exact ⟨ho, by rw [upd_ne this]; exact h1, h2.keep (Keep.mut e trivial)⟩
theorem RepM.told {H : Hp} {M : Mem} {p : Addr} {vs : List V} {ds : List D} (h : RepM G H M) (e : H p = some (.lst vs)) (r : RepL G.K H ds vs) : RepM G H (mup M p (.lst ds)) := fun a o q => by
  by_cases z : a = p
  · subst z; rw [mup_same] at q; cases q; exact ⟨_, e, vs, rfl, r⟩
  · rw [mup_ne z] at q; exact h a o q
theorem Step.told {H H' : Hp} {M M' : Mem} {p : Addr} {o : MO} (s : Step H M H' M') (h : H p = none) : Step H M H' (mup M' p o) :=
  ⟨s.kp, s.grow, fun a e m => by
    have : a ≠ p := fun z => by subst z; exact e h
    rw [mup_ne this]; exact s.new a e m, s.frame⟩
theorem lc_w {own : List (Str × Nat)} {ti : TDI} {g : Tg} {tt : TDT} {te : TD} {sl : List Nat} (hsl : ∀ i ∈ sl, i ∈ own.map (·.2)) {σ : L2.St} {H : Hp} {Q : VK} (h : lift G B (fun ρ M Q => ti ρ M fun I M1 => lcGo (wpTg g) tt te (wipeD ρ (own.map (·.2))) I.ok I.xs [] M1 fun acc M2 => ∀ p, M2 p = none → Q (.obj p) (mup M2 p (.lst acc))) σ H Q) :
    tLc (liftI G B ti) (liftG G sl (wpTg g)) (liftT G B tt) (lift G B te) (own.map (·.2)) σ H Q := by
  obtain ⟨ρ, M, Q0, st, rs, rm, q, okQ⟩ := h
  refine ⟨ρ, M, _, st, rs, rm, q, fun I M1 H1 J q1 m1 s1 hJ => ?_⟩
  intro Dd hD
  refine ⟨fun i m H2 => m = I.xs.length - i ∧ i ≤ I.xs.length ∧ ∃ M2 acc vs, RepM G H2 M2 ∧ H2 Dd = some (.lst vs) ∧ RepL G.K H2 acc vs ∧ Step H1 M1 H2 M2 ∧ M2 Dd = none ∧
    lcGo (wpTg g) tt te (wipeD ρ (own.map (·.2))) I.ok (I.xs.drop i) acc M2 (fun acc M2 => ∀ p, M2 p = none → Q0 (.obj p) (mup M2 p (.lst acc))),
    ⟨_, rfl, Nat.zero_le _, M1, [], [], m1.skip hD, upd_same, RepL.nil.mpr rfl, Step.hid hD, m1.none hD, by rw [List.drop_zero]; exact q1⟩, ?_⟩
  rintro i m H2 ⟨rfl, hi, M2, acc, vs, m2, hD2, rv, s2, mD, gg⟩
  by_cases hlt : i < I.xs.length
  · rw [List.drop_eq_getElem_cons hlt] at gg
    unfold lcGo at gg
    obtain ⟨okM, gg⟩ := gg
    refine .inr ⟨hJ.go i H2 M2 s2.kp hlt m2 okM, _, fun H' h => ⟨_, by omega, rfl, hlt, h⟩, fun x H' y => ?_⟩
    obtain ⟨d, ed, rd, m', s'⟩ := hJ.yld i H2 x H' M2 s2.kp hlt m2 okM y
    rw [List.getElem?_eq_getElem hlt] at ed
    cases ed
    have st2 := ((st.trans s1).trans s2).trans s'
    refine ⟨_, wipeD ρ (own.map (·.2)), _, rd, (wipe_rep rs _).keep ((s1.trans s2).trans s').kp, gg, fun ρ' σ' q2 rs2 off => ⟨wipe_off off hsl, ?_⟩⟩
    refine ⟨ρ', M2, _, st2, rs2, m', q2, fun b M3 H3 q3 m3 s3 => ?_⟩
    have hD3 : H3 Dd = some (.lst vs) := s3.frame _ _ (s'.frame _ _ hD2 mD) mD
    have mD3 : M3 Dd = none := s3.new _ (some_ne (s'.frame _ _ hD2 mD)) mD
    cases b with
    | true =>
      show lift G B te σ' H3 _
      refine ⟨ρ', M3, _, st2.trans s3, rs2.keep s3.kp, m3, q3, fun v M4 H4 y q4 r4 m4 s4 => ?_⟩
      obtain ⟨hb, g'⟩ := q4
      have hD4 : H4 Dd = some (.lst vs) := s4.frame _ _ hD3 mD3
      have mD4 : M4 Dd = none := s4.new _ (some_ne hD3) mD3
      have kk : Keep H2 H4 := (s'.trans (s3.trans s4)).kp
      have ku : Keep H4 (upd H4 Dd (.lst (vs ++ [y]))) := Keep.mut hD4 trivial
      refine ⟨vs, hD4, by rw [← rv.length, big_eq]; exact hb, M4, acc ++ [v], vs ++ [y], m4.over hD4 mD4, upd_same, RepL.keep ku _ _ ((RepL.keep kk _ _ rv).app (RepL.one r4)), (s2.trans (s'.trans (s3.trans s4))).over hD, mD4, g'⟩
    | false =>
      exact ⟨M3, acc, vs, m3, hD3, RepL.keep (s'.trans s3).kp _ _ rv, s2.trans (s'.trans s3), mD3, q3⟩
  · have e : i = I.xs.length := by omega
    subst e
    rw [List.drop_length] at gg
    unfold lcGo at gg
    exact .inl ⟨hJ.stop H2 M2 s2.kp m2 gg.1, okQ _ _ _ _ (gg.2 Dd mD) (RepD.obj.mpr rfl) (m2.told hD2 rv) (s1.trans (s2.told hD))⟩
theorem ld_lc {elt iter : Expr} {ifs : List Expr} {scope : Scope} {own : List (Str × Nat)} {ti : TDI} {g : Tg} {tt : TDT} {te : TD} {sl : List Nat} (C : CtxOk X G N sc) (hi : PI X tg iter (liftI G B ti)) (ok : BlkOk N sc scope own) (hsl : ∀ i ∈ sl, i ∈ own.map (·.2))
    (hg : ∀ (s : Shared) (H : Hp) (cc : Addr) (cl : List (Str × Addr)) (fp : List Addr), PG (X.blk s H scope (compEnvC scope cl cc X.env) fp) tg (liftG G sl (wpTg g)))
    (ht : ∀ (s : Shared) (H : Hp) (cc : Addr) (cl : List (Str × Addr)) (fp : List Addr), PTs (X.blk s H scope (compEnvC scope cl cc X.env) fp) ifs (liftT G B tt))
    (he : ∀ (s : Shared) (H : Hp) (cc : Addr) (cl : List (Str × Addr)) (fp : List Addr), PE (X.blk s H scope (compEnvC scope cl cc X.env) fp) elt (lift G B te)) (hp : plainE iter = true) :
    PE X (.ListComp elt [⟨tg, iter, ifs, 0⟩] scope pos) (lift G B fun ρ M Q => ti ρ M fun I M1 => lcGo (wpTg g) tt te (wipeD ρ (own.map (·.2))) I.ok I.xs [] M1 fun acc M2 => ∀ p, M2 p = none → Q (.obj p) (mup M2 p (.lst acc))) := by
  have z := pe_lc (X := X) (pos := pos) (own := own) (ifs := ifs) C.calm (by rw [C.eN]; exact C.nd) hi (by rw [C.eN, C.eS]; exact ok) hg ht he (folded_plain hp _)
  exact z.weak fun σ H Q h => lc_w hsl h
/-- name = [..] on one line, the name a plain local -/
theorem ls_setLc {i : Nat} {y : Str} {py spos : Pos} {elt iter : Expr} {ifs : List Expr} {scope : Scope} {own : List (Str × Nat)} {ti : TDI} {g : Tg} {tt : TDT} {te : TD} {sl : List Nat} (C : CtxOk X G N sc) (hy : N[i]? = some y) (hyl : sc.names.lookup y = some .local)
    (hsw : swapsWith (.ListComp elt [⟨tg, iter, ifs, 0⟩] scope pos) (some (.Name y py)) spos.line X.env = pure true) (hi : PI X tg iter (liftI G B ti)) (ok : BlkOk N sc scope own) (hsl : ∀ i ∈ sl, i ∈ own.map (·.2))
    (hg : ∀ (s : Shared) (H : Hp) (cc : Addr) (cl : List (Str × Addr)) (fp : List Addr), PG (X.blk s H scope (compEnvC scope cl cc X.env) fp) tg (liftG G sl (wpTg g)))
    (ht : ∀ (s : Shared) (H : Hp) (cc : Addr) (cl : List (Str × Addr)) (fp : List Addr), PTs (X.blk s H scope (compEnvC scope cl cc X.env) fp) ifs (liftT G B tt))
    (he : ∀ (s : Shared) (H : Hp) (cc : Addr) (cl : List (Str × Addr)) (fp : List Addr), PE (X.blk s H scope (compEnvC scope cl cc X.env) fp) elt (lift G B te)) (hp : plainE iter = true) :
    PS X (.Assign [.Name y py] (.ListComp elt [⟨tg, iter, ifs, 0⟩] scope pos) spos) (liftS G B fun D ρ M => (fun Q => ti ρ M fun I M1 => lcGo (wpTg g) tt te (wipeD ρ (own.map (·.2))) I.ok I.xs [] M1 fun acc M2 => ∀ p, M2 p = none → Q (.obj p) (mup M2 p (.lst acc))) fun d M1 => D.nx (ρ.set i (some d)) M1) := by
  have z := ps_setLc (X := X) (pos := pos) (spos := spos) (py := py) (own := own) (ifs := ifs) C.calm (by rw [C.eN]; exact C.nd) (by rw [C.eN]; exact hy) (by rw [C.eS]; exact hyl) hsw hi (by rw [C.eN, C.eS]; exact ok) hg ht he (folded_plain hp _)
  refine z.weak fun D σ H ⟨ρ, M, D0, st, rs, rm, q, okD⟩ => ?_
  exact lc_w hsl ⟨ρ, M, _, st, rs, rm, q, fun d M1 H1 v q1 r1 m1 s1 => okD.nx _ M1 _ H1 q1 ((rs.keep s1.kp).set i r1) m1 s1⟩
end
end DL
set_option Elab.async false
set_option linter.all false
set_option maxRecDepth 100000
set_option maxHeartbeats 1000000
/-! DLX: more constructs: dicts, reversed slices, isinstance of several classes, enumerate. -/
namespace DL
open PySem PySem.Spec PyProof.Rows L2

section
variable {X : Cx} {G : Cfg} {N : List Str} {sc : Scope} {B : Bs} {pos p2 p3 : Pos} {a b c tg e : Expr} {ta tb tc : TD} {x : Str} {p apos : Pos} {es : List Expr} {n : Nat} {t : TDA}

theorem ix_get (C : CtxK X G N sc) : IxR X (lift2 G vGet) := by
  intro value slice pins s σ H x y v u Q I rx ry h hs
  obtain ⟨d, e, M, Q0, rd, re, rm, hr, ok⟩ := h
  unfold vGet at hr
  split at hr
  · exact ix_dct C.eK C.eP C.ew C.hu value slice pins s σ H x y v u Q I rx ry ⟨d, e, M, Q0, rd, re, rm, hr, ok⟩ hs
  · exact id_idx C.eK value slice pins s σ H x y v u Q I rx ry ⟨d, e, M, Q0, rd, re, rm, hr, ok⟩ hs
theorem od_inGG (C : CtxK X G N sc) (neg : Bool) : OpR X (compareOp (if neg then .NotIn else .In)) (lift2 G (vInG neg)) := by
  intro pins s σ H x y v u Q I rx ry h
  obtain ⟨d, e, M, Q0, rd, re, rm, hr, ok⟩ := h
  unfold vInG at hr
  split at hr
  · exact od_din neg C.eK C.eP C.ew C.hu pins s σ H x y v u Q I rx ry ⟨d, e, M, Q0, rd, re, rm, hr, ok⟩
  · cases neg with
    | false => exact od_in C.eK pins s σ H x y v u Q I rx ry ⟨d, e, M, Q0, rd, re, rm, hr, ok⟩
    | true => exact od_notin C.eK pins s σ H x y v u Q I rx ry ⟨d, e, M, Q0, rd, re, rm, hr, ok⟩
/-- o[i] = v -/
def liftSet (G : Cfg) (r : D → D → D → Mem → (Mem → Prop) → Prop) : TSet := fun o i v H Q => ∃ d j w M Q0, RepD G.K H d o ∧ RepD G.K H j i ∧ RepD G.K H w v ∧ RepM G H M ∧ r d j w M Q0 ∧ ∀ M' H', Q0 M' → RepM G H' M' → Step H M H' M' → Q H'
theorem set_get (C : CtxK X G N sc) : PSet X (liftSet G vSetG) := by
  intro pins s σ H o i v ov iv u Q I ro ri rv h
  obtain ⟨d, j, w, M, Q0, rd, rj, rw', m, q, ok⟩ := h
  unfold vSetG at q
  split at q
  · unfold vDSet at q
    split at q
    · rename_i ad hdct
      rw [RepD.obj] at rd; subst rd
      obtain rfl : ov = Value.ref ad := ro
      split at q
      · rename_i kvs em
        obtain ⟨q1, q2, q3⟩ := q
        obtain ⟨o0, h0, _⟩ := dct_of m em
        refine dct_set C.eK C.eP C.ew (by have := C.hu; omega) I m em q1 q2 rj ri rw' rv fun o' s' I' rep => ?_
        have sp : Step H M (upd H ad (objO ad o')) (mup M ad (.dct (dput kvs j w))) := Step.put h0 trivial em
        exact ⟨_, I', ok _ _ q3 (m.put h0 trivial ⟨o', rfl, rep⟩) sp⟩
      · exact q.elim
    · exact q.elim
  · unfold vSetI at q
    split at q
    · rename_i ad jj hdct
      split at q
      · rename_i xs em
        split at q
        · rename_i k ek
          rw [RepD.obj] at rd
          rw [RepD.int] at rj
          obtain ⟨ho, h1, vs, rfl, rv'⟩ := m ad _ em
          have sp : Step H M (upd H ad (.lst (vs.set k v))) (mup M ad (.lst (xs.set k w))) := Step.put h1 trivial em
          exact set_list pins s σ H o i v ov iv u Q I ro ri rv ⟨ad, vs, jj, k, rd, rj, h1, by rw [← rv'.length]; exact ek, ok _ _ q (m.put h1 trivial ⟨_, rfl, rv'.set k rw'⟩) sp⟩
        · exact q.elim
      · exact q.elim
    · exact q.elim
/-- {} -/
theorem ld_dnew : PE X (.Dict [] [] pos) (lift G B fun _ M Q => ∀ p, M p = none → Q (.obj p) (mup M p (.dct []))) := by
  refine ⟨fun pins s σ H Q I ⟨ρ, M, Q0, st, rs, rm, q, ok⟩ => ?_⟩
  obtain ⟨o, ho, rep⟩ := dct_new (G := G) (P := X.prog) (w := X.w) (H := upd H s.heap.objs.size (objO s.heap.objs.size { cls := .type "dict", data := .dict #[] })) (h := s.heap) I.big
  have hn := I.hok.fresh (Nat.le_refl s.heap.objs.size)
  have I' := I.laid (a := s.heap.objs.size) (o := objO s.heap.objs.size o) (h' := s.heap.push { cls := .type "dict", data := .dict #[] }) (t' := s.toks) (fun _ _ q => Heap.get?_push_of_some _ q) (Nat.le_refl _) (objO_ok ho)
  obtain ⟨_, _, rep'⟩ := dct_new (G := G) (P := X.prog) (w := X.w) (H := H) (h := s.heap) I.big
  obtain ⟨o2, ho2, rep2⟩ := dct_new (G := G) (P := X.prog) (w := X.w) (H := H) (h := s.heap) I.big
  rw [ho] at ho2; cases ho2
  exact wpAny_Dict_empty ⟨.ref s.heap.objs.size, _, I', rfl, ok _ _ _ _ (q _ (rm.none hn)) (RepD.obj.mpr rfl) (rm.new hn ⟨o, rfl, rep2⟩) (Step.new' hn)⟩
/-- {k: v} -/
theorem ld_ddsp {kx vx : Expr} (C : CtxK X G N sc) (hk : PE X kx (lift G B ta)) (hv : PE X vx (lift G B tb)) :
    PE X (.Dict [some kx] [vx] pos) (lift G B fun ρ M Q => ∀ p, M p = none → ta ρ (mup M p (.dct [])) fun dk M1 => tb ρ M1 fun dv M2 => M2 p = some (.dct []) ∧ (lkey dk).isSome = true ∧ Q (.obj p) (mup M2 p (.dct [(dk, dv)]))) := by
  refine ⟨fun pins s σ H Q I ⟨ρ, M, Q0, st, rs, rm, q, ok⟩ => ?_⟩
  have hn := I.hok.fresh (Nat.le_refl s.heap.objs.size)
  obtain ⟨o, ho, rep⟩ := dct_new (G := G) (P := X.prog) (w := X.w) (H := H) (h := s.heap) I.big
  have I1 := I.laid (a := s.heap.objs.size) (o := objO s.heap.objs.size o) (h' := s.heap.push { cls := .type "dict", data := .dict #[] }) (t' := s.toks) (fun _ _ q => Heap.get?_push_of_some _ q) (Nat.le_refl _) (objO_ok ho)
  have s1 : Step H M (upd H s.heap.objs.size (objO s.heap.objs.size o)) (mup M s.heap.objs.size (.dct [])) := Step.new' hn
  have m1 : RepM G (upd H s.heap.objs.size (objO s.heap.objs.size o)) (mup M s.heap.objs.size (.dct [])) := rm.new hn ⟨o, rfl, rep⟩
  have PP := pps_cons (pos := pos) hk hv pps_nil
  refine wpAny_Dict_walk (knd := leafKind X.prog X.w) rfl rfl (by simp) (by simp) (thn (PP.run pins _ σ _ (fun ps H2 => ∃ dk dv M2, ps.length = 1 ∧ (∃ vk vv, ps = [(vk, vv)] ∧ RepD G.K H2 dk vk ∧ RepD G.K H2 dv vv) ∧ RepM G H2 M2 ∧ Step H M H2 M2 ∧ M2 s.heap.objs.size = some (.dct []) ∧ (lkey dk).isSome = true ∧ Q0 (.obj s.heap.objs.size) (mup M2 s.heap.objs.size (.dct [(dk, dv)]))) I1 ?_) fun ws s2 hw => ?_)
  · refine ⟨ρ, _, _, st.trans s1, rs.keep s1.kp, m1, q _ (rm.none hn), fun dk M1 H1 vk q1 r1 m2 s2 => ?_⟩
    refine ⟨ρ, M1, _, (st.trans s1).trans s2, rs.keep (s1.trans s2).kp, m2, q1, fun dv M2 H2 vv q2 r2 m3 s3 => ?_⟩
    exact ⟨dk, dv, M2, rfl, ⟨vk, vv, rfl, RepD.keep s3.kp _ _ r1, r2⟩, m3, (s1.trans s2).trans s3, q2.1, q2.2.1, q2.2.2⟩
  · obtain ⟨ps, H2, I2, rel, dk, dv, M2, _, ⟨vk, vv, rfl, r1, r2⟩, m2, s2', em, hl, q2⟩ := hw
    cases rel with
    | @cons pr wv _ _ r rr =>
      cases rr
      obtain ⟨kq, hkq⟩ := Option.isSome_iff_exists.mp hl
      obtain ⟨o2, h2, rep2⟩ := dct_of m2 em
      have hd2 := dct_leaf (X := X) C.eP C.ew I2 h2 rep2 rfl
      obtain ⟨lk, dd, pr0⟩ := hd2
      cases pr0
      obtain ⟨wk, wv⟩ := wv
      refine ⟨[(kq, wv)], ⟨lkey_is r1 r.1 hkq, rfl, True.intro⟩, dd, fun h' dd' hs => ?_⟩
      obtain ⟨o', ho', rep'⟩ := (dct_put (G := G) (H := H2) (h' := h') (a := s.heap.objs.size) (kvs := [(dk, dv)]) C.eP C.ew (by rw [sizeLine_eq]; show 1 ≤ 16777216; decide) rep2.sm).1 _ dd' (.cons ⟨hkq, vv, r2, r.2⟩ .nil)
      have I3 : Inv X pins σ (upd H2 s.heap.objs.size (objO s.heap.objs.size o')) { s2 with heap := h', toks := s2.toks + 1 } := I2.write (x := s.heap.objs.size) (e := s.heap.objs.size) (by rw [h2]; exact True.intro) (.inl rfl) (fun b q hb z => (hs.2 b hb).trans z) ⟨_, ho'⟩ (objO_ok ho')
      have sp : Step H2 M2 (upd H2 s.heap.objs.size (objO s.heap.objs.size o')) (mup M2 s.heap.objs.size (.dct [(dk, dv)])) := Step.put h2 trivial em
      exact ⟨.ref s.heap.objs.size, _, I3, rfl, ok _ _ _ _ q2 (RepD.obj.mpr rfl) (m2.put h2 trivial ⟨o', rfl, rep'⟩) (s2'.trans sp)⟩
/-- d.get(..) -/
theorem ld_dget {o : Expr} (C : CtxK X G N sc) (ho : PE X o (lift G B ta)) (hr : recvE o = true) (hp : plainEs (e :: es) = true) (hA : PA X (e :: es) (liftA G B n t)) (hn : (e :: es).length < 29) (hl : (apos.endLine == pos.line) = true) :
    PE X (.Call (.Attribute o "get" apos) (e :: es) [] pos) (lift G B fun ρ M Q => ta ρ M fun d M1 => isDct M1 d = true ∧ t ρ M1 fun ds M2 => vDGet d ds M2 Q) := by
  have hp' := hp
  unfold plainEs at hp
  rw [List.all_cons, Bool.and_eq_true] at hp
  refine ⟨fun pins s σ H Q I ⟨ρ, M, Q0, st, rs, rm, q, ok⟩ => ?_⟩
  have hfew : ((backTo pos (starEach (e :: es) X.env)).all (fun x => !x.1) && (backToKw pos (keywordEach [] X.env)).all (fun x => x.1.isSome)
      && decide ((e :: es).length + ([] : List Keyword).length + (if ([] : List Keyword).isEmpty then 0 else 1) < 30)) = true := by
    rw [all_plain hp']
    show (true && true && decide ((e :: es).length + 0 + 0 < 30)) = true
    rw [decide_eq_true (by omega)]; rfl
  refine wpAny_Call_method_late (base_plain hr _ _ _) hfew hl rfl (thn (ho.run pins s σ H (fun v H1 => ∃ d M1, (isDct M1 d = true ∧ t ρ M1 fun ds M2 => vDGet d ds M2 Q0) ∧ RepD G.K H1 d v ∧ RepM G H1 M1 ∧ Step H M H1 M1) I ⟨ρ, M, _, st, rs, rm, q, fun d M1 H1 x q1 r1 m1 s1 => ⟨d, M1, q1, r1, m1, s1⟩⟩) fun v s1 hv => ?_)
  obtain ⟨x, H1, I1, rx, d, M1, ⟨q1, q2⟩, r1, m1, s1'⟩ := hv
  unfold isDct at q1
  split at q1
  · rename_i ad
    rw [RepD.obj] at r1; subst r1
    obtain rfl : v = Value.ref ad := rx
    split at q1
    · rename_i kvs em
      obtain ⟨o', h', rep⟩ := dct_of m1 em
      refine ⟨"dict", "dict.get", PySem.F.plainAttrs_dict, PySem.F.slot_dict_get, PySem.F.type_dict_get, dct_type I1 h' rep, fun b q => ?_, ?_⟩
      · cases q
        exact ⟨o', objO_at I1 h', rep.ex.2.1⟩
      · have hA' := hA.run pos pins s1 σ H1 (fun vs H2 => liftM G vDGet (.ref ad) vs H2 Q) I1 ⟨ρ, M1, _, st.trans s1', rs.keep s1'.kp, m1, q2, fun ds M2 H2 vs l q3 r3 m3 s3 => ⟨.obj ad, ds, M2, Q0, RepD.obj.mpr rfl, r3, m3, q3, ok.on (s1'.trans s3)⟩⟩
        rw [star_plain hp.1] at hA' ⊢
        refine Calls.callWith_builtin (by show (false || (backTo pos (starEach es X.env)).any (·.1)) = false; rw [any_plain hp.2] <;> rfl) (Calls.evalArgs_plain ?_)
        exact thn hA' fun us s2 ⟨vs, H2, I2, r2, q3⟩ => md_dget C.eK C.eP C.ew C.hu pins s2 σ H2 (.ref ad) vs _ us Q I2 rfl r2 q3
    · cases q1
  · cases q1
/-- dict(zip(a, b)) of two lists -/
theorem merge_rep {H : Hp} : ∀ {ps : List (D × D)} {lk : List (Leaf × Value)} {acc : List (D × D)} {la : List (Leaf × Value)}, Paired (LeafRel G H) ps lk → Paired (LeafRel G H) acc la → Paired (LeafRel G H) (ps.foldl (fun acc p => dput acc p.1 p.2) acc) (merged la lk)
  | _, _, _, _, .nil, r => r
  | p :: ps, q :: lk, acc, la, .cons r rs, r0 => by
    show Paired _ (ps.foldl _ (dput acc p.1 p.2)) (merged (stored la q.1 q.2) lk)
    exact merge_rep rs (leaf_put r.1 r.2 r0)
theorem zip_leaf {H : Hp} : ∀ {xs ys : List D} {vs ws : List V} {us uw : List Value}, RepL G.K H xs vs → RepL G.K H ys ws → Vals vs us → Vals ws uw → (xs.all fun x => (lkey x).isSome) = true → ∃ lk, Paired (LeafRel G H) (xs.zip ys) lk ∧ lk.length = min us.length uw.length ∧ ∀ (i : Nat) k v, us[i]? = some k → uw[i]? = some v → ∃ q, lk[i]? = some (q, v) ∧ ∀ (P : Program) (w : World), (leafKind P w).is q k = true
  | [], ys, vs, ws, us, uw, r, r', rv, rw', h => by
    rw [RepL.nil] at r; subst r
    cases rv
    exact ⟨[], .nil, by simp, fun i k v h => by simp at h⟩
  | x :: xs, [], vs, ws, us, uw, r, r', rv, rw', h => by
    rw [RepL.nil] at r'; subst r'
    cases rw'
    exact ⟨[], .nil, by simp, fun i k v h h' => by simp at h'⟩
  | x :: xs, y :: ys, vs, ws, us, uw, r, r', rv, rw', h => by
    obtain ⟨v, vs', rfl, r1, r2⟩ := RepL.cons.mp r
    obtain ⟨w, ws', rfl, r3, r4⟩ := RepL.cons.mp r'
    rw [List.all_cons, Bool.and_eq_true] at h
    obtain ⟨q, hq⟩ := Option.isSome_iff_exists.mp h.1
    cases rv with
    | @cons _ u _ us' g1 g2 =>
      cases rw' with
      | @cons _ u2 _ uw' g3 g4 =>
        obtain ⟨lk, p1, p2, p3⟩ := zip_leaf r2 r4 g2 g4 h.2
        refine ⟨(q, u2) :: lk, .cons ⟨hq, w, r3, g3⟩ p1, by simp [p2, Nat.succ_min_succ], fun i k v h1 h2 => ?_⟩
        cases i with
        | zero =>
          simp at h1 h2; subst h1 h2
          exact ⟨q, rfl, fun P w => lkey_is r1 g1 hq⟩
        | succ i => simpa using p3 i k v (by simpa using h1) (by simpa using h2)
theorem zipD_len : ∀ (ps acc : List (D × D)), (ps.foldl (fun acc p => dput acc p.1 p.2) acc).length ≤ acc.length + ps.length
  | [], acc => by simp
  | p :: ps, acc => by
    have h1 := zipD_len ps (dput acc p.1 p.2)
    have h2 := dput_len acc p.1 p.2
    simp only [List.foldl_cons, List.length_cons]
    omega
theorem ld_dzip {pz pd : Pos} (C : CtxOk X G N sc) (hg : Gl X "dict") (hf : ("dict" : Str) ∈ G.fb) (hg2 : Gl X "zip") (hf2 : ("zip" : Str) ∈ G.fb) (ha : PE X a (lift G B ta)) (hb : PE X b (lift G B tb)) (pa : plainE a = true) (pb : plainE b = true) :
    PE X (.Call (.Name "dict" p) [.Call (.Name "zip" p2) [a, b] [] pz] [] pd) (lift G B fun ρ M Q => ta ρ M fun d M1 => tb ρ M1 fun f M2 => vZip d f M2 Q) := by
  refine ⟨fun pins s σ H Q I ⟨ρ, M, Q0, st, rs, rm, q, ok⟩ => ?_⟩
  have A := la_cons (n := 1) ha (la_cons (n := 0) hb la_nil pb) pa
  have s1 : starEach [a, b] X.env = (false, eval a X.env) :: starEach [b] X.env := star_plain pa _ _
  have s2 : (backTo pz (starEach [b] X.env)).any (·.1) = false := by rw [star_plain pb]; rfl
  refine wpAny_Call_Name_kw (ld_blt I hg (by rw [C.eM]; exact C.fb _ hf) PyProof.Rows.boot_dict ?_ (by decide) (by decide))
  refine PyProof.Rows.callWith_type1 (Calls.spliced_cons ?_) rfl rfl
  refine Call_ (ld_blt I hg2 (by rw [C.eM]; exact C.fb _ hf2) PyProof.Rows.boot_zip (PyProof.Rows.callWith_type1 (thn (A.run pz pins s σ H (fun vs H1 => ∃ d f M2, vs.length = 2 ∧ vZip d f M2 Q0 ∧ RepL G.K H1 [d, f] vs ∧ RepM G H1 M2 ∧ Step H M H1 M2) I ⟨ρ, M, fun ds M' => ∃ d f, ds = [d, f] ∧ vZip d f M' Q0, st, rs, rm, ?_, fun ds M1 H1 vs l q1 r1 m1 s1 => ?_⟩) fun us s1 hus => ?_) s1 s2))
  · have : (fun d M1 => tb ρ M1 fun f M2 => vZip d f M2 Q0) = (fun d M1 => tb ρ M1 fun f M2 => ∃ d' f', [d, f] = [d', f'] ∧ vZip d' f' M2 Q0) := by
      funext d M1
      congr 1
      funext f M2
      exact propext ⟨fun h => ⟨d, f, rfl, h⟩, fun ⟨d', f', e, h⟩ => by cases e; exact h⟩
    show ta ρ M (fun d M1 => tb ρ M1 fun f M2 => ∃ d' f', [d, f] = [d', f'] ∧ vZip d' f' M2 Q0)
    rw [← this]; exact q
  · obtain ⟨d, f, rfl, q1⟩ := q1
    exact ⟨d, f, M1, by rw [← r1.length, l], q1, r1, m1, s1⟩
  · obtain ⟨vs, H1, I1, rv, d, f, M2, _, q2, r2, m2, s2'⟩ := hus
    obtain ⟨v, w, rfl, rd, rf⟩ := rep2 r2
    unfold vZip at q2
    split at q2
    · rename_i ax bx
      rw [RepD.obj] at rd rf; subst rd rf
      split at q2
      · rename_i xs ys em em2
        obtain ⟨ho1, h1, vx, rfl, rx⟩ := m2 ax _ em
        obtain ⟨ho2, h2, vy, rfl, ry⟩ := m2 bx _ em2
        cases rv with
        | cons g1 gg =>
          cases gg with
          | cons g2 gg =>
            cases gg
            cases g1
            cases g2
            obtain ⟨its, rvx, p1, hz1⟩ := I1.list (show SqL X.K H1 ax vx from .inl (.inl h1))
            obtain ⟨its2, rvy, p2, hz2⟩ := I1.list (show SqL X.K H1 bx vy from .inl (.inl h2))
            have la : ax < s1.heap.objs.size := p1.lt
            have lb : bx < s1.heap.objs.size := p2.lt
            refine call_zip_2 p1.isList p2.isList fun h' hz hTI hTO i1 i2 hsz hk => ?_
            have I2 : Inv X pins σ H1 { s1 with heap := h' } := I1.kept (t' := s1.toks) hk
            have D := PySem.W.ktu_apart s1.heap.objs.size ax bx la lb
            refine Calls.spliced_nil ?_
            have hle : ∀ b ∈ [s1.heap.objs.size + 4, s1.heap.objs.size + 3, s1.heap.objs.size, s1.heap.objs.size + 1], FpOk X pins H1 b := fun b hb => by
              have : s1.heap.objs.size ≤ b := by
                simp at hb
                rcases hb with rfl | rfl | rfl | rfl <;> omega
              exact I1.fpOk this (I1.hok.fresh this)
            obtain ⟨lk, z1, z2, z3⟩ := zip_leaf rx ry rvx rvy q2.1
            refine call_dict_pairs (knd := leafKind X.prog X.w) (kvs := lk) (PairArg.zip (prog := X.prog) (w := X.w) _ _ _ _ _ ax bx D its.toArray its2.toArray) (I.ok.hd C.calm) ⟨hz, hTI, ⟨_, _, hTO⟩, i1, i2, p1.isList.at (fun o q => hk _ o q), p2.isList.at (fun o q => hk _ o q)⟩ ⟨by simpa using z2, fun i key v hr => ?_⟩ (by have e9 := rvx.length; simp only [List.size_toArray]; omega) fun h'' tk dd' hk' => ?_
            · obtain ⟨q', e1, e2⟩ := z3 i key v (by simpa using hr.1) (by simpa using hr.2)
              exact ⟨q', e1, e2 _ _⟩
            · have hbig : (zipD xs ys).length ≤ sizeLine := by
                have e1 := zipD_len (xs.zip ys) []
                have e2 : xs.length = its.length := by rw [rx.length]; exact rvx.length
                have e9 := rvx.length
                unfold zipD
                rw [List.length_nil, List.length_zip] at e1
                omega
              obtain ⟨o', ho', rep'⟩ := (dct_put (G := G) (H := H1) (h' := h'') (a := h'.objs.size) (kvs := zipD xs ys) C.eP C.ew hbig (beq_eq_false_iff_ne.mpr (Ne.symm (Nat.ne_of_lt (by have := I2.big; exact this))))).1 _ dd' (merge_rep z1 .nil)
              have hn : H1 h'.objs.size = none := I2.hok.fresh (Nat.le_refl _)
              have I3 : Inv X pins σ (upd H1 h'.objs.size (objO h'.objs.size o')) { s1 with heap := h'', toks := tk } := I2.turnedNew (ch := [s1.heap.objs.size + 4, s1.heap.objs.size + 3, s1.heap.objs.size, s1.heap.objs.size + 1]) (fun b ob hb q => hk' b ob hb q) hle (Nat.le_refl _) (objO_ok ho')
              exact ⟨.ref h'.objs.size, _, I3, rfl, ok _ _ _ _ (q2.2 _ (m2.none hn)) (RepD.obj.mpr rfl) (m2.new hn ⟨o', rfl, rep'⟩) (s2'.trans (Step.new' hn))⟩
      · exact q2.elim
    · exact q2.elim
/-- list(range(n)) -/
theorem ld_lrng {pz pd : Pos} {t : TDA} (C : CtxOk X G N sc) (hg : Gl X "list") (hf : ("list" : Str) ∈ G.fb) (hg2 : Gl X "range") (hf2 : ("range" : Str) ∈ G.fb) (hA : PA X [a] (liftA G B 1 t)) (pa : plainE a = true) :
    PE X (.Call (.Name "list" p) [.Call (.Name "range" p2) [a] [] pz] [] pd) (lift G B fun ρ M Q => t ρ M fun ds M1 => match ds with
      | [.int j] => 0 ≤ j ∧ j ≤ 16777216 ∧ ∀ q, M1 q = none → Q (.obj q) (mup M1 q (.lst ((List.range j.toNat).map fun k => .int (k : Nat))))
      | _ => False) := by
  refine ⟨fun pins s σ H Q I ⟨ρ, M, Q0, st, rs, rm, q, ok⟩ => ?_⟩
  have s1 : starEach [a] X.env = (false, eval a X.env) :: starEach [] X.env := star_plain pa _ _
  have s2 : (backTo pz (starEach [] X.env)).any (·.1) = false := rfl
  refine wpAny_Call_Name_kw (ld_blt I hg (by rw [C.eM]; exact C.fb _ hf) (show bootBuiltins ("list" : Str) = some (.type "list") from BI.boot .list) ?_ (by decide) (by decide))
  refine PyProof.Rows.callWith_type1 (Calls.spliced_cons ?_) rfl rfl
  refine Call_ (ld_blt I hg2 (by rw [C.eM]; exact C.fb _ hf2) boot_range (PyProof.Rows.callWith_type1 (thn (hA.run pz pins s σ H (fun vs H1 => ∃ j M1, vs = [V.int j] ∧ (0 ≤ j ∧ j ≤ 16777216 ∧ ∀ q, M1 q = none → Q0 (.obj q) (mup M1 q (.lst ((List.range j.toNat).map fun k => .int (k : Nat))))) ∧ RepM G H1 M1 ∧ Step H M H1 M1) I ⟨ρ, M, _, st, rs, rm, q, fun ds M1 H1 vs l q1 r1 m1 s1 => ?_⟩) fun us s1 hus => ?_) s1 s2))
  · split at q1
    · rename_i j
      obtain ⟨v, rfl, r2⟩ := rep1 r1
      rw [RepD.int] at r2; subst r2
      exact ⟨j, M1, rfl, q1, m1, s1⟩
    · exact q1.elim
  · obtain ⟨vs, H1, I1, rv, j, M1, rfl, ⟨j0, j1, q1⟩, m1, s1'⟩ := hus
    cases rv with
    | cons r rr =>
      cases rr
      obtain ⟨tk, rfl⟩ := r
      refine call_range_1 (Calls.spliced_nil ?_)
      have hsm : Builtin.Range.small 0 j 1 = true := small_one (by omega) (by omega) (by omega) (by omega)
      have hsz : Builtin.Range.rangeSize 0 j 1 = (j.toNat : Int) := by rw [rangeSize_one]; split <;> omega
      obtain ⟨s2, hs2⟩ : ∃ s2 : Shared, s2 = { s1 with heap := s1.heap.push { cls := .type "range", data := .fields #[.int 0 s1.toks, .int j tk, .int 1 (s1.toks + 1)] }, toks := s1.toks + 1 + 1 } := ⟨_, rfl⟩
      have I2 : Inv X pins σ H1 s2 := by rw [hs2]; exact I1.kept fun b o e => Heap.get?_push_of_some _ e
      have hR : IsRange s2.heap s1.heap.objs.size 0 j 1 s1.toks tk (s1.toks + 1) := by rw [hs2]; exact IsRange.new ..
      rw [← hs2]
      refine call_list_range (I2.ok.hd C.calm) hR hsm hsz (by omega) fun h' tk' acc c' hk e hi => ?_
      have hn : H1 s2.heap.objs.size = none := I2.hok.fresh (Nat.le_refl _)
      have hlen : ((List.range j.toNat).map fun k : Nat => V.int (k : Nat)).length ≤ sizeLine := by rw [List.length_map, List.length_range, sizeLine_eq]; omega
      refine ⟨.ref s2.heap.objs.size, upd H1 s2.heap.objs.size (.lst ((List.range j.toNat).map fun k : Nat => V.int (k : Nat))), I2.laid hk (Nat.le_refl _) ⟨hlen, acc.toList, c', ?_, by rw [Array.toArray_toList]; exact e⟩, rfl, ok _ _ _ _ (q1 _ (m1.none hn)) (RepD.obj.mpr rfl) (m1.new hn ⟨_, rfl, ?_⟩) (s1'.trans (Step.new' hn))⟩
      · refine vals_of_idx _ _ (by rw [List.length_map, List.length_range, Array.length_toList]; exact hi.1) fun i u hu => ?_
        obtain ⟨t', ht⟩ := hi.2 i u (by rw [← Array.getElem?_toList]; exact hu)
        have hil : i < j.toNat := by
          have := (List.getElem?_eq_some_iff.mp hu).1
          rw [Array.length_toList, hi.1] at this
          exact this
        refine ⟨.int (i : Nat), by rw [List.getElem?_map, List.getElem?_range hil]; rfl, t', ?_⟩
        rw [ht]; congr 1; omega
      · have : ((List.range j.toNat).map fun k : Nat => D.int (k : Nat)) = ((List.range j.toNat).map fun k : Nat => (k : Int)).map D.int := by rw [List.map_map]; rfl
        rw [this]
        refine RepL.ints.mpr ?_
        rw [List.map_map]; rfl
end
end DL
set_option Elab.async false
set_option linter.all false
set_option maxRecDepth 100000
set_option maxHeartbeats 1000000
/-! DLY: reversed slices, isinstance of several classes, enumerate. -/
namespace DL
open PySem PySem.Spec PyProof.Rows L2
section
variable {X : Cx} {G : Cfg} {N : List Str} {sc : Scope} {B : Bs} {pos p2 p3 p4 : Pos} {a b c tg e : Expr} {ta tb tc : TD} {x : Str} {p apos : Pos} {es : List Expr} {n : Nat} {t : TDA}

/-! ### a[::-1] -/
theorem str_rev (l : List Nat) (t t1 : Tok) : sliceMade (S l) t none none (some (-1, t1)) = .str (S l.reverse) := by
  unfold sliceMade
  rw [if_neg (by simp)]
  congr 1
  have e : slicePicked (S l) none none (some (-1, t1)) = (List.range l.length).reverse := by
    show Builtin.Str.strSliceIndices none none (-1) (S l).length = _
    rw [S_len]
    unfold Builtin.Str.strSliceIndices
    show sliceRange ((l.length : Int) - 1) (-1) (-1) = _
    rw [PySem.W.krv_sliceRange, PySem.W.krv_range]
  rw [e, List.filterMap_reverse]
  have := PySem.W.krv_all (S l).cps
  unfold S at this ⊢
  simp only [List.size_toArray] at this
  rw [this]
theorem ld_rev {k : Nat} (C : CtxK X G N sc) (ha : PE X a (lift G B ta)) :
    PE X (.Subscript a (.Slice none none (some (.UnaryOp .USub (.Constant (.int 1) k p3) p4)) p2) pos) (lift G B fun ρ M Q => ta ρ M fun d M1 => vRev d M1 Q) := by
  refine ⟨fun pins s σ H Q I ⟨ρ, M, Q0, st, rs, rm, q, ok⟩ => ?_⟩
  refine Subscript_ (thn (ha.run pins s σ H (fun v H1 => ∃ d M1, vRev d M1 Q0 ∧ RepD G.K H1 d v ∧ RepM G H1 M1 ∧ Step H M H1 M1) I ⟨ρ, M, _, st, rs, rm, q, fun d M1 H1 x q1 r1 m1 s1 => ⟨d, M1, q1, r1, m1, s1⟩⟩) fun v s1 ⟨x, H1, I1, rx, d, M1, q1, r1, m1, s1'⟩ => ?_)
  have hst : PO X (some (.UnaryOp .USub (.Constant (.int 1) k p3) p4)) (tPart (tUn (rU fun i => .int (-i)) (tC (.int 1)))) := po_some (pe_un un_neg pe_int)
  refine wpAny_Slice (thn (po_none.run pins s1 σ H1 (fun o H2 => o = none ∧ H2 = H1) I1 ⟨rfl, rfl⟩) fun vl s2 ⟨l, H2, I2, pl, el, e2⟩ => ?_)
  subst el e2
  refine thn (po_none.run pins s2 σ H2 (fun o H3 => o = none ∧ H3 = H2) I2 ⟨rfl, rfl⟩) fun vu s3 ⟨u, H3, I3, pu, eu, e3⟩ => ?_
  subst eu e3
  refine thn (hst.run pins s3 σ H3 (fun o H4 => o = some (-1) ∧ H4 = H3) I3 ⟨1, rfl, -1, rfl, rfl, rfl⟩) fun vs s4 ⟨o, H4, I4, ps, eo, e4⟩ => ?_
  subst eo e4
  have I5 : Inv X pins σ H4 { s4 with heap := s4.heap.push { cls := .type "slice", data := .fields #[vl, vu, vs] } } := I4.kept (t' := s4.toks) fun b ob q => Heap.get?_push_of_some _ q
  unfold vRev at q1
  split at q1
  · rename_i l
    rw [RepD.str] at r1; subst r1
    obtain ⟨t, rfl⟩ := rx
    show wpAny (model X.prog X.w) X.A (subscriptTail a (.Slice none none (some (.UnaryOp .USub (.Constant (.int 1) k p3) p4)) p2) (.str (S l) t) (.ref s4.heap.objs.size)) (EP X pins σ Q) X.xe { s4 with heap := s4.heap.push { cls := .type "slice", data := .fields #[vl, vu, vs] } }
    refine tail_any (T := "str") (ops := [.str (S l) t, .ref s4.heap.objs.size]) rfl (PySem.F.slot_str_getitem.lookup) ?_ (by with_unfolding_all rfl)
    cases pl
    cases pu
    cases ps with
    | int _ t1 =>
      refine wpAny_getItem_str_slice (l := none) (u := none) (st := some (-1, t1)) ⟨_, Heap.get?_push_size _ rfl, rfl, rfl⟩ rfl ?_
      rw [str_rev]
      exact ⟨by rw [S_len, List.length_reverse, sizeLine_eq]; have := q1.1; omega, .str (S l.reverse), H4, I5.tok _, ⟨_, rfl⟩, ok _ _ _ _ q1.2 (RepD.str.mpr rfl) m1 s1'⟩
  · rename_i ad
    rw [RepD.obj] at r1; subst r1
    cases rx
    split at q1
    · rename_i xs e0
      obtain ⟨ws, hx, rw'⟩ := rdL_ok m1 e0
      obtain ⟨its, r, ht, hz⟩ := I5.list (by rw [C.eK]; exact hx)
      have hlen := r.length
      have hn := I5.hok.fresh (a := (s4.heap.push { cls := .type "slice", data := .fields #[vl, vu, vs] }).objs.size) (Nat.le_refl _)
      show wpAny (model X.prog X.w) X.A (subscriptTail a (.Slice none none (some (.UnaryOp .USub (.Constant (.int 1) k p3) p4)) p2) (.ref ad) (.ref s4.heap.objs.size)) (EP X pins σ Q) X.xe { s4 with heap := s4.heap.push { cls := .type "slice", data := .fields #[vl, vu, vs] } }
      refine tail_any (ops := [.ref ad, .ref s4.heap.objs.size]) ht.isList.typeIs (PySem.slot_list_getitem.lookup) ?_ (by with_unfolding_all rfl)
      refine wpAny_getItem_list_slice ht.isList (Heap.IsSliceOf.new _ vl vu vs) pl pu ps (by decide) ?_ (by rw [List.size_toArray]; omega)
      rw [PySem.W.krv_pick]
      refine ⟨.ref _, _, I5.laid (t' := s4.toks) (o := .lst ws.reverse) (fun b ob q => Heap.get?_push_of_some _ q) (Nat.le_refl _) ?_, rfl, ok _ _ _ _ (q1 _ (m1.none hn)) (RepD.obj.mpr rfl) (new_lst m1 hn (rw'.rev)) (s1'.trans (Step.new' hn))⟩
      exact ⟨by rw [List.length_reverse]; exact hz, _, 0, r.reverse, Heap.get?_push_size _ rfl⟩
    · exact q1.elim
  · exact q1.elim

/-! ### isinstance(x, (T, ..)) -/
theorem kitsB_ok {K : PySem.W.Frag} {U : String} : ∀ {Ts : List String} {r : Bool}, kitsB U Ts = some r → PySem.W.kitAny K (.type U) (Ts.map .type) = some r
  | [], r, h => h
  | T :: Ts, r, h => by
    unfold kitsB at h
    cases e : kitB U T with
    | none => rw [e] at h; cases h
    | some b =>
      rw [e] at h
      refine kitAny_cons (kit_ty e) (fun hb => ?_) (fun hb => ?_)
      · subst hb; exact kitsB_ok h
      · subst hb; exact (Option.some.inj h).symm
theorem clsV_all : ∀ (Ts : List String), Paired ClsV (Ts.map V.ty) (Ts.map Value.type)
  | [] => .nil
  | T :: Ts => .cons (.ty T) (clsV_all Ts)
theorem ld_isit {T1 T2 : String} {kt : Nat} {q1 q2 q3 : Pos} (C : CtxK X G N sc) (hg : Gl X "isinstance") (hf : ("isinstance" : Str) ∈ G.fb) (hT1 : isT T1 = true) (hT2 : isT T2 = true) (hg1 : Gl X (PySem.Str.ofString T1)) (hf1 : (PySem.Str.ofString T1) ∈ G.fb) (hg2 : Gl X (PySem.Str.ofString T2)) (hf2 : (PySem.Str.ofString T2) ∈ G.fb) (ha : PE X a (lift G B ta)) (hp : plainE a = true) :
    PE X (.Call (.Name "isinstance" p) [a, .Tuple [.Name (PySem.Str.ofString T1) q1, .Name (PySem.Str.ofString T2) q2] kt q3] [] pos) (lift G B fun ρ M Q => ta ρ M fun d M1 => match tyD M1 d with
      | some U => match kitsB U [T1, T2] with
        | some r => Q (.bl r) M1
        | none => False
      | none => False) := by
  obtain ⟨b1, b2, b3⟩ := isT_boot hT1
  obtain ⟨c1, c2, c3⟩ := isT_boot hT2
  have e1 : PE X (.Name (PySem.Str.ofString T1) q1) (tC (.ty T1)) := pe_bltn hg1 (by rw [C.eM]; exact C.fb _ hf1) b1 rfl b2 b3
  have e2 : PE X (.Name (PySem.Str.ofString T2) q2) (tC (.ty T2)) := pe_bltn hg2 (by rw [C.eM]; exact C.fb _ hf2) c1 rfl c2 c3
  have et : PE X (.Tuple [.Name (PySem.Str.ofString T1) q1, .Name (PySem.Str.ofString T2) q2] kt q3) _ := pe_tup (pa_cons e1 (pa_cons e2 pa_nil (by rfl)) (by rfl))
  refine (pe_callB call_isiYT hg (by rw [C.eM]; exact C.fb _ hf) (by decide +kernel) (pa_cons ha (pa_cons et pa_nil (by rfl)) (star_plain hp _ _)) (by decide +kernel) (by decide +kernel) (star_plain hp _ _) (by rfl)).weak fun σ H Q ⟨ρ, M, Q0, st, rs, rm, q, ok⟩ => ?_
  refine ⟨ρ, M, _, st, rs, rm, q, fun d M1 H1 x q1 r1 m1 s1 => ?_⟩
  (try dsimp only at q1)
  split at q1
  · rename_i U eU
    split at q1
    · rename_i r er
      refine ⟨by show 2 ≤ sizeLine; rw [sizeLine_eq]; decide, fun tp htp => ?_⟩
      have s2 : Step H1 M1 (upd H1 tp (.tup [.ty T1, .ty T2])) M1 := Step.hid htp
      refine ⟨x, tp, [.ty T1, .ty T2], .type U, [.type T1, .type T2], r, rfl, upd_same, clsV_all [T1, T2], tyD_ok C.eK (RepD.keep s2.kp _ _ r1) (m1.skip htp) eU, kitsB_ok er, ok _ _ _ _ q1 (RepD.bl.mpr rfl) (m1.skip htp) (s1.trans s2)⟩
    · exact q1.elim
  · exact q1.elim
end
end DL
set_option Elab.async false
set_option linter.all false
set_option maxRecDepth 100000
set_option maxHeartbeats 1000000
/-! DLZ: enumerate over lists, tuples, texts. -/
namespace PySem
open Sem (wp)
set_option maxHeartbeats 1000000 in
theorem dl_meets_enum1 {v : Value} {o : Obj} {H : Heap → Prop} (B : Begins v o H) :
    Meets (Builtin.«enumerate.__new__» ⟨[.type "enumerate", v], []⟩) (fun _ R s => H s.heap ∧
      R (.ok (.ret (.ref (s.heap.push o).objs.size))) { s with heap := (s.heap.push o).push { cls := .type "enumerate", data := .fields #[.none, .bool false, .ref s.heap.objs.size, rawInt 0, .none, .none] } }) :=
  .of_wp fun prog w A R s h => by
    obtain ⟨hp, g, d, tk, os⟩ := s; obtain ⟨h1, h⟩ := h
    have hsub := sub_enumerate
    have q1 : ∀ {A' : Around} {E : Value → Shared → Prop} {Q : Value → Shared → Prop}, Q (.ref hp.objs.size) ⟨hp.push o, g, d, tk, os⟩ → wpAny (model prog w) A' (pyIter v) Q E ⟨hp, g, d, tk, os⟩ :=
      fun q => B.iter prog w _ _ ⟨hp, g, d, tk, os⟩ _ h1 q
    wp_walk using q1
    refine wpAny_stack_any fun st => wpAny_pure ?_
    split
    · rename_i c _ _ _ _ _
      cases (c == Value.type "enumerate")
      · wp_walk using q1
        exact ⟨_, rfl, h⟩
      · wp_walk using q1
        exact ⟨_, rfl, h⟩
    · wp_walk using q1
      exact ⟨_, rfl, h⟩
theorem dl_enum_begins {prog : Program} {w : World} {A : Around} {E : Value → Shared → Prop} {s : Shared} {v : Value} {o : Obj} {H : Heap → Prop} {Q : Value → Shared → Prop} (B : Begins v o H) (h1 : H s.heap)
    (h : ∀ h', IsEnum h' (s.heap.objs.size + 1) s.heap.objs.size 0 .none → h'.get? s.heap.objs.size = some o → h'.objs.size = s.heap.objs.size + 2 →
      (∀ b o, s.heap.get? b = some o → h'.get? b = some o) → Q (.ref (s.heap.objs.size + 1)) { s with heap := h' }) :
    wpAny (model prog w) A (call (.type "enumerate") [v]) Q E s := by
  refine callType_new F.called_enumerate (by decide) (F.typeCall_enumerate_1 _) (F.newCall_enumerate_1 _) (fun obj => F.args_object_init_2 obj _) F.entry_enumerate_new
    (dl_meets_enum1 B) ⟨h1, ?_⟩
  have hz : (s.heap.push o).objs.size = s.heap.objs.size + 1 := Heap.size_push ..
  show _ ∧ _
  rw [hz]
  have he : IsEnum ((s.heap.push o).push { cls := .type "enumerate", data := .fields #[.none, .bool false, .ref s.heap.objs.size, rawInt 0, .none, .none] }) (s.heap.objs.size + 1) s.heap.objs.size 0 .none := by
    have := Heap.get?_push_size (s.heap.push o) (o := { cls := .type "enumerate", data := .fields #[.none, .bool false, .ref s.heap.objs.size, rawInt 0, .none, .none] }) rfl
    rw [hz] at this; exact this
  refine ⟨⟨_, he, rfl⟩, h _ he (Heap.get?_push_of_some _ (Heap.get?_push_size _ B.free)) (by rw [Heap.size_push, hz]) fun b o x => Heap.get?_push_of_some _ (Heap.get?_push_of_some _ x)⟩
end PySem
namespace DL
open PySem PySem.Spec PyProof.Rows L2

/-! ### a tuple -/
def IteT (K : PySem.W.Frag) (a : Addr) : It :=
  ⟨fun i H => ∃ (xs : List V) (x : V), SqT K H a xs ∧ xs[i]? = some x, fun i H v H' => ∃ T x, v = .ref T ∧ H T = none ∧ H' = upd H T (.tup [.int (i : Nat), x]) ∧ ∀ xs, SqT K H a xs → xs[i]? = some x, fun i H => ∃ xs : List V, SqT K H a xs ∧ i = xs.length⟩
theorem turn_enumT {P : Program} {w : World} {K : PySem.W.Frag} {elts : List Expr} {kk : Nat} {tpos : Pos} (a e it : Addr) :
    Turn P w K (.Tuple elts kk tpos) (IteT K a) [e, it] e (fun i h => (∃ old, IsEnum h e it ((i : Nat) : Int) old) ∧ h.IsTupleIter it a i ∧ e ≠ it) where
  mem := by simp
  obj := fun i h st b hb => by
    obtain ⟨⟨old, he⟩, ⟨o, ho, hc, hd⟩, _⟩ := st
    have e' : b = e ∨ b = it := by simpa using hb
    rcases e' with z | z
    · rw [z]; exact ⟨_, he, fun v q => nomatch q⟩
    · rw [z]; exact ⟨o, ho, fun v q => by rw [hd] at q; cases q⟩
  keep := fun i h h' st k => let ⟨⟨old, he⟩, hi, hne⟩ := st; ⟨⟨old, k e (by simp) _ he⟩, hi.at fun o q => k it (by simp) o q, hne⟩
  item := by
    intro X hP hw hK hc i pins s σ H E I hf st hg
    subst hP hw hK
    obtain ⟨⟨old, he⟩, hit, hne⟩ := st
    obtain ⟨xs, x, hq, hx⟩ := hg
    obtain ⟨its, rv, p, hz⟩ := I.tuple hq
    obtain ⟨u, hu, ru⟩ := rv.get hx
    have hel : e < s.heap.objs.size := Heap.lt_size he
    have hil : it < s.heap.objs.size := by obtain ⟨_, q, _⟩ := hit; exact Heap.lt_size q
    have ne1 : a ≠ it := fun z => by
      obtain ⟨o1, h1, h2, _⟩ := p
      obtain ⟨o2, h3, h4, _⟩ := hit
      rw [z, h3] at h1; cases h1
      rw [h4] at h2; exact absurd (Value.type.inj h2) (by decide)
    have ne2 : a ≠ e := fun z => by
      obtain ⟨o1, h1, h2, _⟩ := p
      rw [z, he] at h1; cases h1
      exact absurd (Value.type.inj h2) (by decide)
    have D := Draws.tuple (prog := X.prog) (w := X.w) (A := X.A.in1) (I.ok.hd hc) it a ne1 its.toArray
    have hlt : i < its.toArray.size := by
      have h1 := (List.getElem?_eq_some_iff.mp hx).1
      have h2 := rv.length
      simp; omega
    refine wpAny_pyNext_enum_itemD D he ⟨hit, p⟩ hlt hne (by simp [hne, Ne.symm ne2]) fun y h' tk hy ho hst' hT hsz hk => ?_
    have eyu : y = u := by
      have h1 : its[i]? = some y := by simpa using hy
      rw [hu] at h1; exact (Option.some.inj h1).symm
    subst eyu
    refine ⟨_, rfl, wpAny_letOwnedTupleGo_enum (s := { s with heap := h', toks := tk + 1 }) ho fun h'' he' sb => ?_⟩
    have hT2 : h''.get? s.heap.objs.size = some { cls := .type "tuple", data := .seq #[.int i tk, y] } := (sb.2 _ (Nat.ne_of_gt hel)).trans hT
    have new : ObjOk X.prog X.w (upd H s.heap.objs.size (.tup [.int (i : Nat), x])) h'' s.heap.objs.size (.tup [.int (i : Nat), x]) :=
      ⟨by show 2 ≤ sizeLine; decide, [.int i tk, y], .cons ⟨_, rfl⟩ (.cons ru .nil), ⟨_, hT2, rfl, _, rfl⟩⟩
    have I1 : Inv X pins σ (upd H s.heap.objs.size (.tup [.int (i : Nat), x])) { s with heap := h'', toks := tk + 1 } :=
      I.turnedNew (ch := [e, it]) (fun b ob hb q => (sb.2 b (fun z => hb (by simp [z]))).trans (hk b ob (fun z => hb (by simp [z])) (fun z => hb (by simp [z])) q)) hf (Nat.le_refl _) new
    refine ⟨.ref s.heap.objs.size, _, I1, rfl, ⟨_, x, rfl, I.hok.fresh (Nat.le_refl _), rfl, fun ys hy => by rw [I.tuple_inj hy hq]; exact hx⟩, ⟨⟨y, ?_⟩, hst'.1.at fun o q => (sb.2 it (Ne.symm hne)).trans q, hne⟩, fun b hb => ?_⟩
    · have e1 : ((i + 1 : Nat) : Int) = (i : Int) + 1 := by omega
      rw [e1]; exact he'
    · have hb' : b < s.heap.objs.size := by
        have e' : b = e ∨ b = it := by simpa using hb
        rcases e' with z | z
        · rw [z]; exact hel
        · rw [z]; exact hil
      rw [upd_ne (Nat.ne_of_lt hb')]
      exact (hf b hb).1
  done := by
    intro X hP hw hK hc i pins s σ H E I hf st hg
    subst hP hw hK
    obtain ⟨⟨old, he⟩, hit, hne⟩ := st
    obtain ⟨xs, hq, hx⟩ := hg
    obtain ⟨its, rv, p, hz⟩ := I.tuple hq
    obtain ⟨f0, f1, f2, f3, f4, f5⟩ := hf it (by simp)
    have ne1 : a ≠ it := fun z => by
      obtain ⟨o1, h1, h2, _⟩ := p
      obtain ⟨o2, h3, h4, _⟩ := hit
      rw [z, h3] at h1; cases h1
      rw [h4] at h2; exact absurd (Value.type.inj h2) (by decide)
    have D := Draws.tuple (prog := X.prog) (w := X.w) (A := X.A.in1) (I.ok.hd hc) it a ne1 its.toArray
    have hn : i = its.toArray.size := by rw [hx, rv.length]; simp
    subst hn
    exact wpAny_pyNext_enum_endD D he ⟨hit, p⟩ fun h' eb => ⟨rfl, I.turned (t' := s.toks) (fun b o hb q => eb b o hb q) f0 f1 f3 f4 f5⟩
  self := fun A i s Q E st h => let ⟨⟨_, he⟩, _⟩ := st; wpAny_pyIter_enum he h

section
variable {X : Cx} {G : Cfg} {N : List Str} {sc : Scope} {B : Bs} {pos p2 p3 p4 tpos : Pos} {a b c tg e : Expr} {ta tb tc : TD} {x : Str} {p apos : Pos} {es elts : List Expr} {n kk : Nat} {t : TDA}
theorem enu_get : ∀ (xs : List D) (k i : Nat), (enuL k xs)[i]? = (xs[i]?).map fun x => .tup [.int ((k + i : Nat) : Int), x]
  | [], k, i => by simp [enuL]
  | x :: xs, k, 0 => by simp [enuL]
  | x :: xs, k, i + 1 => by
    have := enu_get xs (k + 1) i
    simp only [enuL, List.getElem?_cons_succ, this]
    congr 1
    funext y
    have : k + 1 + i = k + (i + 1) := by omega
    rw [this]
theorem enu_len : ∀ (xs : List D) (k : Nat), (enuL k xs).length = xs.length
  | [], k => rfl
  | x :: xs, k => by simp [enuL, enu_len xs (k + 1)]
theorem it_enuT (C : CtxK X G N sc) {l : Addr} {xs : List D} {vs : List V} {H0 : Hp} (hp : SqT G.K H0 l vs) (rp : RepL G.K H0 xs vs) : ItD G H0 (IteT X.K l) ⟨enuL 0 xs, fun _ => True⟩ where
  go := fun i H M k hi m ok => by
    have hi' : i < vs.length := by rw [← rp.length]; rw [show (Its.mk (enuL 0 xs) fun _ => True).xs = enuL 0 xs from rfl, enu_len] at hi; exact hi
    exact ⟨vs, vs[i], by rw [C.eK]; exact sqT_keep k hp, List.getElem?_eq_getElem hi'⟩
  yld := fun i H y H' M k hi m ok z => by
    obtain ⟨T, x, rfl, hT, rfl, hx⟩ := z
    obtain ⟨d, ed, rd⟩ := rp.getV (hx vs (by rw [C.eK]; exact sqT_keep k hp))
    have rd' := RepD.keep (k.trans (Keep.new (o := .tup [.int (i : Nat), x]) hT)) _ _ rd
    refine ⟨.tup [.int i, d], by show (enuL 0 xs)[i]? = _; rw [enu_get, ed]; simp, RepD.tup.mpr ⟨T, [.int i, x], rfl, .inl (.inl upd_same), RepL.cons.mpr ⟨_, _, rfl, RepD.int.mpr rfl, RepL.one rd'⟩⟩, m.skip hT, Step.hid hT⟩
  stop := fun H M k m ok => ⟨vs, by rw [C.eK]; exact sqT_keep k hp, by show (enuL 0 xs).length = _; rw [enu_len]; exact rp.length⟩
theorem it_enuL (C : CtxK X G N sc) {l : Addr} {xs : List D} {H0 : Hp} : ItD G H0 (Ite X.K l) ⟨enuL 0 xs, fun M => rdL M l = some xs⟩ where
  go := fun i H M _ hi m ok => by
    obtain ⟨vs, hp, rp⟩ := rdL_ok m ok
    have hi' : i < vs.length := by rw [← rp.length]; rw [show (Its.mk (enuL 0 xs) fun M => rdL M l = some xs).xs = enuL 0 xs from rfl, enu_len] at hi; exact hi
    exact ⟨vs, vs[i], by rw [C.eK]; exact hp, List.getElem?_eq_getElem hi'⟩
  yld := fun i H y H' M k hi m ok z => by
    obtain ⟨T, x, rfl, hT, rfl, hx⟩ := z
    obtain ⟨vs, hp, rp⟩ := rdL_ok m ok
    obtain ⟨d, ed, rd⟩ := rp.getV (hx vs (by rw [C.eK]; exact hp))
    have rd' := RepD.keep (Keep.new (o := .tup [.int (i : Nat), x]) hT) _ _ rd
    refine ⟨.tup [.int i, d], by show (enuL 0 xs)[i]? = _; rw [enu_get, ed]; simp, RepD.tup.mpr ⟨T, [.int i, x], rfl, .inl (.inl upd_same), RepL.cons.mpr ⟨_, _, rfl, RepD.int.mpr rfl, RepL.one rd'⟩⟩, m.skip hT, Step.hid hT⟩
  stop := fun H M k m ok => by
    obtain ⟨vs, hp, rp⟩ := rdL_ok m ok
    exact ⟨vs, by rw [C.eK]; exact hp, by show vs.length ≤ (enuL 0 xs).length; rw [enu_len, rp.length]; exact Nat.le_refl _⟩
theorem li_enu (C : CtxK X G N sc) (hg : Gl X "enumerate") (hf : ("enumerate" : Str) ∈ G.fb) (ha : PE X a (lift G B ta)) (hp : plainE a = true) :
    PI X (.Tuple elts kk tpos) (.Call (.Name "enumerate" p) [a] [] pos) (liftI G B fun ρ M R => ta ρ M fun d M1 => enuOf d M1 R) := by
  refine ⟨fun pins s σ H R I h => ?_⟩
  obtain ⟨ρ, M, R0, st, rs, rm, q, ok⟩ := h
  have A := la_cons (n := 0) ha la_nil hp
  refine Call_ (ld_blt I hg (by rw [C.eM]; exact C.fb _ hf) boot_enumerate (PyProof.Rows.callWith_type1 (thn (A.run pos pins s σ H (fun vs H1 => ∃ d M1, enuOf d M1 R0 ∧ RepL G.K H1 [d] vs ∧ RepM G H1 M1 ∧ Step H M H1 M1) I ⟨ρ, M, fun ds M' => ∃ d, ds = [d] ∧ enuOf d M' R0, st, rs, rm, ?_, fun ds M1 H1 vs l q1 r1 m1 s1 => ?_⟩) fun us s1 hus => ?_) (star_plain hp _ _) rfl))
  · have : (fun d M1 => enuOf d M1 R0) = (fun d M1 => ∃ d', [d] = [d'] ∧ enuOf d' M1 R0) := by
      funext d M1
      exact propext ⟨fun h => ⟨d, rfl, h⟩, fun ⟨d', e, h⟩ => by cases e; exact h⟩
    show ta ρ M (fun d M1 => ∃ d', [d] = [d'] ∧ enuOf d' M1 R0)
    rw [← this]; exact q
  · obtain ⟨d, rfl, q1⟩ := q1
    exact ⟨d, M1, q1, r1, m1, s1⟩
  · obtain ⟨vs, H1, I1, rv, d, M1, q1, r1, m1, s1'⟩ := hus
    obtain ⟨v, rfl, rd⟩ := rep1 r1
    cases rv with
    | cons r rr =>
      cases rr
      unfold enuOf at q1
      split at q1
      · rename_i xs
        obtain ⟨l, ws, rfl, hq, rp⟩ := RepD.tup.mp rd
        cases r
        obtain ⟨its, rvv, p', hz⟩ := I1.tuple (by rw [C.eK]; exact hq)
        refine dl_enum_begins (begins_tuple l its.toArray) (show s1.heap.IsTuple l its.toArray from p') fun h' he hit hsz hk => wpAny_pyIter_enum he ?_
        have I2 : Inv X pins σ H1 { s1 with heap := h' } := I1.kept (t' := s1.toks) hk
        refine ⟨s1.heap.objs.size + 1, [s1.heap.objs.size + 1, s1.heap.objs.size], _, _, H1, rfl, I2, turn_enumT l (s1.heap.objs.size + 1) s1.heap.objs.size, ⟨⟨.none, he⟩, ⟨_, hit, rfl, rfl⟩, Nat.succ_ne_self _⟩, fun b hb => ?_, ok _ _ _ _ q1 m1 s1' (it_enuT C hq rp)⟩
        have e' : b = s1.heap.objs.size + 1 ∨ b = s1.heap.objs.size := by simpa using hb
        have hle : s1.heap.objs.size ≤ b := by
          rcases e' with z | z
          · rw [z]; exact Nat.le_add_right _ _
          · rw [z]; exact Nat.le_refl _
        exact I1.fpOk hle (I1.hok.fresh hle)
      · rename_i l
        rw [RepD.obj] at rd; subst rd
        split at q1
        · rename_i xs e0
          cases r
          obtain ⟨ws, hq, rp⟩ := rdL_ok m1 e0
          obtain ⟨its, rvv, p', hz⟩ := I1.list (by rw [C.eK]; exact hq)
          refine call_enumerate_list p'.isList fun h' he hit hsz hk => wpAny_pyIter_enum he ?_
          have I2 : Inv X pins σ H1 { s1 with heap := h' } := I1.kept (t' := s1.toks) hk
          refine ⟨s1.heap.objs.size + 1, [s1.heap.objs.size + 1, s1.heap.objs.size], _, _, H1, rfl, I2, turn_enum l (s1.heap.objs.size + 1) s1.heap.objs.size, ⟨⟨.none, he⟩, hit, Nat.succ_ne_self _⟩, fun b hb => ?_, ok _ _ _ _ q1 m1 s1' (it_enuL C)⟩
          have e' : b = s1.heap.objs.size + 1 ∨ b = s1.heap.objs.size := by simpa using hb
          have hle : s1.heap.objs.size ≤ b := by
            rcases e' with z | z
            · rw [z]; exact Nat.le_add_right _ _
            · rw [z]; exact Nat.le_refl _
          exact I1.fpOk hle (I1.hok.fresh hle)
        · exact q1.elim
      · exact q1.elim
end
end DL
set_option Elab.async false
set_option linter.all false
set_option maxRecDepth 100000
/-! DL9: statements. -/
namespace DL
open PySem PySem.Spec PyProof.Rows L2

section
variable {X : Cx} {G : Cfg} {N : List Str} {sc : Scope} {B : Bs} {W : WD} {pos p2 : Pos} {a b c tg e : Expr} {ta tb tc : TD} {x : Str} {p apos : Pos} {es : List Expr} {n : Nat} {t : TDA} {u v : TDS} {st : Stmt} {rest : List Stmt}

theorem lss_nil : PSs X [] (liftS G B fun D ρ M => D.nx ρ M) := pss_nil.weak fun D σ H ⟨ρ, M, D0, st, rs, rm, q, ok⟩ => ok.nx ρ M σ H q rs rm Step.rfl'
theorem lss_cons (h1 : PS X st (liftS G B u)) (h2 : PSs X rest (liftS G B v)) : PSs X (st :: rest) (liftS G B fun D ρ M => ∃ Mid : En → Mem → Prop, u { D with nx := Mid } ρ M ∧ ∀ ρ' M', Mid ρ' M' → ∃ M'', Sub M'' M' ∧ v D ρ' M'') := by
  refine (pss_cons h1 h2).weak fun D σ H ⟨ρ, M, D0, st, rs, rm, ⟨Mid, q, k⟩, ok⟩ => ?_
  refine ⟨ρ, M, _, st, rs, rm, q, ⟨fun ρ1 M1 σ1 H1 q1 rs1 m1 s1 => ?_, ok.rt, ok.bk, ok.ct⟩⟩
  obtain ⟨M2, sb, q2⟩ := k ρ1 M1 q1
  exact ⟨ρ1, M2, D0, (st.trans s1).sub sb, rs1, m1.sub sb, q2, ok.on (s1.sub sb)⟩
theorem ls_pas : PS X (.Pass pos) (liftS G B fun D ρ M => D.nx ρ M) := ps_pass.weak fun D σ H ⟨ρ, M, D0, st, rs, rm, q, ok⟩ => ok.nx ρ M σ H q rs rm Step.rfl'
theorem ls_brk : PS X (.Break pos) (liftS G B fun D ρ M => D.bk ρ M) := ps_break.weak fun D σ H ⟨ρ, M, D0, st, rs, rm, q, ok⟩ => ok.bk ρ M σ H q rs rm Step.rfl'
theorem ls_cnt : PS X (.Continue pos) (liftS G B fun D ρ M => D.ct ρ M) := ps_continue.weak fun D σ H ⟨ρ, M, D0, st, rs, rm, q, ok⟩ => ok.ct ρ M σ H q rs rm Step.rfl'
theorem ls_ret (ha : PE X a (lift G B ta)) : PS X (.Return (some a) pos) (liftS G B fun D ρ M => ta ρ M D.rt) := (ps_ret ha).weak fun D σ H ⟨ρ, M, D0, st, rs, rm, q, ok⟩ => ⟨ρ, M, _, st, rs, rm, q, ok.rt⟩
theorem ls_retN : PS X (.Return none pos) (liftS G B fun D _ M => D.rt .non M) := ps_retN.weak fun D σ H ⟨ρ, M, D0, st, rs, rm, q, ok⟩ => ok.rt _ M H _ q (RepD.non.mpr rfl) rm Step.rfl'
theorem ls_ex (ha : PE X a (lift G B ta)) (hs : swapsWith a none pos.line X.env = pure false) : PS X (.Expr a pos) (liftS G B fun D ρ M => ta ρ M fun _ M1 => D.nx ρ M1) :=
  (ps_expr ha hs).weak fun D σ H ⟨ρ, M, D0, st, rs, rm, q, ok⟩ => ⟨ρ, M, _, st, rs, rm, q, fun d M1 H1 x q1 r1 m1 s1 => ok.nx ρ M1 σ H1 q1 (rs.keep s1.kp) m1 s1⟩
theorem ls_if {p q : List Stmt} {tt : TDT} (hc : PT X c (liftT G B tt)) (ha : PSs X p (liftS G B u)) (hb : PSs X q (liftS G B v)) : PS X (.If c p q pos) (liftS G B fun D ρ M => tt ρ M fun k M1 => if k = true then u D ρ M1 else v D ρ M1) := by
  refine (ps_if hc ha hb).weak fun D σ H ⟨ρ, M, D0, st, rs, rm, q, ok⟩ => ?_
  refine ⟨ρ, M, _, st, rs, rm, q, fun k M1 H1 q1 m1 s1 => ?_⟩
  cases k with
  | true => exact ⟨ρ, M1, D0, st.trans s1, rs.keep s1.kp, m1, q1, ok.on s1⟩
  | false => exact ⟨ρ, M1, D0, st.trans s1, rs.keep s1.kp, m1, q1, ok.on s1⟩
theorem ls_whl {body : List Stmt} {tt : TDT} (hp : PassesOwn (model X.prog X.w) X.A X.env X.xe) (hc : PT X c (liftT G B tt)) (hb : PSs X body (liftS G B u)) : PS X (.While c body [] pos) (liftS G B fun D ρ M => ∃ I : Nat → En → Mem → Prop, (∃ m, I m ρ M) ∧ ∀ m ρ M, I m ρ M → tt ρ M fun k M1 =>
    if k = true then u { D with nx := fun ρ' M' => ∃ m' M'', m' < m ∧ Sub M'' M' ∧ I m' ρ' M'', ct := fun ρ' M' => ∃ m' M'', m' < m ∧ Sub M'' M' ∧ I m' ρ' M'', bk := D.nx } ρ M1 else D.nx ρ M1) := by
  refine (ps_while hp hc hb).weak fun D σ H ⟨ρ, M, D0, st, rs, rm, ⟨I, ⟨m0, i0⟩, tn⟩, ok⟩ => ?_
  refine ⟨fun m σ' H' => ∃ ρ' M', Step H M H' M' ∧ RepS G.K H' ρ' σ' ∧ RepM G H' M' ∧ I m ρ' M', ⟨m0, ρ, M, Step.rfl', rs, rm, i0⟩, ?_⟩
  rintro m σ1 H1 ⟨ρ1, M1, s1, rs1, m1, i1⟩
  refine ⟨ρ1, M1, _, st.trans s1, rs1, m1, tn m ρ1 M1 i1, fun k M2 H2 q2 m2 s2 => ?_⟩
  cases k with
  | true =>
    rw [if_pos rfl] at q2 ⊢
    have go : ∀ {ρ' : En} {M' : Mem} {σ' : L2.St} {H' : Hp}, (∃ m' M'', m' < m ∧ Sub M'' M' ∧ I m' ρ' M'') → RepS G.K H' ρ' σ' → RepM G H' M' → Step H2 M2 H' M' → ∃ m', m' < m ∧ ∃ ρ' M', Step H M H' M' ∧ RepS G.K H' ρ' σ' ∧ RepM G H' M' ∧ I m' ρ' M' := fun {ρ' M' σ' H'} ⟨m', M'', lt, sb, i'⟩ rs' rm' s' =>
      ⟨m', lt, ρ', M'', ((s1.trans s2).trans s').sub sb, rs', rm'.sub sb, i'⟩
    refine ⟨fun σ' H' => ∃ m', m' < m ∧ ∃ ρ' M', Step H M H' M' ∧ RepS G.K H' ρ' σ' ∧ RepM G H' M' ∧ I m' ρ' M', fun σ' H' z => z, ?_⟩
    refine ⟨ρ1, M2, _, (st.trans s1).trans s2, rs1.keep s2.kp, m2, q2, ⟨fun ρ' M' σ' H' q' rs' rm' s' => go q' rs' rm' s', (ok.on (s1.trans s2)).rt, (ok.on (s1.trans s2)).nx, fun ρ' M' σ' H' q' rs' rm' s' => go q' rs' rm' s'⟩⟩
  | false =>
    exact ok.nx ρ1 M2 σ1 H2 q2 (rs1.keep s2.kp) m2 (s1.trans s2)
theorem ls_for {iter : Expr} {body : List Stmt} {ti : TDI} {g : Tg} {sl : List Nat} (C : CtxOk X G N sc) (hp : PassesOwn (model X.prog X.w) X.A X.env X.xe) (hi : PI X tg iter (liftI G B ti)) (hg : PG X tg (liftG G sl (wpTg g))) (hb : PSs X body (liftS G B u)) (hpl : plainE iter = true) :
    PS X (.For tg iter body [] pos) (liftS G B fun D ρ M => ti ρ M fun J M1 => ∃ I : Nat → En → Mem → Prop, I 0 ρ M1 ∧ ∀ i ρ M, I i ρ M → J.ok M ∧ match J.xs[i]? with
    | none => D.nx ρ M
    | some d => wpTg g d ρ fun ρ' => u { D with nx := fun ρ'' M' => ∃ M'', Sub M'' M' ∧ I (i + 1) ρ'' M'', ct := fun ρ'' M' => ∃ M'', Sub M'' M' ∧ I (i + 1) ρ'' M'', bk := D.nx } ρ' M) := by
  refine (ps_for hp C.calm hi hg hb (folded_plain hpl _)).weak fun D σ H ⟨ρ, M, D0, st, rs, rm, q, ok⟩ => ?_
  refine ⟨ρ, M, _, st, rs, rm, q, fun J M1 H1 J' q1 m1 s1 hJ => ?_⟩
  obtain ⟨I, i0, tn⟩ := q1
  refine ⟨fun i m σ' H' => m = J.xs.length - i ∧ i ≤ J.xs.length ∧ ∃ ρ' M', Step H1 M1 H' M' ∧ RepS G.K H' ρ' σ' ∧ RepM G H' M' ∧ I i ρ' M', ⟨_, rfl, Nat.zero_le _, ρ, M1, Step.rfl', rs.keep s1.kp, m1, i0⟩, ?_⟩
  rintro i m σ2 H2 ⟨rfl, hi, ρ2, M2, s2, rs2, m2, i2⟩
  obtain ⟨jo, h2⟩ := tn i ρ2 M2 i2
  by_cases hlt : i < J.xs.length
  · rw [List.getElem?_eq_getElem hlt] at h2
    dsimp only at h2
    refine .inr ⟨hJ.go i H2 M2 s2.kp hlt m2 jo, fun σ' H' => ∃ ρ' M', Step H1 M1 H' M' ∧ RepS G.K H' ρ' σ' ∧ RepM G H' M' ∧ I (i + 1) ρ' M', fun σ' H' z => ⟨_, by omega, rfl, hlt, z⟩, fun y H' yl => ?_⟩
    obtain ⟨d, ed, rd, m', s'⟩ := hJ.yld i H2 y H' M2 s2.kp hlt m2 jo yl
    rw [List.getElem?_eq_getElem hlt] at ed
    cases ed
    refine ⟨_, ρ2, _, rd, rs2.keep s'.kp, h2, fun ρ3 σ3 q3 rs3 off => ?_⟩
    have go : ∀ {ρ' : En} {M' : Mem} {σ' : L2.St} {H4 : Hp}, (∃ M'', Sub M'' M' ∧ I (i + 1) ρ' M'') → RepS G.K H4 ρ' σ' → RepM G H4 M' → Step H' M2 H4 M' → ∃ ρ' M', Step H1 M1 H4 M' ∧ RepS G.K H4 ρ' σ' ∧ RepM G H4 M' ∧ I (i + 1) ρ' M' := fun {ρ' M' σ' H4} ⟨M'', sb, i'⟩ rs' rm' s4 =>
      ⟨ρ', M'', ((s2.trans s').trans s4).sub sb, rs', rm'.sub sb, i'⟩
    have okk := ok.on ((s1.trans s2).trans s')
    exact ⟨ρ3, M2, _, ((st.trans s1).trans s2).trans s', rs3, m', q3, ⟨fun ρ' M' σ' H' q' rs' rm' s' => go q' rs' rm' s', okk.rt, okk.nx, fun ρ' M' σ' H' q' rs' rm' s' => go q' rs' rm' s'⟩⟩
  · have e : i = J.xs.length := by omega
    subst e
    rw [List.getElem?_eq_none (Nat.le_refl _)] at h2
    exact .inl ⟨hJ.stop H2 M2 s2.kp m2 jo, ok.nx ρ2 M2 σ2 H2 h2 rs2 m2 (s1.trans s2)⟩

/-! ### stores -/
theorem ls_asg {g : Tg} {sl : List Nat} (he : PE X e (lift G B ta)) (hg : PG X tg (liftG G sl (wpTg g))) (hs : swapsWithSole [tg] e pos.line X.env = pure false) (hw : swappedStores [tg] e X.env = pure none) (hp : plainT tg = true) :
    PS X (.Assign [tg] e pos) (liftS G B fun D ρ M => ta ρ M fun d M1 => wpTg g d ρ fun ρ' => D.nx ρ' M1) := by
  refine (ps_asg he hg hs hw (by rw [asg_plain hp]; rfl)).weak fun D σ H ⟨ρ, M, D0, st, rs, rm, q, ok⟩ => ?_
  refine ⟨ρ, M, _, st, rs, rm, q, fun d M1 H1 y q1 r1 m1 s1 => ?_⟩
  exact ⟨d, ρ, _, r1, rs.keep s1.kp, q1, fun ρ' σ' q2 rs2 off => ok.nx ρ' M1 σ' H1 q2 rs2 m1 s1⟩
theorem ls_par2 {i j : Nat} {y : Str} {px py pt pp : Pos} {kt k2 : Nat} (C : CtxOk X G N sc) (hi : N[i]? = some x) (hj : N[j]? = some y) (hij : i ≠ j) (hx : sc.names.lookup x = some .local) (hy : sc.names.lookup y = some .local)
    (ha : PE X a (lift G B ta)) (hb : PE X b (lift G B tb)) (pa : plainE a = true) (pb : plainE b = true)
    (hw : swappedStores [.Tuple [.Name x px, .Name y py] kt pt] (.Tuple [a, b] k2 pp) X.env = pure (some [x, y])) :
    PS X (.Assign [.Tuple [.Name x px, .Name y py] kt pt] (.Tuple [a, b] k2 pp) pos) (liftS G B fun D ρ M => ta ρ M fun d M1 => tb ρ M1 fun f M2 => D.nx ((ρ.set i (some d)).set j (some f)) M2) := by
  have A := la_cons (n := 1) ha (la_cons (n := 0) hb la_nil pb) pa
  refine (ps_par (i := i) (j := j) C.calm (by rw [C.eN]; exact C.nd) (by rw [C.eN]; exact hi) (by rw [C.eN]; exact hj) hij (by rw [C.eS]; exact hx) (by rw [C.eS]; exact hy) A hw rfl).weak fun D σ H ⟨ρ, M, D0, st, rs, rm, q, ok⟩ => ?_
  refine ⟨ρ, M, fun ds M' => ∃ d f, ds = [d, f] ∧ D0.nx ((ρ.set i (some d)).set j (some f)) M', st, rs, rm, ?_, fun ds M1 H1 vs l q1 r1 m1 s1 => ?_⟩
  · exact (show ta ρ M _ from by
      have : (fun d M1 => tb ρ M1 fun f M2 => D0.nx ((ρ.set i (some d)).set j (some f)) M2) = (fun d M1 => tb ρ M1 fun f M2 => ∃ d' f', [d, f] = [d', f'] ∧ D0.nx ((ρ.set i (some d')).set j (some f')) M2) := by
        funext d M1
        congr 1
        funext f M2
        exact propext ⟨fun h => ⟨d, f, rfl, h⟩, fun ⟨d', f', e, h⟩ => by cases e; exact h⟩
      rw [← this]; exact q)
  · obtain ⟨d, f, rfl, q1⟩ := q1
    obtain ⟨v, w, rfl, r2, r3⟩ := rep2 r1
    exact ⟨v, w, rfl, ok.nx _ M1 _ H1 q1 (((rs.keep s1.kp).set i r2).set j r3) m1 s1⟩
theorem ls_par3 {i j l : Nat} {y z : Str} {px py pz pt pp : Pos} {kt k2 : Nat} (C : CtxOk X G N sc) (hi : N[i]? = some x) (hj : N[j]? = some y) (hl : N[l]? = some z) (hij : i ≠ j) (hil : i ≠ l) (hjl : j ≠ l) (hx : sc.names.lookup x = some .local) (hy : sc.names.lookup y = some .local) (hz : sc.names.lookup z = some .local)
    (ha : PE X a (lift G B ta)) (hb : PE X b (lift G B tb)) (hc : PE X c (lift G B tc)) (pa : plainE a = true) (pb : plainE b = true) (pc : plainE c = true)
    (hw : swappedStores [.Tuple [.Name x px, .Name y py, .Name z pz] kt pt] (.Tuple [a, b, c] k2 pp) X.env = pure (some [x, y, z])) :
    PS X (.Assign [.Tuple [.Name x px, .Name y py, .Name z pz] kt pt] (.Tuple [a, b, c] k2 pp) pos) (liftS G B fun D ρ M => ta ρ M fun d M1 => tb ρ M1 fun f M2 => tc ρ M2 fun g M3 => D.nx (((ρ.set i (some d)).set j (some f)).set l (some g)) M3) := by
  have A := la_cons (n := 2) ha (la_cons (n := 1) hb (la_cons (n := 0) hc la_nil pc) pb) pa
  refine (ps_par3 (i := i) (j := j) (l := l) C.calm (by rw [C.eN]; exact C.nd) (by rw [C.eN]; exact hi) (by rw [C.eN]; exact hj) (by rw [C.eN]; exact hl) hij hil hjl (by rw [C.eS]; exact hx) (by rw [C.eS]; exact hy) (by rw [C.eS]; exact hz) A hw rfl).weak fun D σ H ⟨ρ, M, D0, st, rs, rm, q, ok⟩ => ?_
  refine ⟨ρ, M, fun ds M' => ∃ d f g, ds = [d, f, g] ∧ D0.nx (((ρ.set i (some d)).set j (some f)).set l (some g)) M', st, rs, rm, ?_, fun ds M1 H1 vs l q1 r1 m1 s1 => ?_⟩
  · exact (show ta ρ M _ from by
      have : (fun d M1 => tb ρ M1 fun f M2 => tc ρ M2 fun g M3 => D0.nx (((ρ.set i (some d)).set j (some f)).set l (some g)) M3) = (fun d M1 => tb ρ M1 fun f M2 => tc ρ M2 fun g M3 => ∃ d' f' g', [d, f, g] = [d', f', g'] ∧ D0.nx (((ρ.set i (some d')).set j (some f')).set l (some g')) M3) := by
        funext d M1
        congr 1
        funext f M2
        congr 1
        funext g M3
        exact propext ⟨fun h => ⟨d, f, g, rfl, h⟩, fun ⟨d', f', g', e, h⟩ => by cases e; exact h⟩
      rw [← this]; exact q)
  · obtain ⟨d, f, g, rfl, q1⟩ := q1
    obtain ⟨v, w1, rfl, r2, r3⟩ := RepL.cons.mp r1
    obtain ⟨w, w2, rfl, r4⟩ := rep2 r3
    exact ⟨v, w, w2, rfl, ok.nx _ M1 _ H1 q1 ((((rs.keep s1.kp).set i r2).set j r4.1).set _ r4.2) m1 s1⟩
theorem ls_setI {o ix : Expr} {to ti : TD} (C : CtxK X G N sc) (he : PE X e (lift G B ta)) (ho : PE X o (lift G B to)) (hi : PE X ix (lift G B ti)) (pi : plainE ix = true) :
    PS X (.Assign [.Subscript o ix p2] e pos) (liftS G B fun D ρ M => ta ρ M fun v M1 => to ρ M1 fun d M2 => ti ρ M2 fun j M3 => vSetG d j v M3 fun M4 => D.nx ρ M4) := by
  have hg : PG X (.Subscript o ix p2) (gSub (lift G B to) (lift G B ti) (liftSet G vSetG)) := pg_sub ho hi (set_get C) (by intro v; cases ix <;> first | rfl | cases pi)
  refine (ps_asg he hg (by cases e <;> rfl) (by rfl)).weak fun D σ H ⟨ρ, M, D0, st, rs, rm, q, ok⟩ => ?_
  refine ⟨ρ, M, _, st, rs, rm, q, fun v M1 H1 y q1 r1 m1 s1 => ?_⟩
  refine ⟨ρ, M1, _, st.trans s1, rs.keep s1.kp, m1, q1, fun d M2 H2 z q2 r2 m2 s2 => ?_⟩
  refine ⟨ρ, M2, _, (st.trans s1).trans s2, rs.keep (s1.trans s2).kp, m2, q2, fun j M3 H3 w q3 r3 m3 s3 => ?_⟩
  exact ⟨d, j, v, M3, _, RepD.keep s3.kp _ _ r2, r3, RepD.keep (s2.trans s3).kp _ _ r1, m3, q3, fun M4 H4 q4 m4 s4 => ok.nx ρ M4 σ H4 q4 (rs.keep (((s1.trans s2).trans s3).trans s4).kp) m4 (((s1.trans s2).trans s3).trans s4)⟩

theorem putF_set {nm : Str} {v : V} : ∀ {fv : List (Str × V)} {ns : List Str} {k f : Nat}, fv.map (·.1) = ns.take k → ns.Nodup → ns[f]? = some nm → f < fv.length → (putF nm v fv).map (·.1) = fv.map (·.1) ∧ (putF nm v fv).map (·.2) = (fv.map (·.2)).set f v
  | [], _, _, _, _, _, _, h => by simp at h
  | (g, y) :: r, [], k, f, h, _, hf, _ => by simp at hf
  | (g, y) :: r, n0 :: ns, 0, f, h, _, _, _ => by simp at h
  | (g, y) :: r, n0 :: ns, k + 1, 0, h, nd, hf, _ => by
    simp at h hf
    unfold putF
    rw [h.1, hf, if_pos rfl]
    simp
  | (g, y) :: r, n0 :: ns, k + 1, f + 1, h, nd, hf, hl => by
    simp at h hf hl
    rw [List.nodup_cons] at nd
    have ne : g ≠ nm := fun z => nd.1 (by rw [← h.1, z]; exact List.mem_of_getElem? hf)
    obtain ⟨i1, i2⟩ := putF_set (v := v) h.2 nd.2 hf hl
    unfold putF
    rw [if_neg ne]
    simp [i1, i2]
theorem putF_app {nm : Str} {v : V} : ∀ {fv : List (Str × V)}, nm ∉ fv.map (·.1) → putF nm v fv = fv ++ [(nm, v)]
  | [], _ => rfl
  | (g, y) :: r, h => by
    simp at h
    unfold putF
    rw [if_neg (Ne.symm h.1), putF_app (by simpa using h.2)]
    rfl
theorem put_rep {H : Hp} {ns : List Str} {nm : Str} {fs gs : List D} {fv : List (Str × V)} {d : D} {v : V} {f : Nat} (nd : ns.Nodup) (hf : ns[f]? = some nm) (h : fv.map (·.1) = ns.take fs.length) (r : RepL G.K H fs (fv.map (·.2))) (rd : RepD G.K H d v) (e : putFd fs f d = some gs) :
    (putF nm v fv).map (·.1) = ns.take gs.length ∧ RepL G.K H gs ((putF nm v fv).map (·.2)) := by
  have hl : fs.length = fv.length := by rw [r.length, List.length_map]
  unfold putFd at e
  split at e
  · rename_i lt
    cases e
    obtain ⟨i1, i2⟩ := putF_set (v := v) h nd hf (by omega)
    rw [i1, i2, List.length_set]
    exact ⟨h, r.set f rd⟩
  · split at e
    · rename_i eq
      cases e
      have nin : nm ∉ fv.map (·.1) := by
        rw [h]
        intro z
        obtain ⟨q, hq, eq2⟩ := List.getElem_of_mem z
        rw [List.length_take] at hq
        have e1 : ns[q]? = some nm := by
          rw [← eq2, List.getElem?_eq_getElem (by omega), List.getElem_take]
        have hq2 : q < ns.length := by omega
        have hf2 : f < ns.length := (List.getElem?_eq_some_iff.mp hf).1
        have := (List.getElem?_inj hq2 nd).mp (e1.trans hf.symm)
        omega
      rw [putF_app nin, List.map_append, List.map_append, List.length_append]
      refine ⟨?_, r.app (RepL.one rd)⟩
      subst eq
      have hf2 : fs.length < ns.length := (List.getElem?_eq_some_iff.mp hf).1
      rw [List.length_singleton, List.take_succ, hf, h]
      simp
    · cases e
theorem ls_setF {o : Expr} {nm : Str} {to : TD} {ci : Str × List Str} {k f : Nat} (C : CtxK X G N sc) (hci : G.ct[k]? = some ci) (hf : ci.2[f]? = some nm) (he : PE X e (lift G B ta)) (ho : PE X o (lift G B to)) :
    PS X (.Assign [.Attribute o nm p2] e pos) (liftS G B fun D ρ M => ta ρ M fun v M1 => to ρ M1 fun d M2 => match d with
    | .obj p => match M2 p with
      | some (.ins c' fs) => c' = k ∧ match putFd fs f v with
        | some gs => D.nx ρ (mup M2 p (.ins k gs))
        | none => False
      | _ => False
    | _ => False) := by
  have hk := C.nc ci (List.mem_of_getElem? hci)
  refine (ps_fld ho he (by cases e <;> rfl)).weak fun D σ H ⟨ρ, M, D0, st, rs, rm, q, ok⟩ => ?_
  refine ⟨ρ, M, _, st, rs, rm, q, fun v M1 H1 y q1 r1 m1 s1 => ?_⟩
  refine ⟨ρ, M1, _, st.trans s1, rs.keep s1.kp, m1, q1, fun d M2 H2 z q2 r2 m2 s2 => ?_⟩
  (try dsimp only at q2)
  split at q2
  · rename_i ad
    rw [RepD.obj] at r2; subst r2
    split at q2
    · rename_i c' fs em
      obtain ⟨rfl, q2⟩ := q2
      split at q2
      · rename_i gs eg
        obtain ⟨hb, h1, ci', C', dx, fv, h2, h3, rfl, h4, h5⟩ := m2 ad _ em
        rw [hci] at h2; cases h2
        obtain ⟨C2, g1, g2, g3⟩ := hk.cls
        rw [h3] at g1; cases g1
        have hl : fs.length = fv.length := by rw [h5.length, List.length_map]
        have hfl : fv.length ≤ ci.2.length := by
          have := congrArg List.length h4
          rw [List.length_map, List.length_take] at this; omega
        have sp : Step H2 M2 (upd H2 ad (.ins C' dx (putF nm y fv))) (mup M2 ad (.ins c' gs)) := Step.put h1 trivial em
        obtain ⟨p1, p3⟩ := put_rep hk.nd hf h4 h5 (RepD.keep s2.kp _ _ r1) eg
        refine ⟨ad, C', dx, fv, rfl, h1, by rw [C.eK]; exact g2, by rw [C.eK]; exact g3 nm (List.mem_of_getElem? hf), by have := hk.few; omega, ?_⟩
        exact ok.nx ρ _ σ _ q2 (rs.keep ((s1.trans s2).trans sp).kp) (m2.put h1 trivial ⟨ci, C', dx, _, hci, h3, rfl, p1, p3⟩) ((s1.trans s2).trans sp)
      · exact q2.elim
    · exact q2.elim
  · exact q2.elim
end
end DL
set_option Elab.async false
set_option linter.all false
set_option maxRecDepth 100000
set_option maxHeartbeats 1000000
/-! DL10: augmented stores, raise, try. -/
namespace DL
open PySem PySem.Spec PyProof.Rows L2

section
variable {X : Cx} {G : Cfg} {N : List Str} {sc : Scope} {B : Bs} {W : WD} {pos p2 : Pos} {a b c tg e : Expr} {ta tb tc : TD} {x : Str} {p apos : Pos} {es : List Expr} {n : Nat} {t : TDA} {u v : TDS} {st : Stmt} {rest : List Stmt}

theorem pip_ok (op : Operator) : PIp X op (lift2 G (augS op)) := by
  intro pins s σ H x y v u Q I r1 r2 h
  obtain ⟨d, e, M, Q0, rd, re, rm, q, ok⟩ := h
  cases op
  case Add =>
    dsimp only [augS] at q
    split at q
    · rename_i i j
      rw [RepD.int] at rd re; subst rd re
      obtain ⟨t, rfl⟩ := r1
      obtain ⟨t', rfl⟩ := r2
      exact PyProof.Rows.iadd_int ⟨.int _, H, I.tok _, ⟨_, rfl⟩, ok _ _ _ _ q (RepD.int.mpr rfl) rm Step.rfl'⟩
    · exact q.elim
  case Sub =>
    dsimp only [augS] at q
    split at q
    · rename_i i j
      rw [RepD.int] at rd re; subst rd re
      obtain ⟨t, rfl⟩ := r1
      obtain ⟨t', rfl⟩ := r2
      exact PyProof.Rows.isub_int ⟨.int _, H, I.tok _, ⟨_, rfl⟩, ok _ _ _ _ q (RepD.int.mpr rfl) rm Step.rfl'⟩
    · exact q.elim
  all_goals exact q.elim
theorem ls_aug {op : Operator} {i : Nat} (C : CtxK X G N sc) (hN : N[i]? = some x) (hl : L2.Loc sc x) (hfn : X.fn x = true ∨ sc.names.lookup x = some .local) (he : PE X e (lift G B ta)) :
    PS X (.AugAssign (.Name x p2) op e pos) (liftS G B fun D ρ M => match ρ[i]? with
    | some (some d) => ta ρ M fun v M1 => augS op d v M1 fun z M2 => D.nx (ρ.set i (some z)) M2
    | _ => False) := by
  refine (ps_aug (i := i) (by rw [C.eN]; exact C.nd) (by rw [C.eN]; exact hN) (by rw [C.eS]; exact hl) he (pip_ok (G := G) op) (by rw [C.eS]; exact hfn)).weak fun D σ H ⟨ρ, M, D0, st, rs, rm, q, ok⟩ => ?_
  (try dsimp only at q)
  split at q
  · rename_i d ed
    obtain ⟨w, ew, rw'⟩ := rs.2 i d ed
    refine ⟨w, ew, ρ, M, _, st, rs, rm, q, fun f M1 H1 y q1 r1 m1 s1 => ?_⟩
    refine ⟨d, f, M1, _, RepD.keep s1.kp _ _ rw', r1, m1, q1, fun z M2 H2 y2 q2 r2 m2 s2 => ?_⟩
    exact ok.nx _ M2 _ H2 q2 ((rs.keep (s1.trans s2).kp).set i r2) m2 (s1.trans s2)
  · exact q.elim
theorem ls_augF {op : Operator} {o : Expr} {nm : Str} {to : TD} {ci : Str × List Str} {k f : Nat} (C : CtxK X G N sc) (hci : G.ct[k]? = some ci) (hf : ci.2[f]? = some nm) (he : PE X e (lift G B ta)) (ho : PE X o (lift G B to)) :
    PS X (.AugAssign (.Attribute o nm p2) op e pos) (liftS G B fun D ρ M => to ρ M fun d M1 => match d with
    | .obj p => match M1 p with
      | some (.ins c' fs) => c' = k ∧ match fs[f]? with
        | some x => ta ρ M1 fun v M2 => augS op x v M2 fun z M3 => match M3 p with
          | some (.ins c2 gs) => c2 = k ∧ f < gs.length ∧ D.nx ρ (mup M3 p (.ins k (gs.set f z)))
          | _ => False
        | none => False
      | _ => False
    | _ => False) := by
  have hk := C.nc ci (List.mem_of_getElem? hci)
  refine (ps_fldaug (op := op) ho he (pip_ok (G := G) op)).weak fun D σ H ⟨ρ, M, D0, st, rs, rm, q, ok⟩ => ?_
  refine ⟨ρ, M, _, st, rs, rm, q, fun d M1 H1 z q1 r1 m1 s1 => ?_⟩
  (try dsimp only at q1)
  split at q1
  · rename_i ad
    rw [RepD.obj] at r1; subst r1
    split at q1
    · rename_i c' fs em
      obtain ⟨rfl, q1⟩ := q1
      split at q1
      · rename_i w ew
        obtain ⟨hb, h1, ci', C', dx, fv, h2, h3, rfl, h4, h5⟩ := m1 ad _ em
        rw [hci] at h2; cases h2
        obtain ⟨C2, g1, g2, g3⟩ := hk.cls
        rw [h3] at g1; cases g1
        obtain ⟨v0, ev, rv⟩ := rep_fld hk.nd hf h4 h5 ew
        refine ⟨ad, C', dx, fv, v0, rfl, h1, by rw [C.eK]; exact g2, by rw [C.eK]; exact g3 nm (List.mem_of_getElem? hf), ev, ?_⟩
        refine ⟨ρ, M1, _, st.trans s1, rs.keep s1.kp, m1, q1, fun y M2 H2 yv q2 r2 m2 s2 => ?_⟩
        refine ⟨w, y, M2, _, RepD.keep s2.kp _ _ rv, r2, m2, q2, fun z M3 H3 zv q3 r3 m3 s3 => ?_⟩
        (try dsimp only at q3)
        split at q3
        · rename_i c2 gs em3
          obtain ⟨rfl, lt, q3⟩ := q3
          obtain ⟨hb3, k1, ci3, C3, dx3, fv3, k2, k3, rfl, k4, k5⟩ := m3 ad _ em3
          rw [hci] at k2; cases k2
          rw [h3] at k3; cases k3
          have hl : gs.length = fv3.length := by rw [k5.length, List.length_map]
          have hfl : fv3.length ≤ ci.2.length := by
            have := congrArg List.length k4
            rw [List.length_map, List.length_take] at this; omega
          have sp : Step H3 M3 (upd H3 ad (.ins C' dx3 (putF nm zv fv3))) (mup M3 ad (.ins c2 (gs.set f z))) := Step.put k1 trivial em3
          obtain ⟨p1, p3⟩ := put_rep hk.nd hf k4 k5 r3 (show putFd gs f z = some (gs.set f z) from if_pos lt)
          refine ⟨dx3, fv3, k1, by have := hk.few; omega, ?_⟩
          exact ok.nx ρ _ σ _ q3 (rs.keep (((s1.trans s2).trans s3).trans sp).kp) (m3.put k1 trivial ⟨ci, C', dx3, _, hci, h3, rfl, p1, p3⟩) (((s1.trans s2).trans s3).trans sp)
        · exact q3.elim
      · exact q1.elim
    · exact q1.elim
  · exact q1.elim

/-! ### exception classes, raise -/
/-- an exception class of the program -/
structure ExOk (P : Program) (w : World) (base : Heap) (G : Cfg) (ei : Str × Option Str) (C : Addr) : Prop where
  mg : G.mg ei.1 = some (.ref C)
  kC : PySem.W.keepIn G.K (.ref C) = true
  sb : PySem.W.subIn G.K (.ref C) (.type "BaseException") = some true
  ty : PySem.W.typeIn G.K (.ref C) = some (.type "type")
  no : ei.2 = none → PySem.W.excIn G.K C He.veBase "ValueError.__new__" = true
  wi : ∀ f, ei.2 = some f → ∀ (X : Cx) (N : List Str) (sc : Scope) (e : Expr) (te : TE) (p pos : Pos), X.prog = P → X.w = w → X.base = base → CtxK X G N sc → Room 3 X.A → Gl X ei.1 → PE X e te → plainE e = true →
    PMk X (.Call (.Name ei.1 p) [e] [] pos) (fun σ H Q => te σ H fun v H1 => ∀ d, H1 d = none → Q (.ref C) (some d) (upd H1 d (.xd [(f, v)])))
theorem pmk_own0 {C : Addr} {bmB : List Value} {B newId initId : String} (F : ExcBaseFacts B newId initId bmB) (q : PySem.W.excIn X.K C bmB newId = true) (gC : X.mg x = some (.ref C))
    (kC : PySem.W.keepIn X.K (.ref C) = true) (r : Raises X (.ref C)) (hg : Gl X x) (hdb : (x == ("__debug__" : Str)) = false) :
    PMk X (.Call (.Name x p) [] [] pos) (fun σ H Q => Q (.ref C) none H) := by
  intro pins s σ H Q I h
  refine wpAny_Call_Name_kw (ld_glob I hg gC ?_ hdb)
  refine PySem.W.callWith_K0 I.kIn kC ?_
  obtain ⟨bm, N, nm, qn, bs, hdct, sn, sub, ab, col, dd, k0, k1, k2, k3, k5, mN, hC, hN, hni, T⟩ := exc_obj I.kIn q
  refine wpAny_call_exc_subT F T hC hN hni (fun h' e hm => ?_) (Nat.zero_le _)
  exact mk_of I hm r h (I.hok.gone hm.new)
theorem ls_rse0 {P : Program} {w : World} {base : Heap} {ei : Str × Option Str} {C0 : Addr} {k : Nat} (C : CtxOk X G N sc) (F : ExOk P w base G ei C0) (hk : G.et[k]? = some ei) (h0 : ei.2 = none) (tk : Takes X (liftW G B W)) (hg : Gl X ei.1) (hdb : (ei.1 == ("__debug__" : Str)) = false) :
    PS X (.Raise (some (.Call (.Name ei.1 p) [] [] p2)) none pos) (liftS G B fun _ ρ M => W ⟨k, []⟩ ρ M) := by
  have F1 := F.no h0
  refine (ps_raise C.calm tk (pmk_own0 PySem.F.excBase_ValueError (by rw [C.eK]; exact F1) (by rw [C.eM]; exact F.mg) (by rw [C.eK]; exact F.kC) (raises_own (by rw [C.eK]; exact F.sb) (by rw [C.eK]; exact F.ty)) hg hdb)).weak fun D σ H ⟨ρ, M, D0, st, rs, rm, q, ok⟩ => ?_
  refine ⟨⟨k, []⟩, ρ, M, st, ⟨ei, C0, hk, F.mg, rfl, ?_⟩, rs, rm, q⟩
  rw [h0]
theorem ls_rse1 {P : Program} {w : World} {base : Heap} {ei : Str × Option Str} {C0 : Addr} {k : Nat} {f : Str} (C : CtxOk X G N sc) (F : ExOk P w base G ei C0) (e1 : X.prog = P) (e2 : X.w = w) (e3 : X.base = base) (hk : G.et[k]? = some ei) (h0 : ei.2 = some f) (tk : Takes X (liftW G B W)) (hg : Gl X ei.1) (hr : Room 3 X.A)
    (he : PE X e (lift G B ta)) (hp : plainE e = true) :
    PS X (.Raise (some (.Call (.Name ei.1 p) [e] [] p2)) none pos) (liftS G B fun _ ρ M => ta ρ M fun d M1 => W ⟨k, [d]⟩ ρ M1) := by
  have F1 := F.wi f h0 X N sc e _ p p2 e1 e2 e3 C.toCtxK hr hg he hp
  refine (ps_raise C.calm tk F1).weak fun D σ H ⟨ρ, M, D0, st, rs, rm, q, ok⟩ => ?_
  refine ⟨ρ, M, _, st, rs, rm, q, fun d M1 H1 v q1 r1 m1 s1 dd hdd => ?_⟩
  have s2 : Step H1 M1 (upd H1 dd (.xd [(f, v)])) M1 := Step.hid hdd
  refine ⟨⟨k, [d]⟩, ρ, M1, (st.trans s1).trans s2, ⟨ei, C0, hk, F.mg, rfl, ?_⟩, rs.keep (s1.trans s2).kp, m1.skip hdd, q1⟩
  rw [h0]
  exact ⟨dd, v, rfl, upd_same, RepD.keep s2.kp _ _ r1⟩
theorem Takes.lift {P : Prop} {X : Cx} {W W' : WX} (t : Takes X W) (h : ∀ c d σ H, W' c d σ H → W c d σ H) : Takes X W' := t.imp h

/-! ### try with clauses, with or without a name -/
abbrev Hd := Value × Option Nat × (Addr → Value → Option Addr → TS)
def outE (D : Ends) : Option Nat → Ends
  | none => D
  | some i => { nx := fun σ' H' => D.nx (σ'.set i none) H', rt := D.rt, bk := fun σ' H' => D.bk (σ'.set i none) H', ct := fun σ' H' => D.ct (σ'.set i none) H' }
def inS (σ : L2.St) (a : Addr) : Option Nat → L2.St
  | none => σ
  | some i => σ.set i (some (.ref a))
def wGen (K : PySem.W.Frag) (Wout : WX) (D : Ends) : List Hd → WX
  | [] => Wout
  | h :: r => fun cls d σ H => ∃ b, PySem.W.exmOne K cls h.1 = some b ∧ (b = true → ∀ a, H a = none → h.2.2 a cls d (outE D h.2.1) (inS σ a h.2.1) H) ∧ (b = false → wGen K Wout D r cls d σ H)
inductive HdsG (X : Cx) : List ExceptHandler → List Hd → Prop
  | nil : HdsG X [] []
  | one {x : Str} {c : Value} {ts : Addr → Value → Option Addr → TS} {b₀ : Stmt} {suite : List Stmt} {np pos' : Pos} {hds : List ExceptHandler} {l : List Hd} (hc : Names X x c)
      (hsu : ∀ (a : Addr) (oe : Obj) (cls : Value) (d : Option Addr) (pn : List (Addr × Obj)), Zc cls d oe → (∃ vs, oe.data = .fields vs) → PSs (X.suite a ((a, oe) :: pn)) (b₀ :: suite) (ts a cls d)) (r : HdsG X hds l) :
      HdsG X (.ExceptHandler (some (.Name x np)) none (b₀ :: suite) pos' :: hds) ((c, none, ts) :: l)
  | as {x n : Str} {i : Nat} {c : Value} {ts : Addr → Value → Option Addr → TS} {b₀ : Stmt} {suite : List Stmt} {np pos' : Pos} {hds : List ExceptHandler} {l : List Hd} (hc : Names X x c) (hi : X.N[i]? = some n) (hln : X.env.kindOf n = some .local)
      (hsu : ∀ (a : Addr) (oe : Obj) (cls : Value) (d : Option Addr) (pn : List (Addr × Obj)), Zc cls d oe → (∃ vs, oe.data = .fields vs) → PSs (X.suite a ((a, oe) :: pn)) (b₀ :: suite) (ts a cls d)) (r : HdsG X hds l) :
      HdsG X (.ExceptHandler (some (.Name x np)) (some n) (b₀ :: suite) pos' :: hds) ((c, some i, ts) :: l)
theorem ps_tryG {body : List Stmt} {h₀ : ExceptHandler} {hds : List ExceptHandler} {l : List Hd} {tb : WX → TS} {Wout : WX} (hs : X.stack = X.env :: X.outer) (hf : X.env.frame = some X.env.locals) (hN : X.N.Nodup) (tk : Takes X Wout)
    (hb : ∀ (W : WX) (pn : List (Addr × Obj)) (xe : Value → Shared → Prop), Takes (X.tr pn xe) W → PassesOwn (model X.prog X.w) X.A X.env xe → PSs (X.tr pn xe) body (tb W))
    (hh : HdsG X (h₀ :: hds) l) : PS X (.Try body (h₀ :: hds) [] [] pos) (fun D σ H => tb (wGen X.K Wout D l) D σ H) := by
  refine ⟨fun pins s σ H D I h => ?_⟩
  have ok := I.ok
  have hfr : X.A.frames = some (X.env :: X.outer) := by rw [ok.frames, hs]
  refine wpAny_Try_except ?_
  refine wpAny_mono ((hb (wGen X.K Wout D l) (X.pn ++ pins) (fun e s₁ => wpAny (model X.prog X.w) X.A (noteFrame e X.env) (fun _ s₂ => wpAny (model X.prog X.w) X.A (setFlight e none) (fun _ s₃ =>
    wpAny (model X.prog X.w) X.A (handleBy e X.env (h₀ :: hds)) (SP X pins D) X.xe s₃) X.xe s₂) X.xe s₁) (fun u s' xx => ?_) PassesOwn.looking).run [] s σ H D (I.toTry _) h) (fun f s1 hsp => ?_) (fun e s1 he => he)
  · obtain ⟨a, B, sI, pins', σ', H', cls, d, rfl, J', nb, up, sky, na, os, ag, w⟩ := xx
    have J : Inv X pins σ' H' sI := J'.ofTry ok
    have sky' : Sky B (X.env :: X.outer) a (Zc cls d) X.env.locals s'.heap := by rw [← hs]; exact sky
    show wpAny (model X.prog X.w) X.A (noteFrame (.ref a) X.env) _ _ _
    refine Sky.land Zc.steady hfr hf sky' fun h3 fl3 up3 => ?_
    have J3 : Inv X pins σ' H' { s' with heap := h3 } := J.landed nb fl3.1 (up.trans up3) os ag
    obtain ⟨oe3, vs3, he3, hz3, hd3⟩ := fl3.there
    have notFr : ∀ {h : Heap} {o : Obj} {vs : Array Value}, h.FunFrames B (X.env :: X.outer) → h.get? a = some o → o.data = .fields vs → a ∉ frs (X.env :: X.outer) := fun {h o vs} ff e dd hm => by
      obtain ⟨_, o', e', hnf⟩ := ff.mem hm
      rw [e] at e'; cases e'
      exact hnf _ dd
    have nfr := notFr fl3.2.2.1 he3 hd3
    have nL : a ≠ X.env.locals := fun z => nfr (List.mem_filterMap.mpr ⟨X.env, List.mem_cons_self, by rw [hf, z]⟩)
    have nF : a ∉ X.fs := fun hm => by
      obtain ⟨e, he, q⟩ := List.mem_filterMap.mp hm
      exact nfr (List.mem_filterMap.mpr ⟨e, List.mem_cons_of_mem _ he, q⟩)
    have S3 := J3.suite he3 hd3 na nL nF
    have LT : PySem.W.Looks (model X.prog X.w) h3 (typeOf (.ref a)) cls := fun A Q E s k q => wpAny_typeOf_ref (k _ _ he3) (by rw [hz3.1]; exact q)
    have test : ∀ {x : Str} {np : Pos} {c : Value}, Names X x c → ∀ {Q : Value → Shared → Prop} {E : Value → Shared → Prop}, Q c { s' with heap := h3 } → wpAny (model X.prog X.w) (X.A.mark (some (.ref a))) (eval (.Name x np) X.env) Q E { s' with heap := h3 } := fun {x np c} hc {Q E} q => by
      obtain ⟨hg, hdbg, hm | ⟨hm, hv, hnn⟩⟩ := hc
      · exact ld_glob (X := X.suite a ((a, oe3) :: (X.pn ++ pins))) S3 hg hm q hdbg
      · exact ld_blt (X := X.suite a ((a, oe3) :: (X.pn ++ pins))) S3 hg hm hv q hnn hdbg
    have go : ∀ {hds' : List ExceptHandler} {l' : List Hd}, HdsG X hds' l' → wGen X.K Wout D l' cls d σ' H' →
        wpAny (model X.prog X.w) X.A (handleBy (.ref a) X.env hds') (SP X pins D) X.xe { s' with heap := h3 } := by
      intro hds' l' hk
      induction hk with
      | nil =>
        intro w
        refine wpAny_handleBy_nil ?_
        obtain ⟨k1, k2, k3, oe, vs, T, oT, ts', he, hz, hd, h1, hr⟩ := id fl3
        unfold PySem.passOn
        refine wpAny_bind (wpAny_field he hd h1 ?_)
        rw [if_neg (show ¬ ((Value.ref T == Value.none) = true) from by simp)]
        have fin : wpAny (model X.prog X.w) X.A (setFlight (.ref a) X.env.frame) (fun _ s4 => wpAny (model X.prog X.w) X.A (throw (.ref a) : Sem Flow) (SP X pins D) X.xe s4) X.xe { s' with heap := h3 } := by
          rw [hf]
          refine HandSPX.setFlight_upZ fl3 fun h4 hh4 up4 => wpAny_throw (tk _ _ ?_)
          exact ⟨a, B, sI, pins, σ', H', cls, d, rfl, J, nb, (up.trans up3).trans up4, .inr (.inr (by rw [hs]; exact hh4)), na, os, ag, w⟩
        first
          | exact wpAny_bind (wpAny_pure (wpAny_bind fin))
          | exact wpAny_bind fin
      | @one x c ts b₀ suite np pos' hds2 l2 hc hsu r ih =>
        intro w
        obtain ⟨b, hb1, hyes, hno⟩ := w
        refine wpAny_handleBy_cons (codeAny_handlers_test ?_) (by intro q; cases q)
        have LM := PySem.W.exm_one (M := model X.prog X.w) (J3.kIn) LT hb1
        refine test hc (LM.here ?_)
        cases b with
        | true =>
          refine codeAny_handlers_suite ?_
          refine HandSPX.lands_againZ fl3 fun h4 fl4 up4 => ?_
          have J4 : Inv X pins σ' H' { s' with heap := h4 } := J.landed nb fl4.1 ((up.trans up3).trans up4) os ag
          obtain ⟨oe4, vs4, he4, hz4, hd4⟩ := fl4.there
          have S4 := J4.suite he4 hd4 na nL nF
          refine wpAny_mono ((hsu a oe4 cls d (X.pn ++ pins) hz4 ⟨_, hd4⟩).run [] _ _ H' _ S4 (hyes rfl a na)) (fun f s6 hsp => ?_) (fun _ _ z => False.elim z)
          cases f with
          | next =>
            obtain ⟨σ6, H6, S6, q6⟩ := hsp
            exact ⟨_, _, S6.unsuite ok, q6⟩
          | brk =>
            obtain ⟨σ6, H6, S6, q6⟩ := hsp
            exact ⟨_, _, S6.unsuite ok, q6⟩
          | cont =>
            obtain ⟨σ6, H6, S6, q6⟩ := hsp
            exact ⟨_, _, S6.unsuite ok, q6⟩
          | ret u =>
            obtain ⟨v6, σ6, H6, S6, r6, q6⟩ := hsp
            exact ⟨_, _, _, S6.unsuite ok, r6, q6⟩
        | false =>
          show wpAny _ X.A (handleBy (.ref a) X.env hds2) _ _ _
          exact ih (hno rfl)
      | @as x n i c ts b₀ suite np pos' hds2 l2 hc hi hln hsu r ih =>
        intro w
        obtain ⟨b, hb1, hyes, hno⟩ := w
        have hloc : L2.Loc X.env.scope n := .inl hln
        refine wpAny_handleBy_cons (codeAny_handlers_test ?_) (by intro q; cases q)
        have LM := PySem.W.exm_one (M := model X.prog X.w) (J3.kIn) LT hb1
        refine test hc (LM.here ?_)
        cases b with
        | true =>
          refine codeAny_handlers_suite_as ?_
          refine HandSPX.lands_againZ fl3 fun h4 fl4 up4 => ?_
          have J4 : Inv X pins σ' H' { s' with heap := h4 } := J.landed nb fl4.1 ((up.trans up3).trans up4) os ag
          obtain ⟨oe4, vs4, he4, hz4, hd4⟩ := fl4.there
          have S4 := J4.suite he4 hd4 na nL nF
          refine store_ok (X := X.suite a ((a, oe4) :: (X.pn ++ pins))) (v := .ref a) S4 hN hi hloc rfl (fun s5 S5 => ?_) (.inr hln)
          refine wpAny_mono ((hsu a oe4 cls d (X.pn ++ pins) hz4 ⟨_, hd4⟩).run [] s5 _ H' _ S5 (hyes rfl a na)) (fun f s6 hsp => ?_) (fun _ _ z => False.elim z)
          have end_ : ∀ {σ6 : L2.St} {H6 : Hp} {Q : Shared → Prop}, Inv (X.suite a ((a, oe4) :: (X.pn ++ pins))) [] σ6 H6 s6 → (∀ s7, Inv X pins (σ6.set i none) H6 s7 → Q s7) →
              wpAny (model X.prog X.w) X.A (do bindName X.env n .none; unbindBehindTheSuite X.env n pos') (fun _ s7 => Q s7) X.xe s6 := fun {σ6 H6 Q} S6 hq => gone_ok (S6.unsuite ok) hN hi hln hq
          cases f with
          | next =>
            obtain ⟨σ6, H6, S6, q6⟩ := hsp
            exact end_ S6 fun s7 J7 => ⟨_, _, J7, q6⟩
          | brk =>
            obtain ⟨σ6, H6, S6, q6⟩ := hsp
            exact end_ S6 fun s7 J7 => ⟨_, _, J7, q6⟩
          | cont =>
            obtain ⟨σ6, H6, S6, q6⟩ := hsp
            exact end_ S6 fun s7 J7 => ⟨_, _, J7, q6⟩
          | ret u =>
            obtain ⟨v6, σ6, H6, S6, r6, q6⟩ := hsp
            exact end_ S6 fun s7 J7 => ⟨_, _, _, J7, r6, q6⟩
        | false =>
          show wpAny _ X.A (handleBy (.ref a) X.env hds2) _ _ _
          exact ih (hno rfl)
    exact go hh w
  · cases f with
    | next =>
      obtain ⟨σ', H', J', q⟩ := hsp
      exact wpAny_execs_nil ⟨σ', H', J'.ofTry ok, q⟩
    | brk =>
      obtain ⟨σ', H', J', q⟩ := hsp
      exact ⟨σ', H', J'.ofTry ok, q⟩
    | cont =>
      obtain ⟨σ', H', J', q⟩ := hsp
      exact ⟨σ', H', J'.ofTry ok, q⟩
    | ret u =>
      obtain ⟨v, σ', H', J', r, q⟩ := hsp
      exact ⟨v, σ', H', J'.ofTry ok, r, q⟩
end
end DL
set_option Elab.async false
set_option linter.all false
set_option maxRecDepth 100000
set_option maxHeartbeats 1000000
/-! DL11: contexts; exceptions within suites. -/
namespace DL
open PySem PySem.Spec PyProof.Rows L2

/-- the exception classes' facts -/
structure XsOk (P : Program) (w : World) (base : Heap) (G : Cfg) (cs : Pk) : Prop where
  ok : ∀ (c : Nat) ei, G.et[c]? = some ei → ∃ C, ExOk P w base G ei C
  fd : ∀ (c : Nat) ei, G.et[c]? = some ei → cs.fd c = ei.2
  exm : ∀ (c c' : Nat) ei ei' C C', G.et[c]? = some ei → G.et[c']? = some ei' → G.mg ei.1 = some (.ref C) → G.mg ei'.1 = some (.ref C') → PySem.W.exmOne G.K (.ref C) (.ref C') = some (cs.sub c c')
  kit : ∀ (c c' : Nat) ei ei' C C', G.et[c]? = some ei → G.et[c']? = some ei' → G.mg ei.1 = some (.ref C) → G.mg ei'.1 = some (.ref C') → ei.2 = none → PySem.W.kitOne G.K (.ref C) (.ref C') = some (cs.sub c c')
  kitV : ∀ (c : Nat) ei C, G.et[c]? = some ei → G.mg ei.1 = some (.ref C) → ei.2 = none → PySem.W.kitOne G.K (.ref C) (.type "ValueError") = some true ∧ ExcC G.K C
  xf : ∀ (c : Nat) ei C f, G.et[c]? = some ei → G.mg ei.1 = some (.ref C) → ei.2 = some f → XfC G.K C ∧ PySem.W.findIn G.K (.ref C) f = some none
/-- what is known of the exception that a suite holds -/
def XoOk (X : Cx) (G : Cfg) (B : Bs) : XO → Prop
  | none => True
  | some (a, x) => ∃ (X0 : Cx) (oe : Obj) (pn : List (Addr × Obj)) (cls : Value) (d : Option Addr), X = X0.suite a ((a, oe) :: pn) ∧ Zc cls d oe ∧ (∃ vs, oe.data = .fields vs) ∧ RepX G B.H x cls d ∧ RepM G B.H B.M
/-- where a piece of code runs -/
structure Ct (X : Cx) (G : Cfg) (cs : Pk) (N : List Str) (sc : Scope) (fs : Str → Bool) (B : Bs) (W : WD) (xo : XO) (hot : Bool) : Prop where
  k : CtxK X G N sc
  kind : sc.kind = .function
  calm : hot = false → X.calm = true
  fn : ∀ x, fs x = true → X.fn x = true
  tk : Takes X (liftW G B W)
  cok : ∀ c ∈ cs.l, c.Ok X.prog X.w G X.base
  room : hot = false → ∀ c ∈ cs.l, Room c.need X.A
  room3 : hot = false → Room 3 X.A
  xs : XsOk X.prog X.w X.base G cs
  xo : XoOk X G B xo
section
variable {X : Cx} {G : Cfg} {cs : Pk} {N : List Str} {sc : Scope} {fs : Str → Bool} {B : Bs} {W : WD} {xo : XO} {hot : Bool}
theorem Ct.ok (c : Ct X G cs N sc fs B W xo false) : CtxOk X G N sc := ⟨c.k, c.calm rfl⟩
theorem Ct.blk (c : Ct X G cs N sc fs B W xo false) {s : Shared} {H : Hp} {scope : Scope} {cl : List (Str × Addr)} {cc : Addr} {fp : List Addr} (hk : scope.kind = .function) :
    Ct (X.blk s H scope (compEnvC scope cl cc X.env) fp) G cs N (relS scope sc) (fun x => scope.names.lookup x == some .cell) B (fun _ _ _ => False) none false where
  k := ⟨c.k.eK, c.k.eM, c.k.eP, c.k.ew, c.k.eN, c.k.nd, by show relS scope X.env.scope = relS scope sc; rw [c.k.eS], c.k.hu, c.k.fb, c.k.nc, c.k.gl⟩
  kind := hk
  calm := c.calm
  fn := fun x h => h
  tk := takes_none5.imp fun _ _ _ _ ⟨_, _, _, _, _, _, _, h⟩ => h
  cok := c.cok
  room := c.room
  room3 := c.room3
  xs := c.xs
  xo := trivial
theorem Ct.suite {D : Type} (c : Ct X G cs N sc fs B W xo false) {a : Addr} {oe : Obj} {pn : List (Addr × Obj)} {xo' : XO} {B' : Bs} (hx : XoOk (X.suite a ((a, oe) :: pn)) G B' xo') :
    Ct (X.suite a ((a, oe) :: pn)) G cs N sc fs B' (fun _ _ _ => False) xo' true where
  k := ⟨c.k.eK, c.k.eM, c.k.eP, c.k.ew, c.k.eN, c.k.nd, c.k.eS, c.k.hu, c.k.fb, c.k.nc, c.k.gl⟩
  kind := c.kind
  calm := fun h => nomatch h
  fn := c.fn
  tk := takes_none5.imp fun _ _ _ _ ⟨_, _, _, _, _, _, _, h⟩ => h
  cok := c.cok
  room := fun h => nomatch h
  room3 := fun h => nomatch h
  xs := c.xs
  xo := hx
theorem Ct.tr (c : Ct X G cs N sc fs B W xo false) {pn : List (Addr × Obj)} {xe : Value → Shared → Prop} {W' : WD} (tk : Takes (X.tr pn xe) (liftW G B W')) : Ct (X.tr pn xe) G cs N sc fs B W' none false where
  k := ⟨c.k.eK, c.k.eM, c.k.eP, c.k.ew, c.k.eN, c.k.nd, c.k.eS, c.k.hu, c.k.fb, c.k.nc, c.k.gl⟩
  kind := c.kind
  calm := c.calm
  fn := c.fn
  tk := tk
  cok := c.cok
  room := c.room
  room3 := c.room3
  xs := c.xs
  xo := trivial

/-! ### names -/
def visB (sc : Scope) (x : Str) : Bool := match sc.names.lookup x with | some .local => true | some .cell => true | some .free => true | _ => false
theorem visB_ok {sc : Scope} {x : Str} (h : visB sc x = true) : Vis sc x := by
  unfold visB at h
  split at h
  · exact .inl (by assumption)
  · exact .inr (.inl (by assumption))
  · exact .inr (.inr (by assumption))
  · cases h
def locB (sc : Scope) (x : Str) : Bool := match sc.names.lookup x with | some .local => true | some .cell => true | _ => false
theorem locB_ok {sc : Scope} {x : Str} (h : locB sc x = true) : L2.Loc sc x := by
  unfold locB at h
  split at h
  · exact .inl (by assumption)
  · exact .inr (by assumption)
  · cases h
/-- what is checked -/
structure CE where
  cf : Cf
  cs : Pk
  N : List Str
  sc : Scope
  fs : Str → Bool
  hot : Bool
def CE.nam (E : CE) (x : Str) (i : Nat) : Bool := decide (E.N[i]? = some x) && visB E.sc x && !(x == ("__debug__" : Str)) && !(x == ("__classdict__" : Str))
def CE.sto (E : CE) (x : Str) (i : Nat) : Bool := decide (E.N[i]? = some x) && locB E.sc x && (E.fs x || decide (E.sc.names.lookup x = some .local))
def CE.glo (E : CE) (x : Str) : Bool := decide (E.sc.names.lookup x = some .globalImplicit) && !(x == ("__debug__" : Str))
def CE.fre (E : CE) (x : Str) : Bool := E.glo x && decide (x ∈ E.cf.fb)
theorem gl_ok {E : CE} {x : Str} (c : CtxK X G N E.sc) (h : E.glo x = true) : Gl X x ∧ (x == ("__debug__" : Str)) = false := by
  unfold CE.glo at h
  rw [Bool.and_eq_true, Bool.not_eq_true', decide_eq_true_eq] at h
  refine ⟨?_, h.2⟩
  show X.env.kindOf x = _
  unfold Env.kindOf
  rw [c.eS]; exact h.1

/-! ### the exception of a suite -/
theorem ld_xis {e : Expr} {i c : Nat} {ei : Str × Option Str} {p p2 pos : Pos} (C : CtxK X G N sc) (xs : XsOk X.prog X.w X.base G cs) (hx : XoOk X G B xo) (hg : Gl X "isinstance") (hf : ("isinstance" : Str) ∈ G.fb) (hc : G.et[c]? = some ei) (hgc : Gl X ei.1) (hdb : (ei.1 == ("__debug__" : Str)) = false)
    (he : PE X e (lift G B fun ρ M Q => match ρ[i]? with
      | some (some d) => Q d M
      | _ => False)) (hp : plainE e = true) :
    PE X (.Call (.Name "isinstance" p) [e, .Name ei.1 p2] [] pos) (lift G B fun ρ M Q => match (generalizing := false) xo with
    | some (a, x) => ρ[i]? = some (some (.obj a)) ∧ cs.fd x.c = none ∧ Q (.bl (cs.sub x.c c)) M
    | none => False) := by
  cases xo with
  | none => exact ⟨fun pins s σ H Q I ⟨ρ, M, Q0, st, rs, rm, q, ok⟩ => q.elim⟩
  | some ax =>
    obtain ⟨a, x⟩ := ax
    obtain ⟨X0, oe, pn, cls, d, rfl, hz, hfd, rx, bm⟩ := hx
    obtain ⟨ej, CE, ej1, ej2, rfl, ej3⟩ := rx
    obtain ⟨C', F⟩ := xs.ok c ei hc
    have e2 : PE (X0.suite a ((a, oe) :: pn)) (.Name ei.1 p2) (tC (.ref C')) := pe_glob hgc (by rw [C.eM]; exact F.mg) rfl hdb
    by_cases h0 : ej.2 = none
    · have hd : d = none := by
        rw [h0] at ej3
        split at ej3
        · exact ej3
        · rename_i q _; cases q
        · exact ej3.elim
      subst hd
      obtain ⟨kv, kc⟩ := xs.kitV x.c ej CE ej1 ej2 h0
      refine (pe_callB (call_isE (by rw [C.eK]; exact kc) hz hfd) hg (by rw [C.eM]; exact C.fb _ hf) (by decide +kernel) (pa_cons he (pa_cons e2 pa_nil (by rfl)) (star_plain hp _ _)) (by decide +kernel) (by decide +kernel) (star_plain hp _ _) (by rfl)).weak fun σ H Q ⟨ρ, M, Q0, st, rs, rm, ⟨q0, q1, q⟩, ok⟩ => ?_
      refine ⟨ρ, M, fun dd M' => dd = .obj a ∧ Q0 (.bl (cs.sub x.c c)) M', st, rs, rm, ?_, fun dd M1 H1 v q1 r1 m1 s1 => ?_⟩
      · dsimp only; rw [q0]; exact ⟨rfl, q⟩
      · obtain ⟨rfl, q1⟩ := q1
        rw [RepD.obj] at r1; subst r1
        refine ⟨.ref C', .ref C', cs.sub x.c c, rfl, fun u hu => hu, ?_, ok _ _ _ _ q1 (RepD.bl.mpr rfl) m1 s1⟩
        rw [C.eK]
        exact xs.kit x.c c ej ei CE C' ej1 hc ej2 F.mg h0
    · refine ⟨fun pins s σ H Q I ⟨ρ, M, Q0, st, rs, rm, ⟨q0, q1, q⟩, ok⟩ => ?_⟩
      rw [xs.fd _ _ ej1] at q1
      exact absurd q1 h0
theorem ld_xisV {e : Expr} {i : Nat} {p p2 pos : Pos} (C : CtxK X G N sc) (xs : XsOk X.prog X.w X.base G cs) (hx : XoOk X G B xo) (hg : Gl X "isinstance") (hf : ("isinstance" : Str) ∈ G.fb) (hgc : Gl X "ValueError") (hf2 : ("ValueError" : Str) ∈ G.fb)
    (he : PE X e (lift G B fun ρ M Q => match ρ[i]? with
      | some (some d) => Q d M
      | _ => False)) (hp : plainE e = true) :
    PE X (.Call (.Name "isinstance" p) [e, .Name "ValueError" p2] [] pos) (lift G B fun ρ M Q => match (generalizing := false) xo with
    | some (a, x) => ρ[i]? = some (some (.obj a)) ∧ cs.fd x.c = none ∧ Q (.bl true) M
    | none => False) := by
  cases xo with
  | none => exact ⟨fun pins s σ H Q I ⟨ρ, M, Q0, st, rs, rm, q, ok⟩ => q.elim⟩
  | some ax =>
    obtain ⟨a, x⟩ := ax
    obtain ⟨X0, oe, pn, cls, d, rfl, hz, hfd, rx, bm⟩ := hx
    obtain ⟨ej, CE, ej1, ej2, rfl, ej3⟩ := rx
    have e2 : PE (X0.suite a ((a, oe) :: pn)) (.Name "ValueError" p2) (tC (.ty "ValueError")) := pe_bltn hgc (by rw [C.eM]; exact C.fb _ hf2) PyProof.Rows.Boot.«ValueError» rfl
    by_cases h0 : ej.2 = none
    · have hd : d = none := by
        rw [h0] at ej3
        split at ej3
        · exact ej3
        · rename_i q _; cases q
        · exact ej3.elim
      subst hd
      obtain ⟨kv, kc⟩ := xs.kitV x.c ej CE ej1 ej2 h0
      refine (pe_callB (call_isE (by rw [C.eK]; exact kc) hz hfd) hg (by rw [C.eM]; exact C.fb _ hf) (by decide +kernel) (pa_cons he (pa_cons e2 pa_nil (by rfl)) (star_plain hp _ _)) (by decide +kernel) (by decide +kernel) (star_plain hp _ _) (by rfl)).weak fun σ H Q ⟨ρ, M, Q0, st, rs, rm, ⟨q0, q1, q⟩, ok⟩ => ?_
      refine ⟨ρ, M, fun dd M' => dd = .obj a ∧ Q0 (.bl true) M', st, rs, rm, ?_, fun dd M1 H1 v q1 r1 m1 s1 => ?_⟩
      · dsimp only; rw [q0]; exact ⟨rfl, q⟩
      · obtain ⟨rfl, q1⟩ := q1
        rw [RepD.obj] at r1; subst r1
        refine ⟨.ty "ValueError", .type "ValueError", true, rfl, fun u hu => hu, ?_, ok _ _ _ _ q1 (RepD.bl.mpr rfl) m1 s1⟩
        rw [C.eK]
        exact kv
    · refine ⟨fun pins s σ H Q I ⟨ρ, M, Q0, st, rs, rm, ⟨q0, q1, q⟩, ok⟩ => ?_⟩
      rw [xs.fd _ _ ej1] at q1
      exact absurd q1 h0
theorem ld_xfld {e : Expr} {i : Nat} {f : Str} {pos : Pos} (C : CtxK X G N sc) (xs : XsOk X.prog X.w X.base G cs) (hx : XoOk X G B xo)
    (he : PE X e (lift G B fun ρ M Q => match ρ[i]? with
      | some (some d) => Q d M
      | _ => False)) (hr : recvE e = true) :
    PE X (.Attribute e f pos) (lift G B fun ρ M Q => match (generalizing := false) xo with
    | some (a, x) => ρ[i]? = some (some (.obj a)) ∧ cs.fd x.c = some f ∧ match x.args with
      | [v] => Q v M
      | _ => False
    | none => False) := by
  cases xo with
  | none => exact ⟨fun pins s σ H Q I ⟨ρ, M, Q0, st, rs, rm, q, ok⟩ => q.elim⟩
  | some ax =>
    obtain ⟨a, x⟩ := ax
    obtain ⟨X0, oe, pn, cls, d, rfl, hz, hfd, rx, bm⟩ := hx
    obtain ⟨ej, CE, ej1, ej2, rfl, ej3⟩ := rx
    by_cases h0 : ej.2 = some f
    · obtain ⟨T, hno⟩ := xs.xf x.c ej CE f ej1 ej2 h0
      refine (pe_xf (X := X0) (C := CE) (n := f) (by have := C.eK; rw [show X0.K = G.K from this]; exact T) (by have := C.eK; rw [show X0.K = G.K from this]; exact hno) hz hfd he (base_plain hr _ _ _)).weak fun σ H Q ⟨ρ, M, Q0, st, rs, rm, ⟨q0, q1, q⟩, ok⟩ => ?_
      split at q
      · rename_i v ev
        rw [h0, ev] at ej3
        obtain ⟨dd, u, rfl, hdd, ru⟩ := ej3
        refine ⟨ρ, M, fun d' M' => d' = .obj a ∧ Q0 v M', st, rs, rm, by dsimp only; rw [q0]; exact ⟨rfl, q⟩, fun d' M1 H1 w q1 r1 m1 s1 => ?_⟩
        obtain ⟨rfl, q1⟩ := q1
        rw [RepD.obj] at r1; subst r1
        have bM : B.M dd = none := by
          cases z : B.M dd with
          | none => rfl
          | some o =>
            obtain ⟨ho, h1, h2⟩ := bm dd o z
            rw [hdd] at h1; cases h1
            cases o with
            | lst _ => obtain ⟨_, h, _⟩ := h2; cases h
            | ro _ => obtain ⟨_, _, h, _⟩ := h2; cases h
            | dct _ => obtain ⟨_, h, _⟩ := h2; cases h
            | ins _ _ => obtain ⟨_, _, _, _, _, _, h, _⟩ := h2; cases h
        have h1 : H1 dd = some (.xd [(f, u)]) := (st.trans s1).frame dd _ hdd bM
        refine ⟨rfl, rfl, dd, [(f, u)], u, rfl, h1, by simp [List.lookup], ok _ _ _ _ q1 (RepD.keep (st.trans s1).kp _ _ ru) m1 s1⟩
      · exact q.elim
    · refine ⟨fun pins s σ H Q I ⟨ρ, M, Q0, st, rs, rm, ⟨q0, q1, q⟩, ok⟩ => ?_⟩
      rw [xs.fd _ _ ej1] at q1
      exact absurd q1 h0
end
end DL
set_option Elab.async false
set_option linter.all false
set_option maxRecDepth 100000
set_option maxHeartbeats 2000000
/-! DL12: when a text's tree is a term (computably). -/
namespace DL
open PySem PySem.Spec PyProof.Rows L2

def litB (d : D) (e : Expr) : Bool := match d, e with
  | .non, .Constant .none _ _ => true
  | .bl b, .Constant (.bool c) _ _ => b == c
  | .int i, .Constant (.int j) _ _ => decide (i = j)
  | .str l, .Constant (.str x) _ _ => decide (x.cps.toList = l)
  | _, _ => false
theorem litB_ok {X : Cx} {G : Cfg} {B : Bs} {d : D} {e : Expr} (h : litB d e = true) : PE X e (lift G B fun _ M Q => Q d M) := by
  unfold litB at h
  split at h
  · exact ld_lit pe_non fun H => RepD.non.mpr rfl
  · rw [beq_iff_eq] at h; subst h
    exact ld_lit pe_bl fun H => RepD.bl.mpr rfl
  · rw [decide_eq_true_eq] at h; subst h
    exact ld_lit pe_int fun H => RepD.int.mpr rfl
  · rename_i l x _ _
    rw [decide_eq_true_eq] at h; subst h
    exact ld_lit pe_str fun H => RepD.str.mpr (by rw [S_list])
  · cases h
def opK : BoolOp → Bool | .And => true | .Or => false

mutual
def chkTg : Tg → CE → Expr → Bool
  | .name i, E, e => match e with
    | .Name x _ => E.sto x i
    | _ => false
  | .tup ts, E, e => match e with
    | .Tuple es _ _ => !E.hot && chkTgs ts E es
    | _ => false
def chkTgs : Tgs → CE → List Expr → Bool
  | .nil, _, es => es.isEmpty
  | .cons t ts, E, es => match es with
    | e :: es => chkTg t E e && plainT e && chkTgs ts E es
    | [] => false
end
/-- enumerate, zip: a target that is a tuple -/
def tgFor : MI → Expr → Bool
  | .enu _, t => match t with | .Tuple .. => true | _ => false
  | .zip _ _, t => match t with | .Tuple .. => true | _ => false
  | _, _ => true
def CE.blk (E : CE) (scope : Scope) : CE := { E with sc := relS scope E.sc, fs := fun x => scope.names.lookup x == some .cell, hot := false }
mutual
def chkE : ME → CE → Expr → Bool
  | .var i, E, e => match e with
    | .Name x _ => E.nam x i
    | _ => false
  | .lit d, _, e => litB d e
  | .glb j d, E, e => match e with
    | .Name x _ => E.glo x && match E.cf.gl[j]? with
      | some p => decide (p.1 = x) && eqD p.2 d
      | none => false
    | _ => false
  | .xis i c, E, e => match e with
    | .Call (.Name f _) [.Name x _, .Name y _] [] _ => decide (f = "isinstance") && E.fre "isinstance" && E.nam x i && E.glo y && match E.cf.et[c]? with
      | some ei => decide (ei.1 = y)
      | none => false
    | _ => false
  | .xisV i, E, e => match e with
    | .Call (.Name f _) [.Name x _, .Name y _] [] _ => decide (f = "isinstance") && E.fre "isinstance" && E.nam x i && decide (y = "ValueError") && E.fre "ValueError"
    | _ => false
  | .xfld i f, E, e => match e with
    | .Attribute (.Name x _) g _ => decide (g = f) && E.nam x i
    | _ => false
  | .bin o a b, E, e => match e with
    | .BinOp l op r _ => decide (op = o) && chkE a E l && chkE b E r
    | _ => false
  | .neg a, E, e => match e with
    | .UnaryOp .USub x _ => chkE a E x
    | _ => false
  | .cmp o a b, E, e => match e with
    | .Compare l [op] [r] _ => decide (op = o) && chkE a E l && chkE b E r && plainE r
    | _ => false
  | .chn o o' a b c, E, e => match e with
    | .Compare l [op, op'] [r, t] _ => decide (op = o) && decide (op' = o') && chkE a E l && chkE b E r && chkE c E t && plainE t
    | _ => false
  | .bo k es, E, e => match e with
    | .BoolOp op vs _ => decide (opK op = k) && chkBo es E vs
    | _ => false
  | .not a, E, e => match e with
    | .UnaryOp .Not x _ => chkE a E x
    | _ => false
  | .ite c a b, E, e => match e with
    | .IfExp t l r _ => chkT c E t && chkE a E l && chkE b E r
    | _ => false
  | .tup es, E, e => match e with
    | .Tuple vs _ _ => chkA es E vs && decide (vs.length ≤ 1000)
    | _ => false
  | .lst es, E, e => match e with
    | .List vs _ => chkA es E vs && decide (vs.length ≤ 1000)
    | _ => false
  | .idx a i, E, e => match e with
    | .Subscript l r _ => chkE a E l && chkE i E r && plainE r
    | _ => false
  | .slc a lo hi, E, e => match e with
    | .Subscript l (.Slice lo' hi' none _) _ => chkE a E l && chkO lo E lo' && chkO hi E hi'
    | _ => false
  | .fld c i a, E, e => match e with
    | .Attribute l f _ => chkE a E l && recvE l && match E.cf.ct[c]? with
      | some ci => decide (ci.2[i]? = some f)
      | none => false
    | _ => false
  | .call k es, E, e => match e with
    | .Call (.Name f _) args [] _ => match E.cs.l[k]? with
      | some cl => !E.hot && decide (cl.kind = .fn) && decide (cl.nm = f) && E.glo f && decide (cl.ar = args.length) && chkA es E args
      | none => false
    | _ => false
  | .meth k o es, E, e => match e with
    | .Call (.Attribute l m ap) args [] pos => match E.cs.l[k]? with
      | some cl => !E.hot && (match cl.kind with | .me _ => true | _ => false) && decide (cl.nm = m) && decide (cl.ar = args.length + 1) && chkE o E l && recvE l && chkA es E args && decide (args.length < 29) && (ap.endLine == pos.line)
      | none => false
    | _ => false
  | .make k es, E, e => match e with
    | .Call (.Name f _) args [] _ => match E.cs.l[k]? with
      | some cl => !E.hot && (match cl.kind with | .mk _ => true | _ => false) && decide (cl.nm = f) && E.glo f && decide (cl.ar = args.length + 1) && chkA es E args
      | none => false
    | _ => false
  | .bi f es, E, e => match e with
    | .Call (.Name x _) args [] _ => decide (x = f.name) && E.fre f.name && (f.cool || !E.hot) && chkA es E args && !args.isEmpty
    | _ => false
  | .isi a T, E, e => match e with
    | .Call (.Name f _) [x, .Name y _] [] _ => decide (f = "isinstance") && E.fre "isinstance" && chkE a E x && plainE x && isT T && decide (y = PySem.Str.ofString T) && E.fre y
    | _ => false
  | .bm f o es, E, e => match e with
    | .Call (.Attribute l m ap) args [] pos => decide (m = f.name) && chkE o E l && recvE l && chkA es E args && decide (args.length < 29) && (ap.endLine == pos.line)
    | _ => false
  | .lc elt tg it ifs own, E, e => match e with
    | .ListComp elt' [⟨tg', it', ifs', 0⟩] scope _ => !E.hot && blkC E.N E.sc scope own && decide (scope.kind = .function) && (tg.slots.all fun i => (own.map (·.2)).contains i) && chkI it E it' && (plainE it' && tgFor it tg') && chkTg tg (E.blk scope) tg' && chkIf ifs (E.blk scope) ifs' && chkE elt (E.blk scope) elt'
    | _ => false
  | .rev a, E, e => match e with
    | .Subscript l (.Slice none none (some (.UnaryOp .USub (.Constant (.int 1) _ _) _)) _) _ => chkE a E l
    | _ => false
  | .isit a Ts, E, e => match e with
    | .Call (.Name f _) [x, .Tuple [.Name y1 _, .Name y2 _] _ _] [] _ => (match Ts with
      | [T1, T2] => decide (f = "isinstance") && E.fre "isinstance" && chkE a E x && plainE x && isT T1 && isT T2 && decide (y1 = PySem.Str.ofString T1) && decide (y2 = PySem.Str.ofString T2) && E.fre y1 && E.fre y2
      | _ => false)
    | _ => false
  | .dnew, _, e => match e with
    | .Dict [] [] _ => true
    | _ => false
  | .ddsp k v, E, e => match e with
    | .Dict [some kx] [vx] _ => chkE k E kx && chkE v E vx
    | _ => false
  | .dget o es, E, e => match e with
    | .Call (.Attribute l m ap) args [] pos => decide (m = "get") && chkE o E l && recvE l && chkA es E args && decide (args.length < 29) && (ap.endLine == pos.line) && !args.isEmpty
    | _ => false
  | .dzip a b, E, e => match e with
    | .Call (.Name f _) [.Call (.Name g _) [x, y] [] _] [] _ => !E.hot && decide (f = "dict") && decide (g = "zip") && E.fre "dict" && E.fre "zip" && chkE a E x && chkE b E y && plainE x && plainE y
    | _ => false
  | .lrng es, E, e => match e with
    | .Call (.Name f _) [.Call (.Name g _) [x] [] _] [] _ => !E.hot && decide (f = "list") && decide (g = "range") && E.fre "list" && E.fre "range" && chkA es E [x] && plainE x
    | _ => false
def chkA : MEs → CE → List Expr → Bool
  | .nil, _, es => es.isEmpty
  | .cons m ms, E, es => match es with
    | e :: es => chkE m E e && plainE e && chkA ms E es
    | [] => false
def chkO : MEs → CE → Option Expr → Bool
  | .nil, _, o => o.isNone
  | .cons m ms, E, o => match ms, o with
    | .nil, some e => chkE m E e
    | _, _ => false
def chkBo : MEs → CE → List Expr → Bool
  | .nil, _, _ => false
  | .cons m ms, E, es => match es with
    | [] => false
    | e :: r => chkE m E e && match ms with
      | .nil => r.isEmpty
      | .cons _ _ => chkBo ms E r
def chkT : MT → CE → Expr → Bool
  | .val m, E, e => chkE m E e && truE e
  | .cmp o a b, E, e => match e with
    | .Compare l [op] [r] _ => decide (op = o) && chkE a E l && chkE b E r && plainE r
    | _ => false
  | .chn o o' a b c, E, e => match e with
    | .Compare l [op, op'] [r, t] _ => decide (op = o) && decide (op' = o') && chkE a E l && chkE b E r && chkE c E t && plainE t
    | _ => false
  | .bo k ts, E, e => match e with
    | .BoolOp op vs _ => decide (opK op = k) && chkTs ts E vs
    | _ => false
  | .not t, E, e => match e with
    | .UnaryOp .Not x _ => chkT t E x
    | _ => false
def chkTs : MTs → CE → List Expr → Bool
  | .nil, _, _ => false
  | .cons m ms, E, es => match es with
    | [] => false
    | e :: r => chkT m E e && match ms with
      | .nil => r.isEmpty
      | .cons _ _ => chkTs ms E r
def chkIf : MTs → CE → List Expr → Bool
  | .nil, _, es => es.isEmpty
  | .cons m ms, E, es => match ms, es with
    | .nil, [e] => chkT m E e
    | _, _ => false
def chkI : MI → CE → Expr → Bool
  | .of m, E, e => chkE m E e
  | .rng ms, E, e => match e with
    | .Call (.Name f _) args [] _ => decide (f = "range") && E.fre "range" && chkA ms E args && (args.length == 1 || args.length == 2)
    | _ => false
  | .enu m, E, e => match e with
    | .Call (.Name f _) [x] [] _ => decide (f = "enumerate") && E.fre "enumerate" && chkE m E x && plainE x
    | _ => false
  | .zip _ _, _, _ => false
end

theorem chkA_plain : ∀ {ms : MEs} {E : CE} {es : List Expr}, chkA ms E es = true → plainEs es = true
  | .nil, E, es, h => by
    unfold chkA at h
    cases es with
    | nil => rfl
    | cons _ _ => cases h
  | .cons m ms, E, es, h => by
    cases es with
    | nil => rfl
    | cons e es =>
      unfold chkA at h
      simp only [Bool.and_eq_true] at h
      unfold plainEs
      rw [List.all_cons, h.1.2]
      exact chkA_plain h.2
section
variable {X : Cx} {G : Cfg} {cs : Pk} {N : List Str} {sc : Scope} {fs : Str → Bool} {B : Bs} {W : WD} {xo : XO} {hot : Bool}
theorem bin_ok (C : CtxK X G N sc) (o : Operator) : OpR X (binaryOp o) (lift2 G (binS o)) := by
  have no : ∀ op, OpR X (binaryOp op) (lift2 G fun _ _ _ _ => False) := fun op pins s σ H x y u v Q I r1 r2 h => by
    obtain ⟨d, e, M, Q0, _, _, _, q, _⟩ := h
    exact q.elim
  cases o with
  | Add => exact od_add C.eK
  | Sub => exact od_sub
  | Mult => exact od_mul C.eK
  | Mod => exact od_mod
  | Pow => exact od_pow
  | LShift => exact od_shl
  | RShift => exact od_shr
  | BitAnd => exact od_and
  | FloorDiv => exact od_div
  | MatMult => exact no _
  | Div => exact no _
  | BitOr => exact no _
  | BitXor => exact no _
theorem cmp_ok (C : CtxK X G N sc) (o : CmpOp) : OpR X (compareOp o) (lift2 G (cmpS o)) := by
  cases o with
  | Eq => exact od_eq C.eK C.hu
  | NotEq => exact od_ne C.eK C.hu
  | Lt => exact od_lt
  | LtE => exact od_le
  | Gt => exact od_gt
  | GtE => exact od_ge
  | Is => exact od_is
  | IsNot => exact od_isnot
  | In => exact od_inGG C false
  | NotIn => exact od_inGG C true
end
end DL
set_option Elab.async false
set_option linter.all false
set_option maxRecDepth 100000
set_option maxHeartbeats 2000000
/-! DL13: what is checked is so: expressions. -/
namespace DL
open PySem PySem.Spec PyProof.Rows L2

theorem vTru_bl {b : Bool} {M : Mem} {Q : Bool → Mem → Prop} : vTru (.bl b) M Q = Q b M := rfl
theorem cmp_bl (o : CmpOp) : ∀ d e M (Q : Bool → Mem → Prop), cmpS o d e M (fun z M' => vTru z M' Q) → cmpS o d e M (fun z M' => ∃ k, z = .bl k ∧ Q k M') := by
  have key : ∀ {k : Bool} {M : Mem} {Q : Bool → Mem → Prop}, vTru (.bl k) M Q → ∃ k', D.bl k = .bl k' ∧ Q k' M := fun h => ⟨_, rfl, h⟩
  have hEq : ∀ (neg : Bool) d e M (Q : Bool → Mem → Prop), vEqK neg d e M (fun z M' => vTru z M' Q) → vEqK neg d e M (fun z M' => ∃ k, z = .bl k ∧ Q k M') := fun neg d e M Q h => by
    unfold vEqK at h ⊢
    split at h
    · exact key h
    · exact key h
    · exact key h
    · split at h
      · exact ⟨h.1, h.2.1, key h.2.2⟩
      · exact h.elim
  have hO : ∀ gi gs d e M (Q : Bool → Mem → Prop), vOrd gi gs d e M (fun z M' => vTru z M' Q) → vOrd gi gs d e M (fun z M' => ∃ k, z = .bl k ∧ Q k M') := fun gi gs d e M Q h => by
    unfold vOrd at h ⊢
    split at h
    · exact key h
    · exact key h
    · exact h.elim
  have hI : ∀ (neg : Bool) d e M (Q : Bool → Mem → Prop), vIsK neg d e M (fun z M' => vTru z M' Q) → vIsK neg d e M (fun z M' => ∃ k, z = .bl k ∧ Q k M') := fun neg d e M Q h => by
    unfold vIsK at h ⊢
    split at h
    · exact key h
    · exact key h
    · exact h.elim
  have hN : ∀ (neg : Bool) d e M (Q : Bool → Mem → Prop), vInK neg d e M (fun z M' => vTru z M' Q) → vInK neg d e M (fun z M' => ∃ k, z = .bl k ∧ Q k M') := fun neg d e M Q h => by
    unfold vInK at h ⊢
    split at h
    · exact key h
    · exact ⟨h.1, h.2.1, key h.2.2⟩
    · split at h
      · exact ⟨h.1, h.2.1, key h.2.2⟩
      · exact h.elim
    · exact h.elim
  have hG : ∀ (neg : Bool) d e M (Q : Bool → Mem → Prop), vInG neg d e M (fun z M' => vTru z M' Q) → vInG neg d e M (fun z M' => ∃ k, z = .bl k ∧ Q k M') := fun neg d e M Q h => by
    unfold vInG at h ⊢
    split at h
    · rename_i hc
      rw [if_pos hc]
      unfold vDIn at h ⊢
      split at h
      · split at h
        · exact ⟨h.1, key h.2⟩
        · exact h.elim
      · exact h.elim
    · rename_i hc
      rw [if_neg hc]
      exact hN _ _ _ _ _ h
  intro d e M Q h
  cases o with
  | Eq => exact hEq _ _ _ _ _ h
  | NotEq => exact hEq _ _ _ _ _ h
  | Lt => exact hO _ _ _ _ _ _ h
  | LtE => exact hO _ _ _ _ _ _ h
  | Gt => exact hO _ _ _ _ _ _ h
  | GtE => exact hO _ _ _ _ _ _ h
  | Is => exact hI _ _ _ _ _ h
  | IsNot => exact hI _ _ _ _ _ h
  | In => exact hG _ _ _ _ _ h
  | NotIn => exact hG _ _ _ _ _ h

/-! ### targets -/
mutual
def Tg.len : Tg → Nat
  | .name _ => 0
  | .tup ts => ts.len
def Tgs.len : Tgs → Nat
  | .nil => 0
  | .cons _ ts => ts.len + 1
end
mutual
theorem wpTg_ex : ∀ (t : Tg) {d : D} {ρ : En} {k : En → Prop}, wpTg t d ρ k → ∃ ρ', k ρ'
  | .name i, d, ρ, k, h => ⟨_, h⟩
  | .tup ts, d, ρ, k, h => by
    unfold wpTg at h
    split at h
    · exact (wpTgs_len ts h).2
    · exact h.elim
theorem wpTgs_len : ∀ (ts : Tgs) {ds : List D} {ρ : En} {k : En → Prop}, wpTgs ts ds ρ k → ds.length = ts.len ∧ ∃ ρ', k ρ'
  | .nil, ds, ρ, k, h => by
    unfold wpTgs at h
    split at h
    · exact ⟨rfl, _, h⟩
    · exact h.elim
  | .cons t ts, ds, ρ, k, h => by
    unfold wpTgs at h
    split at h
    · obtain ⟨ρ', h2⟩ := wpTg_ex t h
      obtain ⟨l, r⟩ := wpTgs_len ts h2
      exact ⟨by simp [Tgs.len, l], r⟩
    · exact h.elim
end
/-- E checks what c has -/
abbrev CeOk (E : CE) (G : Cfg) (cs : Pk) (N : List Str) (sc : Scope) (fs : Str → Bool) (hot : Bool) : Prop := E = ⟨G.toCf, cs, N, sc, fs, hot⟩
section
variable {X : Cx} {G : Cfg} {cs : Pk} {N : List Str} {sc : Scope} {fs : Str → Bool} {B : Bs} {W : WD} {xo : XO} {hot : Bool}
theorem sto_ok (c : Ct X G cs N sc fs B W xo hot) {x : Str} {i : Nat} (h : (CE.mk G.toCf cs N sc fs hot).sto x i = true) : N[i]? = some x ∧ L2.Loc sc x ∧ (X.fn x = true ∨ sc.names.lookup x = some .local) := by
  unfold CE.sto at h
  simp only [Bool.and_eq_true, Bool.or_eq_true, decide_eq_true_eq] at h
  exact ⟨h.1.1, locB_ok h.1.2, h.2.imp (c.fn x) id⟩
theorem calm_of (c : Ct X G cs N sc fs B W xo hot) (h : (!hot) = true) : CtxOk X G N sc := ⟨c.k, c.calm (by simpa using h)⟩
theorem len_of : ∀ {ts : Tgs} {E : CE} {es : List Expr}, chkTgs ts E es = true → ts.len = es.length ∧ es.all plainT = true
  | .nil, E, es, h => by
    unfold chkTgs at h
    rw [List.isEmpty_iff] at h; subst h
    unfold Tgs.len
    exact ⟨rfl, rfl⟩
  | .cons t ts, E, es, h => by
    unfold chkTgs at h
    cases es with
    | nil => cases h
    | cons e es =>
      simp only [Bool.and_eq_true] at h
      obtain ⟨l, a⟩ := len_of h.2
      unfold Tgs.len
      exact ⟨by rw [List.length_cons, l], by rw [List.all_cons, h.1.2, a]; rfl⟩
mutual
theorem snTg (c : Ct X G cs N sc fs B W xo hot) : ∀ (t : Tg) (e : Expr), chkTg t ⟨G.toCf, cs, N, sc, fs, hot⟩ e = true → PG X e (liftG G t.slots (wpTg t))
  | .name i, e, h => by
    unfold chkTg at h
    split at h
    · obtain ⟨h1, h2, h3⟩ := sto_ok c h
      unfold Tg.slots
      exact lg_name c.k h1 h2 h3
    · cases h
  | .tup ts, e, h => by
    unfold chkTg at h
    split at h
    · simp only [Bool.and_eq_true] at h
      obtain ⟨l, a⟩ := len_of h.2
      unfold Tg.slots
      exact lg_tup (calm_of c h.1) (snTgs c ts _ h.2) a fun ds ρ k q => (wpTgs_len ts q).1.trans l
    · cases h
theorem snTgs (c : Ct X G cs N sc fs B W xo hot) : ∀ (ts : Tgs) (es : List Expr), chkTgs ts ⟨G.toCf, cs, N, sc, fs, hot⟩ es = true → PGs X es (liftGs G ts.slots (wpTgs ts))
  | .nil, es, h => by
    unfold chkTgs at h
    rw [List.isEmpty_iff] at h; subst h
    unfold Tgs.slots
    exact lgs_nil
  | .cons t ts, es, h => by
    unfold chkTgs at h
    cases es with
    | nil => cases h
    | cons e es =>
      simp only [Bool.and_eq_true] at h
      unfold Tgs.slots
      exact lgs_cons (snTg c t e h.1.1) (snTgs c ts es h.2) h.1.2
end
theorem snVar (c : CtxK X G N sc) {i : Nat} {x : Str} {p : Pos} (h : (CE.mk G.toCf cs N sc fs hot).nam x i = true) : PE X (.Name x p) (lift G B fun ρ M Q => match ρ[i]? with
      | some (some d) => Q d M
      | _ => False) := by
  unfold CE.nam at h
  simp only [Bool.and_eq_true, Bool.not_eq_true', decide_eq_true_eq] at h
  exact ld_var c h.1.1.1 (visB_ok h.1.1.2) h.1.2 h.2
theorem fre_ok (c : CtxK X G N sc) {x : Str} (h : (CE.mk G.toCf cs N sc fs hot).fre x = true) : Gl X x ∧ x ∈ G.fb := by
  unfold CE.fre at h
  rw [Bool.and_eq_true, decide_eq_true_eq] at h
  exact ⟨(gl_ok (E := CE.mk G.toCf cs N sc fs hot) c h.1).1, h.2⟩
theorem opK_and {op : BoolOp} (h : opK op = true) : op = .And := by cases op <;> first | rfl | cases h
theorem opK_or {op : BoolOp} (h : opK op = false) : op = .Or := by cases op <;> first | rfl | cases h

theorem blkSc (G : Cfg) (cs : Pk) (N : List Str) (sc : Scope) (fs : Str → Bool) (hot : Bool) (scope : Scope) : (CE.mk G.toCf cs N sc fs hot).blk scope = ⟨G.toCf, cs, N, relS scope sc, fun x => scope.names.lookup x == some .cell, false⟩ := rfl
mutual
theorem snE : ∀ (m : ME) {X : Cx} {sc : Scope} {fs : Str → Bool} {B : Bs} {W : WD} {xo : XO} {hot : Bool} (c : Ct X G cs N sc fs B W xo hot) (e : Expr), chkE m ⟨G.toCf, cs, N, sc, fs, hot⟩ e = true → PE X e (lift G B (wpE cs W xo m))
  | .var i, X, sc, fs, B, W, xo, hot, c, e, h => by
    unfold chkE at h
    unfold wpE
    split at h
    · exact snVar c.k h
    · cases h
  | .lit d, X, sc, fs, B, W, xo, hot, c, e, h => by
    unfold chkE at h
    unfold wpE
    exact litB_ok h
  | .glb j d, X, sc, fs, B, W, xo, hot, c, e, h => by
    unfold chkE at h
    unfold wpE
    split at h
    · rename_i x p
      rw [Bool.and_eq_true] at h
      obtain ⟨h1, h2⟩ := h
      split at h2
      · rename_i q eq
        rw [Bool.and_eq_true, decide_eq_true_eq] at h2
        obtain ⟨rfl, h3⟩ := h2
        have := eqD_eq _ _ h3
        subst this
        obtain ⟨u, v, g1, g2, g3⟩ := c.k.gl q (List.mem_of_getElem? eq)
        obtain ⟨k1, k2⟩ := gl_ok (E := CE.mk G.toCf cs N sc fs hot) c.k h1
        exact ld_lit (pe_glob k1 (by rw [c.k.eM]; exact g1) g2 k2) g3
      · cases h2
    · cases h
  | .xis i k, X, sc, fs, B, W, xo, hot, c, e, h => by
    unfold chkE at h
    unfold wpE
    split at h
    · simp only [Bool.and_eq_true, decide_eq_true_eq] at h
      obtain ⟨⟨⟨⟨rfl, h1⟩, h2⟩, h3⟩, h4⟩ := h
      split at h4
      · rename_i ei eq
        rw [decide_eq_true_eq] at h4; subst h4
        obtain ⟨a1, a2⟩ := fre_ok c.k h1
        obtain ⟨k1, k2⟩ := gl_ok (E := CE.mk G.toCf cs N sc fs hot) c.k h3
        exact ld_xis c.k c.xs c.xo a1 a2 eq k1 k2 (snVar (cs := cs) (fs := fs) (hot := hot) c.k h2) rfl
      · cases h4
    · cases h
  | .xisV i, X, sc, fs, B, W, xo, hot, c, e, h => by
    unfold chkE at h
    unfold wpE
    split at h
    · simp only [Bool.and_eq_true, decide_eq_true_eq] at h
      obtain ⟨⟨⟨⟨rfl, h1⟩, h2⟩, rfl⟩, h4⟩ := h
      obtain ⟨a1, a2⟩ := fre_ok c.k h1
      obtain ⟨b1, b2⟩ := fre_ok c.k h4
      exact ld_xisV c.k c.xs c.xo a1 a2 b1 b2 (snVar (cs := cs) (fs := fs) (hot := hot) c.k h2) rfl
    · cases h
  | .xfld i f, X, sc, fs, B, W, xo, hot, c, e, h => by
    unfold chkE at h
    unfold wpE
    split at h
    · simp only [Bool.and_eq_true, decide_eq_true_eq] at h
      obtain ⟨rfl, h2⟩ := h
      exact ld_xfld c.k c.xs c.xo (snVar (cs := cs) (fs := fs) (hot := hot) c.k h2) rfl
    · cases h
  | .bin o a b, X, sc, fs, B, W, xo, hot, c, e, h => by
    unfold chkE at h
    unfold wpE
    split at h
    · simp only [Bool.and_eq_true, decide_eq_true_eq] at h
      obtain ⟨⟨rfl, h1⟩, h2⟩ := h
      exact ld_bin (bin_ok c.k _) (snE a c _ h1) (snE b c _ h2)
    · cases h
  | .neg a, X, sc, fs, B, W, xo, hot, c, e, h => by
    unfold chkE at h
    unfold wpE
    split at h
    · exact ld_neg (snE a c _ h)
    · cases h
  | .cmp o a b, X, sc, fs, B, W, xo, hot, c, e, h => by
    unfold chkE at h
    unfold wpE
    split at h
    · simp only [Bool.and_eq_true, decide_eq_true_eq] at h
      obtain ⟨⟨⟨rfl, h1⟩, h2⟩, h3⟩ := h
      exact ld_cmp (cmp_ok c.k _) (snE a c _ h1) (snE b c _ h2) h3
    · cases h
  | .chn o o' a b d, X, sc, fs, B, W, xo, hot, c, e, h => by
    unfold chkE at h
    unfold wpE
    split at h
    · simp only [Bool.and_eq_true, decide_eq_true_eq] at h
      obtain ⟨⟨⟨⟨⟨rfl, rfl⟩, h1⟩, h2⟩, h3⟩, h4⟩ := h
      exact ld_chn (cmp_ok c.k _) (cmp_ok c.k _) (snE a c _ h1) (snE b c _ h2) (snE d c _ h3) h4
    · cases h
  | .bo k es, X, sc, fs, B, W, xo, hot, c, e, h => by
    unfold chkE at h
    unfold wpE
    split at h
    · simp only [Bool.and_eq_true, decide_eq_true_eq] at h
      obtain ⟨rfl, h2⟩ := h
      exact snBo es c _ _ _ h2
    · cases h
  | .not a, X, sc, fs, B, W, xo, hot, c, e, h => by
    unfold chkE at h
    unfold wpE
    split at h
    · exact ld_not c.k (snE a c _ h)
    · cases h
  | .ite t a b, X, sc, fs, B, W, xo, hot, c, e, h => by
    unfold chkE at h
    unfold wpE
    split at h
    · simp only [Bool.and_eq_true] at h
      exact ld_ite (snT t c _ h.1.1) (snE a c _ h.1.2) (snE b c _ h.2)
    · cases h
  | .tup es, X, sc, fs, B, W, xo, hot, c, e, h => by
    unfold chkE at h
    unfold wpE
    split at h
    · simp only [Bool.and_eq_true, decide_eq_true_eq] at h
      exact ld_tup (snA es c _ h.1) (Nat.le_trans h.2 (by decide))
    · cases h
  | .lst es, X, sc, fs, B, W, xo, hot, c, e, h => by
    unfold chkE at h
    unfold wpE
    split at h
    · simp only [Bool.and_eq_true, decide_eq_true_eq] at h
      exact ld_lst (snA es c _ h.1) (Nat.le_trans h.2 (by decide))
    · cases h
  | .idx a i, X, sc, fs, B, W, xo, hot, c, e, h => by
    unfold chkE at h
    unfold wpE
    split at h
    · simp only [Bool.and_eq_true] at h
      exact ld_idx (ix_get c.k) (snE a c _ h.1.1) (snE i c _ h.1.2) h.2
    · cases h
  | .slc a lo hi, X, sc, fs, B, W, xo, hot, c, e, h => by
    unfold chkE at h
    unfold wpE
    split at h
    · simp only [Bool.and_eq_true] at h
      exact ld_slc (sd_slc c.k.eK) (snE a c _ h.1.1) (snO lo c _ h.1.2) (snO hi c _ h.2)
    · cases h
  | .fld k i a, X, sc, fs, B, W, xo, hot, c, e, h => by
    unfold chkE at h
    unfold wpE
    split at h
    · simp only [Bool.and_eq_true] at h
      obtain ⟨⟨h1, h2⟩, h3⟩ := h
      split at h3
      · rename_i ci eq
        rw [decide_eq_true_eq] at h3
        exact ld_fld c.k eq (c.k.nc ci (List.mem_of_getElem? eq)) h3 (snE a c _ h1) h2
      · cases h3
    · cases h
  | .call k es, X, sc, fs, B, W, xo, hot, c, e, h => by
    unfold chkE at h
    unfold wpE
    split at h
    · split at h
      · rename_i f p args pos x cl eq
        simp only [Bool.and_eq_true, decide_eq_true_eq] at h
        obtain ⟨⟨⟨⟨⟨h1, h2⟩, rfl⟩, h4⟩, h5⟩, h6⟩ := h
        have mem := List.mem_of_getElem? eq
        obtain ⟨k1, k2⟩ := gl_ok (E := CE.mk G.toCf cs N sc fs hot) c.k h4
        have hA := snA es c _ h6
        have hr := c.room (by simpa using h1) cl mem
        cases args with
        | nil =>
          have : es = .nil := by
            cases es with
            | nil => rfl
            | cons _ _ => unfold chkA at h6; cases h6
          subst this
          rw [eq]
          unfold wpA
          exact ld_call0 (k := 0) c.k h2 (c.cok cl mem) h5 hr c.tk k1 k2
        | cons a as =>
          rw [eq]
          exact ld_callN c.k h2 (c.cok cl mem) h5 hr c.tk k1 k2 (chkA_plain h6) hA
      · cases h
    · cases h
  | .meth k o es, X, sc, fs, B, W, xo, hot, c, e, h => by
    unfold chkE at h
    unfold wpE
    split at h
    · split at h
      · rename_i l m ap args pos x cl eq
        simp only [Bool.and_eq_true, decide_eq_true_eq] at h
        obtain ⟨⟨⟨⟨⟨⟨⟨⟨h1, h2⟩, rfl⟩, h4⟩, h5⟩, h6⟩, h7⟩, h8⟩, h9⟩ := h
        have mem := List.mem_of_getElem? eq
        have hA := snA es c _ h7
        have hr := c.room (by simpa using h1) cl mem
        rw [eq]
        split at h2
        · rename_i kk ek
          dsimp only
          rw [ek]
          cases args with
          | nil =>
            have : es = .nil := by
              cases es with
              | nil => rfl
              | cons _ _ => unfold chkA at h7; cases h7
            subst this
            refine (ld_meth0 (k := kk) c.k ek (c.cok cl mem) h4 hr c.tk (snE o c _ h5) h6 h9).weak fun σ H Q z => ?_
            obtain ⟨ρ, M, Q0, st, rs, rm, q, ok⟩ := z
            refine ⟨ρ, M, Q0, st, rs, rm, ?_, ok⟩
            unfold onIns
            unfold wpA at q
            exact q
          | cons a as =>
            refine (ld_methN (k := kk) c.k ek (c.cok cl mem) h4 hr c.tk (snE o c _ h5) h6 (chkA_plain h7) hA h8 h9).weak fun σ H Q z => ?_
            obtain ⟨ρ, M, Q0, st, rs, rm, q, ok⟩ := z
            refine ⟨ρ, M, Q0, st, rs, rm, ?_, ok⟩
            unfold onIns
            exact q
        · cases h2
      · cases h
    · cases h
  | .make k es, X, sc, fs, B, W, xo, hot, c, e, h => by
    unfold chkE at h
    unfold wpE
    split at h
    · split at h
      · rename_i f p args pos x cl eq
        simp only [Bool.and_eq_true, decide_eq_true_eq] at h
        obtain ⟨⟨⟨⟨⟨h1, h2⟩, rfl⟩, h4⟩, h5⟩, h6⟩ := h
        have mem := List.mem_of_getElem? eq
        obtain ⟨k1, k2⟩ := gl_ok (E := CE.mk G.toCf cs N sc fs hot) c.k h4
        have hA := snA es c _ h6
        have hr := c.room (by simpa using h1) cl mem
        rw [eq]
        split at h2
        · rename_i kk ek
          dsimp only
          rw [ek]
          cases args with
          | nil =>
            have : es = .nil := by
              cases es with
              | nil => rfl
              | cons _ _ => unfold chkA at h6; cases h6
            subst this
            unfold wpA
            exact ld_make0 (k := kk) c.k ek (c.cok cl mem) h5 hr c.tk k1 k2
          | cons a as => exact ld_makeN (k := kk) c.k ek (c.cok cl mem) h5 hr c.tk k1 k2 (chkA_plain h6) hA
        · cases h2
      · cases h
    · cases h
  | .bi f es, X, sc, fs, B, W, xo, hot, c, e, h => by
    unfold chkE at h
    unfold wpE
    split at h
    · rename_i x p args pos
      simp only [Bool.and_eq_true, decide_eq_true_eq, Bool.or_eq_true] at h
      obtain ⟨⟨⟨⟨rfl, h1⟩, h2⟩, h3⟩, h4⟩ := h
      obtain ⟨a1, a2⟩ := fre_ok c.k h1
      cases args with
      | nil => cases h4
      | cons a as => exact ld_bi c.k f (h2.imp id fun z => c.calm (by simpa using z)) a1 a2 (chkA_plain h3) (snA es c _ h3)
    · cases h
  | .isi a T, X, sc, fs, B, W, xo, hot, c, e, h => by
    unfold chkE at h
    unfold wpE
    split at h
    · simp only [Bool.and_eq_true, decide_eq_true_eq] at h
      obtain ⟨⟨⟨⟨⟨⟨rfl, h1⟩, h2⟩, h3⟩, h4⟩, rfl⟩, h6⟩ := h
      obtain ⟨a1, a2⟩ := fre_ok c.k h1
      obtain ⟨b1, b2⟩ := fre_ok c.k h6
      exact ld_isi c.k a1 a2 h4 b1 b2 (snE a c _ h2) h3
    · cases h
  | .bm f o es, X, sc, fs, B, W, xo, hot, c, e, h => by
    unfold chkE at h
    unfold wpE
    split at h
    · rename_i l m ap args pos
      simp only [Bool.and_eq_true, decide_eq_true_eq] at h
      obtain ⟨⟨⟨⟨⟨rfl, h1⟩, h2⟩, h3⟩, h4⟩, h5⟩ := h
      cases args with
      | nil =>
        have : es = .nil := by
          cases es with
          | nil => rfl
          | cons _ _ => unfold chkA at h3; cases h3
        subst this
        unfold wpA
        exact ld_bm0 c.k f (snE o c _ h1) h2 h5
      | cons a as => exact ld_bmN c.k f (snE o c _ h1) h2 (chkA_plain h3) (snA es c _ h3) h4 h5
    · cases h
  | .lc elt tg it ifs own, X, sc, fs, B, W, xo, hot, c, e, h => by
    unfold chkE at h
    unfold wpE
    split at h
    · rename_i elt' tg' it' ifs' scope pos
      simp only [Bool.and_eq_true, decide_eq_true_eq] at h
      obtain ⟨⟨⟨⟨⟨⟨⟨⟨h1, h2⟩, h3⟩, h4⟩, h5⟩, h6⟩, h7⟩, h8⟩, h9⟩ := h
      have hot0 : hot = false := by simpa using h1
      subst hot0
      rw [blkSc] at h7 h8 h9
      refine ld_lc c.ok (snI it c tg' _ h5 h6.1 h6.2) (blkOk_by h2) (fun i hi => ?_) (fun s H cc cl fp => snTg (c.blk h3) tg _ h7) (fun s H cc cl fp => snIf ifs (c.blk h3) _ h8) (fun s H cc cl fp => snE elt (c.blk h3) _ h9) h6.1
      exact List.contains_iff_mem.mp (List.all_eq_true.mp h4 i hi)
    · cases h
  | .rev a, X, sc, fs, B, W, xo, hot, c, e, h => by
    unfold chkE at h
    unfold wpE
    split at h
    · exact ld_rev c.k (snE a c _ h)
    · cases h
  | .isit a Ts, X, sc, fs, B, W, xo, hot, c, e, h => by
    unfold chkE at h
    unfold wpE
    split at h
    · split at h
      · simp only [Bool.and_eq_true, decide_eq_true_eq] at h
        obtain ⟨⟨⟨⟨⟨⟨⟨⟨⟨rfl, h1⟩, h2⟩, h3⟩, h4⟩, h5⟩, rfl⟩, rfl⟩, h8⟩, h9⟩ := h
        obtain ⟨a1, a2⟩ := fre_ok c.k h1
        obtain ⟨b1, b2⟩ := fre_ok c.k h8
        obtain ⟨d1, d2⟩ := fre_ok c.k h9
        exact ld_isit c.k a1 a2 h4 h5 b1 b2 d1 d2 (snE a c _ h2) h3
      · cases h
    · cases h
  | .dnew, X, sc, fs, B, W, xo, hot, c, e, h => by
    unfold chkE at h
    unfold wpE
    split at h
    · exact ld_dnew
    · cases h
  | .ddsp k v, X, sc, fs, B, W, xo, hot, c, e, h => by
    unfold chkE at h
    unfold wpE
    split at h
    · rw [Bool.and_eq_true] at h
      exact ld_ddsp c.k (snE k c _ h.1) (snE v c _ h.2)
    · cases h
  | .dget o es, X, sc, fs, B, W, xo, hot, c, e, h => by
    unfold chkE at h
    unfold wpE
    split at h
    · rename_i l m ap args pos
      simp only [Bool.and_eq_true, decide_eq_true_eq] at h
      obtain ⟨⟨⟨⟨⟨⟨rfl, h1⟩, h2⟩, h3⟩, h4⟩, h5⟩, h6⟩ := h
      cases args with
      | nil => cases h6
      | cons a as => exact ld_dget c.k (snE o c _ h1) h2 (chkA_plain h3) (snA es c _ h3) h4 h5
    · cases h
  | .dzip a b, X, sc, fs, B, W, xo, hot, c, e, h => by
    unfold chkE at h
    unfold wpE
    split at h
    · simp only [Bool.and_eq_true, decide_eq_true_eq] at h
      obtain ⟨⟨⟨⟨⟨⟨⟨⟨h0, rfl⟩, rfl⟩, h1⟩, h2⟩, h3⟩, h4⟩, h5⟩, h6⟩ := h
      obtain ⟨a1, a2⟩ := fre_ok c.k h1
      obtain ⟨b1, b2⟩ := fre_ok c.k h2
      exact ld_dzip (calm_of c h0) a1 a2 b1 b2 (snE a c _ h3) (snE b c _ h4) h5 h6
    · cases h
  | .lrng es, X, sc, fs, B, W, xo, hot, c, e, h => by
    unfold chkE at h
    unfold wpE
    split at h
    · simp only [Bool.and_eq_true, decide_eq_true_eq] at h
      obtain ⟨⟨⟨⟨⟨⟨h0, rfl⟩, rfl⟩, h1⟩, h2⟩, h3⟩, h4⟩ := h
      obtain ⟨a1, a2⟩ := fre_ok c.k h1
      obtain ⟨b1, b2⟩ := fre_ok c.k h2
      exact ld_lrng (calm_of c h0) a1 a2 b1 b2 (snA es c _ h3) h4
    · cases h
theorem snA : ∀ (ms : MEs) {X : Cx} {sc : Scope} {fs : Str → Bool} {B : Bs} {W : WD} {xo : XO} {hot : Bool} (c : Ct X G cs N sc fs B W xo hot) (es : List Expr), chkA ms ⟨G.toCf, cs, N, sc, fs, hot⟩ es = true → PA X es (liftA G B es.length (wpA cs W xo ms))
  | .nil, X, sc, fs, B, W, xo, hot, c, es, h => by
    unfold chkA at h
    rw [List.isEmpty_iff] at h; subst h
    unfold wpA
    exact la_nil
  | .cons m ms, X, sc, fs, B, W, xo, hot, c, es, h => by
    unfold chkA at h
    cases es with
    | nil => cases h
    | cons e es =>
      simp only [Bool.and_eq_true] at h
      unfold wpA
      exact la_cons (snE m c e h.1.1) (snA ms c es h.2) h.1.2
theorem snO : ∀ (ms : MEs) {X : Cx} {sc : Scope} {fs : Str → Bool} {B : Bs} {W : WD} {xo : XO} {hot : Bool} (c : Ct X G cs N sc fs B W xo hot) (o : Option Expr), chkO ms ⟨G.toCf, cs, N, sc, fs, hot⟩ o = true → PO X o (liftO G B (optI (wpA cs W xo ms)))
  | .nil, X, sc, fs, B, W, xo, hot, c, o, h => by
    unfold chkO at h
    rw [Option.isNone_iff_eq_none] at h; subst h
    unfold wpA
    exact lo_none
  | .cons m ms, X, sc, fs, B, W, xo, hot, c, o, h => by
    unfold chkO at h
    split at h
    · unfold wpA wpA
      exact lo_some (snE m c _ h)
    · cases h
theorem snBo : ∀ (ms : MEs) {X : Cx} {sc : Scope} {fs : Str → Bool} {B : Bs} {W : WD} {xo : XO} {hot : Bool} (c : Ct X G cs N sc fs B W xo hot) (op : BoolOp) (es : List Expr) (pos : Pos), chkBo ms ⟨G.toCf, cs, N, sc, fs, hot⟩ es = true → PE X (.BoolOp op es pos) (lift G B (wpBo cs W xo (opK op) ms))
  | .nil, X, sc, fs, B, W, xo, hot, c, op, es, pos, h => by
    unfold chkBo at h
    cases h
  | .cons m ms, X, sc, fs, B, W, xo, hot, c, op, es, pos, h => by
    unfold chkBo at h
    cases es with
    | nil => cases h
    | cons e r =>
      dsimp only at h
      rw [Bool.and_eq_true] at h
      cases ms with
      | nil =>
        have h2 := h.2
        dsimp only at h2
        rw [List.isEmpty_iff] at h2; subst h2
        unfold wpBo
        exact ld_one (snE m c e h.1)
      | cons m2 ms2 =>
        have h2 := h.2
        dsimp only at h2
        cases r with
        | nil => unfold chkBo at h2; cases h2
        | cons e2 r2 =>
          have ih := snBo (.cons m2 ms2) c op (e2 :: r2) pos h2
          unfold wpBo
          cases op with
          | And => exact ld_and c.k (snE m c e h.1) ih
          | Or => exact ld_or c.k (snE m c e h.1) ih
theorem snT : ∀ (t : MT) {X : Cx} {sc : Scope} {fs : Str → Bool} {B : Bs} {W : WD} {xo : XO} {hot : Bool} (c : Ct X G cs N sc fs B W xo hot) (e : Expr), chkT t ⟨G.toCf, cs, N, sc, fs, hot⟩ e = true → PT X e (liftT G B (wpT cs W xo t))
  | .cmp o a b, X, sc, fs, B, W, xo, hot, c, e, h => by
    unfold chkT at h
    unfold wpT
    split at h
    · simp only [Bool.and_eq_true, decide_eq_true_eq] at h
      obtain ⟨⟨⟨rfl, h1⟩, h2⟩, h3⟩ := h
      exact lt_cmp (cmp_bl _) (cmp_ok c.k _) (snE a c _ h1) (snE b c _ h2) h3
    · cases h
  | .chn o o' a b d, X, sc, fs, B, W, xo, hot, c, e, h => by
    unfold chkT at h
    unfold wpT
    split at h
    · simp only [Bool.and_eq_true, decide_eq_true_eq] at h
      obtain ⟨⟨⟨⟨⟨rfl, rfl⟩, h1⟩, h2⟩, h3⟩, h4⟩ := h
      exact lt_chn (cmp_bl _) (cmp_ok c.k _) (cmp_ok c.k _) (snE a c _ h1) (snE b c _ h2) (snE d c _ h3) h4
    · cases h
  | .val m, X, sc, fs, B, W, xo, hot, c, e, h => by
    unfold chkT at h
    rw [Bool.and_eq_true] at h
    unfold wpT
    exact lt_val c.k (snE m c e h.1) h.2
  | .bo k ts, X, sc, fs, B, W, xo, hot, c, e, h => by
    unfold chkT at h
    unfold wpT
    split at h
    · simp only [Bool.and_eq_true, decide_eq_true_eq] at h
      obtain ⟨rfl, h2⟩ := h
      exact (snTs ts c _ _ _ h2).pt
    · cases h
  | .not t, X, sc, fs, B, W, xo, hot, c, e, h => by
    unfold chkT at h
    unfold wpT
    split at h
    · exact lt_not (snT t c _ h)
    · cases h
theorem snTs : ∀ (ms : MTs) {X : Cx} {sc : Scope} {fs : Str → Bool} {B : Bs} {W : WD} {xo : XO} {hot : Bool} (c : Ct X G cs N sc fs B W xo hot) (op : BoolOp) (es : List Expr) (pos : Pos), chkTs ms ⟨G.toCf, cs, N, sc, fs, hot⟩ es = true → PW X (.BoolOp op es pos) (liftT G B (wpTs cs W xo (opK op) ms))
  | .nil, X, sc, fs, B, W, xo, hot, c, op, es, pos, h => by
    unfold chkTs at h
    cases h
  | .cons m ms, X, sc, fs, B, W, xo, hot, c, op, es, pos, h => by
    unfold chkTs at h
    cases es with
    | nil => cases h
    | cons e r =>
      dsimp only at h
      rw [Bool.and_eq_true] at h
      cases ms with
      | nil =>
        have h2 := h.2
        dsimp only at h2
        rw [List.isEmpty_iff] at h2; subst h2
        unfold wpTs
        exact lw_one (snT m c e h.1)
      | cons m2 ms2 =>
        have h2 := h.2
        dsimp only at h2
        cases r with
        | nil => unfold chkTs at h2; cases h2
        | cons e2 r2 =>
          have ih := snTs (.cons m2 ms2) c op (e2 :: r2) pos h2
          unfold wpTs
          cases op with
          | And => exact lw_and (snT m c e h.1) ih
          | Or => exact lw_or (snT m c e h.1) ih
theorem snIf : ∀ (ms : MTs) {X : Cx} {sc : Scope} {fs : Str → Bool} {B : Bs} {W : WD} {xo : XO} {hot : Bool} (c : Ct X G cs N sc fs B W xo hot) (es : List Expr), chkIf ms ⟨G.toCf, cs, N, sc, fs, hot⟩ es = true → PTs X es (liftT G B (wpIf cs W xo ms))
  | .nil, X, sc, fs, B, W, xo, hot, c, es, h => by
    unfold chkIf at h
    rw [List.isEmpty_iff] at h; subst h
    unfold wpIf
    exact ⟨fun pins s σ H Q I ⟨ρ, M, Q0, st, rs, rm, q, ok⟩ => pts_nil.run pins s σ H Q I (ok true M H q rm Step.rfl')⟩
  | .cons m ms, X, sc, fs, B, W, xo, hot, c, es, h => by
    unfold chkIf at h
    split at h
    · unfold wpIf
      exact pts_one (snT m c _ h)
    · cases h
theorem snI : ∀ (m : MI) {X : Cx} {sc : Scope} {fs : Str → Bool} {B : Bs} {W : WD} {xo : XO} {hot : Bool} (c : Ct X G cs N sc fs B W xo hot) (tg e : Expr), chkI m ⟨G.toCf, cs, N, sc, fs, hot⟩ e = true → plainE e = true → tgFor m tg = true → PI X tg e (liftI G B (wpI cs W xo m))
  | .of m, X, sc, fs, B, W, xo, hot, c, tg, e, h, hp, ht => by
    unfold chkI at h
    unfold wpI
    exact li_of c.k (snE m c e h)
  | .rng ms, X, sc, fs, B, W, xo, hot, c, tg, e, h, hp, ht => by
    unfold chkI at h
    unfold wpI
    split at h
    · rename_i f p args pos
      simp only [Bool.and_eq_true, decide_eq_true_eq, Bool.or_eq_true, beq_iff_eq] at h
      obtain ⟨⟨⟨rfl, h1⟩, h2⟩, h3⟩ := h
      obtain ⟨a1, a2⟩ := fre_ok c.k h1
      have hA := snA ms c _ h2
      have hpl := chkA_plain h2
      rcases h3 with h3 | h3
      · match args, h3, hA, hpl with
        | [a], _, hA, hpl =>
          unfold plainEs at hpl
          simp only [List.all_cons, List.all_nil, Bool.and_true] at hpl
          exact li_rng1 c.k a1 a2 hA hpl
      · match args, h3, hA, hpl with
        | [a, b], _, hA, hpl =>
          unfold plainEs at hpl
          simp only [List.all_cons, List.all_nil, Bool.and_true, Bool.and_eq_true] at hpl
          exact li_rng2 c.k a1 a2 hA hpl.1 hpl.2
    · cases h
  | .enu m, X, sc, fs, B, W, xo, hot, c, tg, e, h, hp, ht => by
    unfold chkI at h
    unfold wpI
    cases tg <;> first | cases ht | skip
    split at h
    · simp only [Bool.and_eq_true, decide_eq_true_eq] at h
      obtain ⟨⟨⟨rfl, h1⟩, h2⟩, h3⟩ := h
      obtain ⟨a1, a2⟩ := fre_ok c.k h1
      exact li_enu c.k a1 a2 (snE m c _ h2) h3
    · cases h
  | .zip a b, X, sc, fs, B, W, xo, hot, c, tg, e, h, hp, ht => by
    unfold chkI at h
    cases h
end
end
end DL
set_option Elab.async false
set_option linter.all false
set_option maxRecDepth 100000
set_option maxHeartbeats 2000000
/-! DL14: what is checked is so: statements. -/
namespace DL
open PySem PySem.Spec PyProof.Rows L2

def noComp : Expr → Bool | .ListComp .. => false | .SetComp .. => false | .DictComp .. => false | _ => true
theorem noComp_sw {e : Expr} {t : Option Expr} {l : Nat} {env : Env} (h : noComp e = true) : swapsWith e t l env = pure false := by
  cases e <;> first | rfl | cases h
/-- is a comprehension on the line of a plain local name its value's owner? -/
def swB (sc : Scope) (y : Str) (py pos : Pos) (scope : Scope) : Bool := decide (sc.names.lookup y = some .local) && (py.line == pos.line) && !(scope.names.any fun (n, k) => n == y && (k == .local || k == .cell))
theorem sw_lc {elt : Expr} {gs : List Comprehension} {scope : Scope} {pos py : Pos} {y : Str} {l : Nat} {env : Env} {sc : Scope} (hs : env.scope = sc) (hk : sc.kind = .function) : swapsWith (.ListComp elt gs scope pos) (some (.Name y py)) l env = pure (swB sc y py pos scope) := by
  have hb : env.blockKind = .function := by unfold Env.blockKind; rw [hs, hk]; rfl
  unfold swapsWith swB Env.kindOf
  rw [hs]
  simp only [hb, Expr.pos]
  have e : (sc.names.lookup y == some NameKind.local) = decide (sc.names.lookup y = some .local) := by
    cases q : sc.names.lookup y with
    | none => rfl
    | some k => cases k <;> rfl
  rw [e]
  rfl
def swNone (sc : Scope) (tg e : Expr) : Bool := match tg, e with
  | .Tuple ts _ _, .Tuple vs _ _ => !(ts.length == 2 || ts.length == 3) || (vs.length != ts.length) || ts.any fun
    | .Name x _ => decide (sc.names.lookup x ≠ some .local)
    | _ => true
  | .Tuple .., _ => true
  | .Name .., _ => true
  | _, _ => false
theorem filterMap_lt {α β : Type} {f : α → Option β} : ∀ {l : List α}, (l.any fun a => (f a).isNone) = true → (l.filterMap f).length ≠ l.length
  | [], h => by cases h
  | a :: l, h => by
    rw [List.any_cons, Bool.or_eq_true] at h
    have le : (l.filterMap f).length ≤ l.length := List.length_filterMap_le ..
    cases e : f a with
    | none => rw [List.filterMap_cons_none e, List.length_cons]; omega
    | some b =>
      rw [e] at h
      have ih := filterMap_lt (h.resolve_left (by simp))
      rw [List.filterMap_cons_some e, List.length_cons, List.length_cons]; omega
theorem swNone_ok {tg e : Expr} {env : Env} {sc : Scope} (hs : env.scope = sc) (h : swNone sc tg e = true) : swappedStores [tg] e env = pure none := by
  unfold swNone at h
  split at h
  · rename_i ts k p vs k2 p2
    unfold swappedStores
    dsimp only
    rw [Bool.or_eq_true, Bool.or_eq_true] at h
    split
    · rfl
    · rename_i c1
      split
      · rfl
      · rw [Bool.or_eq_true, Bool.or_eq_true, not_or, not_or] at c1
        have h3 := (h.resolve_left fun z => z.elim c1.1.1 c1.1.2)
        refine if_pos ?_
        rw [Bool.or_eq_true]
        left
        rw [bne_iff_ne]
        apply filterMap_lt
        rw [List.any_eq_true] at h3 ⊢
        obtain ⟨t, m, ht⟩ := h3
        refine ⟨t, m, ?_⟩
        split at ht
        · rename_i x q
          rw [decide_eq_true_eq] at ht
          have : (env.kindOf x == some NameKind.local) = false := by
            unfold Env.kindOf
            rw [hs]
            cases e : sc.names.lookup x with
            | none => rfl
            | some k => rw [e] at ht; cases k <;> first | rfl | exact absurd rfl ht
          simp [this]
        · rename_i hne
          cases t <;> first | rfl | (exact absurd rfl (hne _ _))
  · rename_i ts k p hne
    unfold swappedStores
    cases e <;> first | rfl | (exact absurd rfl (hne _ _ _))
  · rfl
  · cases h
def two (a b : Expr) : Bool := plainE a && plainE b && !(foldedForSure 8 a && foldedForSure 8 b) && !(constantsAlone 8 a && constantsAlone 8 b)
theorem sw2_ok {x y : Str} {px py pt pp : Pos} {kt k2 : Nat} {a b : Expr} {env : Env} {sc : Scope} (hs : env.scope = sc) (hk : sc.kind = .function) (hx : sc.names.lookup x = some .local) (hy : sc.names.lookup y = some .local) (ne : x ≠ y) (hl : (py.line == px.line) = true) (h : two a b = true) :
    swappedStores [.Tuple [.Name x px, .Name y py] kt pt] (.Tuple [a, b] k2 pp) env = pure (some [x, y]) := by
  unfold two at h
  simp only [Bool.and_eq_true, Bool.not_eq_true'] at h
  obtain ⟨⟨⟨h1, h2⟩, h3⟩, h4⟩ := h
  have hb : env.blockKind = .function := by unfold Env.blockKind; rw [hs, hk]; rfl
  have kx : env.kindOf x = some .local := by unfold Env.kindOf; rw [hs]; exact hx
  have ky : env.kindOf y = some .local := by unfold Env.kindOf; rw [hs]; exact hy
  have ne2 : (y == x) = false := by simp [Ne.symm ne]
  unfold swappedStores
  simp only [List.length_cons, List.length_nil, hb, List.any_cons, List.any_nil, List.head?_cons, Option.map_some, Option.getD_some, Expr.pos, List.filterMap_cons, List.filterMap_nil, kx, ky, hl, beq_self_eq_true, Bool.and_self, if_true, List.all_cons, List.all_nil, Bool.and_true, h3, h4]
  have e1 : [x, y].eraseDups = [x, y] := by
    rw [List.eraseDups_cons]
    simp [List.filter_cons, ne2, List.eraseDups_cons]
  have e2 : (y == x) = false := ne2
  simp [e1]
  intro z
  exfalso
  rcases z with z | z
  · cases a <;> first | exact absurd (show false = true from z) Bool.false_ne_true | exact absurd (show false = true from h1) Bool.false_ne_true
  · cases b <;> first | exact absurd (show false = true from z) Bool.false_ne_true | exact absurd (show false = true from h2) Bool.false_ne_true
theorem sw3_ok {x y z : Str} {px py pz pt pp : Pos} {kt k2 : Nat} {a b c : Expr} {env : Env} {sc : Scope} (hs : env.scope = sc) (hk : sc.kind = .function) (hx : sc.names.lookup x = some .local) (hy : sc.names.lookup y = some .local) (hz : sc.names.lookup z = some .local) (ne : x ≠ y) (nz : x ≠ z) (nyz : y ≠ z) (hl : (py.line == px.line) = true) (hl2 : (pz.line == px.line) = true)
    (h1 : plainE a = true) (h2 : plainE b = true) (h0 : plainE c = true) (h3 : (foldedForSure 8 a && (foldedForSure 8 b && foldedForSure 8 c)) = false) (h4 : (constantsAlone 8 a && (constantsAlone 8 b && constantsAlone 8 c)) = false) :
    swappedStores [.Tuple [.Name x px, .Name y py, .Name z pz] kt pt] (.Tuple [a, b, c] k2 pp) env = pure (some [x, y, z]) := by
  have hb : env.blockKind = .function := by unfold Env.blockKind; rw [hs, hk]; rfl
  have kx : env.kindOf x = some .local := by unfold Env.kindOf; rw [hs]; exact hx
  have ky : env.kindOf y = some .local := by unfold Env.kindOf; rw [hs]; exact hy
  have kz : env.kindOf z = some .local := by unfold Env.kindOf; rw [hs]; exact hz
  have ne2 : (y == x) = false := by simp [Ne.symm ne]
  have ne3 : (z == x) = false := by simp [Ne.symm nz]
  have ne4 : (z == y) = false := by simp [Ne.symm nyz]
  unfold swappedStores
  simp only [List.length_cons, List.length_nil, hb, List.any_cons, List.any_nil, List.head?_cons, Option.map_some, Option.getD_some, Expr.pos, List.filterMap_cons, List.filterMap_nil, kx, ky, kz, hl, hl2, beq_self_eq_true, Bool.and_self, if_true, List.all_cons, List.all_nil, Bool.and_true, h3, h4]
  have e1 : [x, y, z].eraseDups = [x, y, z] := by
    rw [List.eraseDups_cons]
    simp [List.filter_cons, ne2, ne3, ne4, List.eraseDups_cons]
  simp [e1]
  intro z
  exfalso
  rcases z with z | z | z
  · cases a <;> first | exact absurd (show false = true from z) Bool.false_ne_true | exact absurd (show false = true from h1) Bool.false_ne_true
  · cases b <;> first | exact absurd (show false = true from z) Bool.false_ne_true | exact absurd (show false = true from h2) Bool.false_ne_true
  · cases c <;> first | exact absurd (show false = true from z) Bool.false_ne_true | exact absurd (show false = true from h0) Bool.false_ne_true

mutual
def chkS : MS → CE → Stmt → Bool
  | .set tg m, E, st => match st with
    | .Assign [t] e _ => (match t, e with
      | .Name y py, .ListComp elt' [⟨tg', it', ifs', 0⟩] scope p2 => if swB E.sc y py p2 scope = true then (match tg, m with
        | .name i, .lc elt tg2 it ifs own => decide (E.N[i]? = some y) && decide (E.sc.names.lookup y = some .local) && !E.hot && blkC E.N E.sc scope own && decide (scope.kind = .function) && (tg2.slots.all fun i => (own.map (·.2)).contains i) && chkI it E it' && (plainE it' && tgFor it tg') && chkTg tg2 (E.blk scope) tg' && chkIf ifs (E.blk scope) ifs' && chkE elt (E.blk scope) elt'
        | _, _ => false) else chkTg tg E t && chkE m E e
      | _, _ => noComp e && chkTg tg E t && chkE m E e && swNone E.sc t e && plainT t)
    | _ => false
  | .par2 i j a b, E, st => match st with
    | .Assign [.Tuple [.Name x px, .Name y py] _ _] (.Tuple [a', b'] _ _) _ => !E.hot && decide (E.N[i]? = some x) && decide (E.N[j]? = some y) && decide (i ≠ j) && decide (x ≠ y) && decide (E.sc.names.lookup x = some .local) && decide (E.sc.names.lookup y = some .local) && (py.line == px.line) && two a' b' && chkE a E a' && chkE b E b'
    | _ => false
  | .par3 i j l a b c, E, st => match st with
    | .Assign [.Tuple [.Name x px, .Name y py, .Name z pz] _ _] (.Tuple [a', b', c'] _ _) _ => !E.hot && decide (E.N[i]? = some x) && decide (E.N[j]? = some y) && decide (E.N[l]? = some z) && decide (i ≠ j) && decide (i ≠ l) && decide (j ≠ l) && decide (x ≠ y) && decide (x ≠ z) && decide (y ≠ z) && decide (E.sc.names.lookup x = some .local) && decide (E.sc.names.lookup y = some .local) && decide (E.sc.names.lookup z = some .local) && (py.line == px.line) && (pz.line == px.line) && plainE a' && plainE b' && plainE c' &&
      !(foldedForSure 8 a' && (foldedForSure 8 b' && foldedForSure 8 c')) && !(constantsAlone 8 a' && (constantsAlone 8 b' && constantsAlone 8 c')) && chkE a E a' && chkE b E b' && chkE c E c'
    | _ => false
  | .setI o i m, E, st => match st with
    | .Assign [.Subscript o' i' _] e _ => chkE m E e && chkE o E o' && chkE i E i' && plainE i'
    | _ => false
  | .setF c f o m, E, st => match st with
    | .Assign [.Attribute o' nm _] e _ => chkE m E e && chkE o E o' && match E.cf.ct[c]? with
      | some ci => decide (ci.2[f]? = some nm)
      | none => false
    | _ => false
  | .aug i op m, E, st => match st with
    | .AugAssign (.Name x _) op' e _ => decide (op' = op) && E.sto x i && chkE m E e
    | _ => false
  | .augF c f o op m, E, st => match st with
    | .AugAssign (.Attribute o' nm _) op' e _ => decide (op' = op) && chkE o E o' && chkE m E e && match E.cf.ct[c]? with
      | some ci => decide (ci.2[f]? = some nm)
      | none => false
    | _ => false
  | .ex m, E, st => match st with
    | .Expr e _ => noComp e && chkE m E e
    | _ => false
  | .ret m, E, st => match st with
    | .Return (some e) _ => chkE m E e
    | _ => false
  | .retN, _, st => match st with
    | .Return none _ => true
    | _ => false
  | .ifS c a b, E, st => match st with
    | .If t p q _ => chkT c E t && chkSs a E p && chkSs b E q
    | _ => false
  | .whl c b, E, st => match st with
    | .While t p [] _ => !E.hot && chkT c E t && chkSs b E p
    | _ => false
  | .forS tg it b, E, st => match st with
    | .For t i p [] _ => !E.hot && chkTg tg E t && chkI it E i && (plainE i && tgFor it t) && chkSs b E p
    | _ => false
  | .brk, _, st => match st with
    | .Break _ => true
    | _ => false
  | .cnt, _, st => match st with
    | .Continue _ => true
    | _ => false
  | .pas, _, st => match st with
    | .Pass _ => true
    | _ => false
  | .rse c ms, E, st => match st with
    | .Raise (some (.Call (.Name x _) args [] _)) none _ => !E.hot && E.glo x && match E.cf.et[c]? with
      | some ei => decide (ei.1 = x) && match ei.2, args, ms with
        | none, [], .nil => true
        | some _, [a], .cons m .nil => chkE m E a && plainE a
        | _, _, _ => false
      | none => false
    | _ => false
  | .tryS b hs, E, st => match st with
    | .Try body hds [] [] _ => !E.hot && !hds.isEmpty && chkSs b E body && chkHs hs E hds
    | _ => false
def chkSs : MSs → CE → List Stmt → Bool
  | .nil, _, sts => sts.isEmpty
  | .cons m ms, E, sts => match sts with
    | st :: r => chkS m E st && chkSs ms E r
    | [] => false
def chkHs : MHs → CE → List ExceptHandler → Bool
  | .nil, _, hds => hds.isEmpty
  | .cons c nm b r, E, hds => match hds with
    | .ExceptHandler (some (.Name x _)) n' suite _ :: hds => E.glo x && (match E.cf.et[c]? with
      | some ei => decide (ei.1 = x)
      | none => false) && (match nm, n' with
        | none, none => true
        | some i, some n => decide (E.N[i]? = some n) && decide (E.sc.names.lookup n = some .local)
        | _, _ => false) && !suite.isEmpty && chkSs b { E with hot := true } suite && chkHs r E hds
    | _ => false
end
end DL
set_option Elab.async false
set_option linter.all false
set_option maxRecDepth 100000
set_option maxHeartbeats 2000000
/-! DL15: statements: what is checked is so. -/
namespace DL
open PySem PySem.Spec PyProof.Rows L2

/-- for statements -/
structure CtS (X : Cx) (hot : Bool) : Prop where
  hp : hot = false → PassesOwn (model X.prog X.w) X.A X.env X.xe
  st : X.stack = X.env :: X.outer
  fr : X.env.frame = some X.env.locals
/-- the suite's term for a clause -/
def clsTs (G : Cfg) (cs : Pk) (nm : Option Nat) (b : MSs) : Addr → Value → Option Addr → TS := fun a cls d D σ H => ∃ x B', RepX G B'.H x cls d ∧ RepM G B'.H B'.M ∧ liftS G B' (wpSs cs (fun _ _ _ => False) (nm.map fun _ => (a, x)) b) D σ H
section
variable {G : Cfg} {cs : Pk} {N : List Str}
theorem OkE.named {G : Cfg} {H : Hp} {M : Mem} {D0 : EndsD} {D1 : Ends} (ok : OkE G H M D0 D1) (i : Nat) : OkE G H M { nx := fun ρ' M' => D0.nx (ρ'.set i none) M', rt := D0.rt, bk := fun ρ' M' => D0.bk (ρ'.set i none) M', ct := fun ρ' M' => D0.ct (ρ'.set i none) M' } (outE D1 (some i)) :=
  ⟨fun ρ M σ H q rs m s => ok.nx _ _ _ _ q (rs.unset i) m s, ok.rt, fun ρ M σ H q rs m s => ok.bk _ _ _ _ q (rs.unset i) m s, fun ρ M σ H q rs m s => ok.ct _ _ _ _ q (rs.unset i) m s⟩
mutual
theorem snS : ∀ (m : MS) {X : Cx} {sc : Scope} {fs : Str → Bool} {B : Bs} {W : WD} {xo : XO} {hot : Bool} (c : Ct X G cs N sc fs B W xo hot) (s : CtS X hot) (st : Stmt), chkS m ⟨G.toCf, cs, N, sc, fs, hot⟩ st = true → PS X st (liftS G B (wpS cs W xo m))
  | .set tg m, X, sc, fs, B, W, xo, hot, c, s, st, h => by
    unfold chkS at h
    unfold wpS
    split at h
    · rename_i st' t e pos
      split at h
      · rename_i t' e' y py elt' tg' it' ifs' scope p2
        have hsw := sw_lc (elt := elt') (gs := [⟨tg', it', ifs', 0⟩]) (pos := p2) (py := py) (y := y) (scope := scope) (l := pos.line) c.k.eS c.kind
        split at h
        · rename_i hs1
          rw [hs1] at hsw
          split at h
          · rename_i tg0 m0 i elt tg2 it ifs own
            simp only [Bool.and_eq_true, decide_eq_true_eq] at h
            obtain ⟨⟨⟨⟨⟨⟨⟨⟨⟨⟨g1, g2⟩, h1⟩, h2⟩, h3⟩, h4⟩, h5⟩, h6⟩, h7⟩, h8⟩, h9⟩ := h
            have hot0 : hot = false := by simpa using h1
            subst hot0
            rw [blkSc] at h7 h8 h9
            refine (ls_setLc c.ok g1 g2 hsw (snI it c tg' _ h5 h6.1 h6.2) (blkOk_by h2) (fun i hi => ?_) (fun s H cc cl fp => snTg (c.blk h3) tg2 _ h7) (fun s H cc cl fp => snIf ifs (c.blk h3) _ h8) (fun s H cc cl fp => snE elt (c.blk h3) _ h9) h6.1).weak fun D σ H z => ?_
            · exact List.contains_iff_mem.mp (List.all_eq_true.mp h4 i hi)
            · obtain ⟨ρ, M, D0, st, rs, rm, q, ok⟩ := z
              unfold wpE wpTg at q
              exact ⟨ρ, M, D0, st, rs, rm, q, ok⟩
          · cases h
        · rename_i hs1
          rw [Bool.not_eq_true] at hs1
          rw [hs1] at hsw
          rw [Bool.and_eq_true] at h
          exact ls_asg (snE m c _ h.2) (snTg c tg _ h.1) hsw (by rfl) rfl
      · simp only [Bool.and_eq_true] at h
        obtain ⟨⟨⟨⟨h1, h2⟩, h3⟩, h4⟩, h5⟩ := h
        exact ls_asg (snE m c _ h3) (snTg c tg _ h2) (by unfold swapsWithSole; exact noComp_sw h1) (swNone_ok c.k.eS h4) h5
    · cases h
  | .par2 i j a b, X, sc, fs, B, W, xo, hot, c, s, st, h => by
    unfold chkS at h
    unfold wpS
    split at h
    · simp only [Bool.and_eq_true, decide_eq_true_eq] at h
      obtain ⟨⟨⟨⟨⟨⟨⟨⟨⟨⟨h0, h1⟩, h2⟩, h3⟩, h4⟩, h5⟩, h6⟩, h7⟩, h8⟩, h9⟩, h10⟩ := h
      have h8' := h8
      unfold two at h8'
      simp only [Bool.and_eq_true] at h8'
      exact ls_par2 (calm_of c h0) h1 h2 h3 h5 h6 (snE a c _ h9) (snE b c _ h10) h8'.1.1.1 h8'.1.1.2 (sw2_ok c.k.eS c.kind h5 h6 h4 h7 h8)
    · cases h
  | .par3 i j l a b d, X, sc, fs, B, W, xo, hot, c, s, st, h => by
    unfold chkS at h
    unfold wpS
    split at h
    · simp only [Bool.and_eq_true, decide_eq_true_eq, Bool.not_eq_true'] at h
      obtain ⟨⟨⟨⟨⟨⟨⟨⟨⟨⟨⟨⟨⟨⟨⟨⟨⟨⟨⟨⟨⟨⟨h0, h1⟩, h2⟩, h3⟩, h4⟩, h5⟩, h6⟩, h7⟩, h8⟩, h9⟩, h10⟩, h11⟩, h12⟩, h13⟩, h14⟩, h15⟩, h16⟩, h17⟩, h18⟩, h19⟩, h20⟩, h21⟩, h22⟩ := h
      exact ls_par3 (calm_of c (by simp [h0])) h1 h2 h3 h4 h5 h6 h10 h11 h12 (snE a c _ h20) (snE b c _ h21) (snE d c _ h22) h15 h16 h17 (sw3_ok c.k.eS c.kind h10 h11 h12 h7 h8 h9 h13 h14 h15 h16 h17 h18 h19)
    · cases h
  | .setI o i m, X, sc, fs, B, W, xo, hot, c, s, st, h => by
    unfold chkS at h
    unfold wpS
    split at h
    · simp only [Bool.and_eq_true] at h
      exact ls_setI c.k (snE m c _ h.1.1.1) (snE o c _ h.1.1.2) (snE i c _ h.1.2) h.2
    · cases h
  | .setF k f o m, X, sc, fs, B, W, xo, hot, c, s, st, h => by
    unfold chkS at h
    unfold wpS
    split at h
    · simp only [Bool.and_eq_true] at h
      obtain ⟨⟨h1, h2⟩, h3⟩ := h
      split at h3
      · rename_i ci eq
        rw [decide_eq_true_eq] at h3
        exact ls_setF c.k eq h3 (snE m c _ h1) (snE o c _ h2)
      · cases h3
    · cases h
  | .aug i op m, X, sc, fs, B, W, xo, hot, c, s, st, h => by
    unfold chkS at h
    unfold wpS
    split at h
    · simp only [Bool.and_eq_true, decide_eq_true_eq] at h
      obtain ⟨⟨rfl, h1⟩, h2⟩ := h
      obtain ⟨a1, a2, a3⟩ := sto_ok c h1
      exact ls_aug c.k a1 a2 a3 (snE m c _ h2)
    · cases h
  | .augF k f o op m, X, sc, fs, B, W, xo, hot, c, s, st, h => by
    unfold chkS at h
    unfold wpS
    split at h
    · simp only [Bool.and_eq_true, decide_eq_true_eq] at h
      obtain ⟨⟨⟨rfl, h1⟩, h2⟩, h3⟩ := h
      split at h3
      · rename_i ci eq
        rw [decide_eq_true_eq] at h3
        exact ls_augF c.k eq h3 (snE m c _ h2) (snE o c _ h1)
      · cases h3
    · cases h
  | .ex m, X, sc, fs, B, W, xo, hot, c, s, st, h => by
    unfold chkS at h
    unfold wpS
    split at h
    · rw [Bool.and_eq_true] at h
      exact ls_ex (snE m c _ h.2) (noComp_sw h.1)
    · cases h
  | .ret m, X, sc, fs, B, W, xo, hot, c, s, st, h => by
    unfold chkS at h
    unfold wpS
    split at h
    · exact ls_ret (snE m c _ h)
    · cases h
  | .retN, X, sc, fs, B, W, xo, hot, c, s, st, h => by
    unfold chkS at h
    unfold wpS
    split at h
    · exact ls_retN
    · cases h
  | .ifS t a b, X, sc, fs, B, W, xo, hot, c, s, st, h => by
    unfold chkS at h
    unfold wpS
    split at h
    · simp only [Bool.and_eq_true] at h
      exact ls_if (snT t c _ h.1.1) (snSs a c s _ h.1.2) (snSs b c s _ h.2)
    · cases h
  | .whl t b, X, sc, fs, B, W, xo, hot, c, s, st, h => by
    unfold chkS at h
    unfold wpS
    split at h
    · simp only [Bool.and_eq_true] at h
      exact ls_whl (s.hp (by simpa using h.1.1)) (snT t c _ h.1.2) (snSs b c s _ h.2)
    · cases h
  | .forS tg it b, X, sc, fs, B, W, xo, hot, c, s, st, h => by
    unfold chkS at h
    unfold wpS
    split at h
    · simp only [Bool.and_eq_true] at h
      obtain ⟨⟨⟨⟨h1, h2⟩, h3⟩, h4⟩, h5⟩ := h
      exact ls_for (calm_of c h1) (s.hp (by simpa using h1)) (snI it c _ _ h3 h4.1 h4.2) (snTg c tg _ h2) (snSs b c s _ h5) h4.1
    · cases h
  | .brk, X, sc, fs, B, W, xo, hot, c, s, st, h => by
    unfold chkS at h
    unfold wpS
    split at h
    · exact ls_brk
    · cases h
  | .cnt, X, sc, fs, B, W, xo, hot, c, s, st, h => by
    unfold chkS at h
    unfold wpS
    split at h
    · exact ls_cnt
    · cases h
  | .pas, X, sc, fs, B, W, xo, hot, c, s, st, h => by
    unfold chkS at h
    unfold wpS
    split at h
    · exact ls_pas
    · cases h
  | .rse k ms, X, sc, fs, B, W, xo, hot, c, s, st, h => by
    unfold chkS at h
    unfold wpS
    split at h
    · rename_i x p args p2 pos
      simp only [Bool.and_eq_true] at h
      obtain ⟨⟨h1, h2⟩, h3⟩ := h
      obtain ⟨k1, k2⟩ := gl_ok (E := CE.mk G.toCf cs N sc fs hot) c.k h2
      split at h3
      · rename_i ei eq
        rw [Bool.and_eq_true, decide_eq_true_eq] at h3
        obtain ⟨rfl, h4⟩ := h3
        obtain ⟨C0, F⟩ := c.xs.ok k ei eq
        split at h4
        · rename_i e0
          unfold wpA
          exact ls_rse0 (calm_of c h1) F eq e0 c.tk k1 k2
        · rename_i f a m e0
          rw [Bool.and_eq_true] at h4
          unfold wpA wpA
          exact ls_rse1 (calm_of c h1) F rfl rfl rfl eq e0 c.tk k1 (c.room3 (by simpa using h1)) (snE m c _ h4.1) h4.2
        · cases h4
      · cases h3
    · cases h
  | .tryS b hs, X, sc, fs, B, W, xo, hot, c, s, st, h => by
    unfold chkS at h
    unfold wpS
    split at h
    · rename_i body hds pos
      simp only [Bool.and_eq_true] at h
      obtain ⟨⟨⟨h1, h2⟩, h3⟩, h4⟩ := h
      have hot0 : hot = false := by simpa using h1
      subst hot0
      cases hds with
      | nil => cases h2
      | cons h0 hds =>
        obtain ⟨l, hl, go⟩ := snHs hs c s _ h4
        have z := ps_tryG (X := X) (body := body) (pos := pos) (tb := fun Wx D σ H => ∃ (B' : Bs) (W0 : WD), (∀ c d σ H, liftW G B' W0 c d σ H → Wx c d σ H) ∧ liftS G B' (wpSs cs W0 none b) D σ H) s.st s.fr (by rw [c.k.eN]; exact c.k.nd) c.tk
          (fun Wx pn xe tk hp => ⟨fun pins ss σ H D I ⟨B', W0, hw, q⟩ => by
            have tk' : Takes (X.tr pn xe) (liftW G B' W0) := tk.imp hw
            have c' : Ct (X.tr pn xe) G cs N sc fs B' W0 none false :=
              ⟨⟨c.k.eK, c.k.eM, c.k.eP, c.k.ew, c.k.eN, c.k.nd, c.k.eS, c.k.hu, c.k.fb, c.k.nc, c.k.gl⟩, c.kind, c.calm, c.fn, tk', c.cok, c.room, c.room3, c.xs, trivial⟩
            exact (snSs b c' ⟨fun _ => hp, s.st, s.fr⟩ body h3).run pins ss σ H D I q⟩) hl
        refine z.weak fun D σ H w => ?_
        obtain ⟨ρ, M, D0, st, rs, rm, q, ok⟩ := w
        exact ⟨⟨H, M⟩, wpHs cs W hs D0, fun cls d σ' H' w' => go D0 D H M st ok cls d σ' H' w', ρ, M, D0, Step.rfl', rs, rm, q, ok⟩
    · cases h
theorem snSs : ∀ (ms : MSs) {X : Cx} {sc : Scope} {fs : Str → Bool} {B : Bs} {W : WD} {xo : XO} {hot : Bool} (c : Ct X G cs N sc fs B W xo hot) (s : CtS X hot) (sts : List Stmt), chkSs ms ⟨G.toCf, cs, N, sc, fs, hot⟩ sts = true → PSs X sts (liftS G B (wpSs cs W xo ms))
  | .nil, X, sc, fs, B, W, xo, hot, c, s, sts, h => by
    unfold chkSs at h
    rw [List.isEmpty_iff] at h; subst h
    unfold wpSs
    exact lss_nil
  | .cons m ms, X, sc, fs, B, W, xo, hot, c, s, sts, h => by
    unfold chkSs at h
    cases sts with
    | nil => cases h
    | cons st r =>
      rw [Bool.and_eq_true] at h
      unfold wpSs
      exact lss_cons (snS m c s st h.1) (snSs ms c s r h.2)
theorem snHs : ∀ (hs : MHs) {X : Cx} {sc : Scope} {fs : Str → Bool} {B : Bs} {W : WD} {xo : XO} (c : Ct X G cs N sc fs B W xo false) (s : CtS X false) (hds : List ExceptHandler), chkHs hs ⟨G.toCf, cs, N, sc, fs, false⟩ hds = true →
    ∃ l : List Hd, HdsG X hds l ∧ ∀ (D0 : EndsD) (D1 : Ends) (H : Hp) (M : Mem), Step B.H B.M H M → OkE G H M D0 D1 → ∀ cls d σ' H', liftW G ⟨H, M⟩ (wpHs cs W hs D0) cls d σ' H' → wGen X.K (liftW G B W) D1 l cls d σ' H'
  | .nil, X, sc, fs, B, W, xo, c, s, hds, h => by
    unfold chkHs at h
    rw [List.isEmpty_iff] at h; subst h
    refine ⟨[], .nil, fun D0 D1 H M st ok cls d σ' H' w => ?_⟩
    obtain ⟨x, ρ, M', st', rx, rs, rm, q⟩ := w
    unfold wpHs at q
    exact ⟨x, ρ, M', st.trans st', rx, rs, rm, q⟩
  | .cons k nm b r, X, sc, fs, B, W, xo, c, s, hds, h => by
    unfold chkHs at h
    split at h
    · rename_i x np n' suite pos hds
      simp only [Bool.and_eq_true] at h
      obtain ⟨⟨⟨⟨⟨h1, h2⟩, h3⟩, h4⟩, h5⟩, h6⟩ := h
      obtain ⟨k1, k2⟩ := gl_ok (E := CE.mk G.toCf cs N sc fs false) c.k h1
      split at h2
      · rename_i ei eq
        rw [decide_eq_true_eq] at h2; subst h2
        obtain ⟨C0, F⟩ := c.xs.ok k ei eq
        obtain ⟨l, hl, go⟩ := snHs r c s hds h6
        have hnames : Names X ei.1 (.ref C0) := ⟨k1, k2, .inl (by rw [c.k.eM]; exact F.mg)⟩
        cases suite with
        | nil => cases h4
        | cons b0 suite =>
          have hsu : ∀ (a : Addr) (oe : Obj) (cls : Value) (d : Option Addr) (pn : List (Addr × Obj)), Zc cls d oe → (∃ vs, oe.data = .fields vs) → PSs (X.suite a ((a, oe) :: pn)) (b0 :: suite) (clsTs G cs nm b a cls d) := fun a oe cls d pn hz hfd => ⟨fun pins ss σ H D I ⟨x, B', rx, bm, q⟩ => by
            have hxo : XoOk (X.suite a ((a, oe) :: pn)) G B' (nm.map fun _ => (a, x)) := by
              cases nm with
              | none => trivial
              | some i => exact ⟨X, oe, pn, cls, d, rfl, hz, hfd, rx, bm⟩
            exact (snSs b (c.suite (D := Unit) hxo) ⟨(fun z => nomatch z), s.st, s.fr⟩ _ h5).run pins ss σ H D I q⟩
          refine ⟨(.ref C0, nm, clsTs G cs nm b) :: l, ?_, fun D0 D1 H M st ok cls d σ' H' w => ?_⟩
          · split at h3
            · exact .one hnames hsu hl
            · rename_i i n
              simp only [Bool.and_eq_true, decide_eq_true_eq] at h3
              exact .as hnames (by rw [c.k.eN]; exact h3.1) (by unfold Env.kindOf; rw [c.k.eS]; exact h3.2) hsu hl
            · cases h3
          · obtain ⟨x, ρ, M', st', rx, rs, rm, q⟩ := w
            obtain ⟨ej, CE, ej1, ej2, rfl, ej3⟩ := id rx
            refine ⟨cs.sub x.c k, ?_, fun hb a ha => ?_, fun hb => ?_⟩
            · rw [c.k.eK]
              exact c.xs.exm x.c k ej ei CE C0 ej1 eq ej2 F.mg
            · unfold wpHs at q
              rw [if_pos hb] at q
              have q := q a
              refine ⟨x, ⟨H', M'⟩, rx, rm, ?_⟩
              cases nm with
              | none => exact ⟨ρ, M', D0, Step.rfl', rs, rm, q, ok.on st'⟩
              | some i => exact ⟨ρ.set i (some (.obj a)), M', _, Step.rfl', rs.set i (RepD.obj.mpr rfl), rm, q, (ok.on st').named i⟩
            · unfold wpHs at q
              rw [if_neg (by rw [hb]; decide)] at q
              exact go D0 D1 H M st ok _ d σ' H' ⟨x, ρ, M', st', rx, rs, rm, q⟩
      · cases h2
    · cases h
end
end
end DL
set_option Elab.async false
set_option linter.all false
set_option maxRecDepth 100000
set_option maxHeartbeats 2000000
/-! DL16: defs; what the top leaves. -/
namespace DL
open PySem PySem.Spec PyProof.Rows L2

def startD (n : Nat) (ds : List D) : En := ds.map some ++ List.replicate (n - ds.length) none
theorem start_rep {K : PySem.W.Frag} {H : Hp} {N : List Str} {ds : List D} {vs : List V} (r : RepL K H ds vs) (hl : ds.length ≤ N.length) : RepS K H (startD N.length ds) (L2.start N vs) := by
  have l := r.length
  unfold startD L2.start
  refine ⟨by simp; omega, fun i d e => ?_⟩
  by_cases h : i < ds.length
  · rw [List.getElem?_append_left (by simpa using h), List.getElem?_map] at e
    cases q : ds[i]? with
    | none => rw [q] at e; cases e
    | some d' =>
      rw [q] at e
      cases e
      obtain ⟨v, ev, rv⟩ := r.get q
      refine ⟨v, ?_, rv⟩
      rw [List.getElem?_append_left (by simpa [← l] using h), List.getElem?_map, ev]
      rfl
  · rw [List.getElem?_append_right (by simpa using h), List.getElem?_replicate] at e
    split at e <;> cases e
/-- where a def's body ends -/
def endsF (Q0 : DK) : EndsD := { nx := fun _ M => ∃ M', Sub M' M ∧ Q0 .non M', rt := fun d M => ∃ M', Sub M' M ∧ Q0 d M' }
def wF (E0 : Ex → Mem → Prop) : WD := fun x _ M => ∃ M', Sub M' M ∧ E0 x M'
/-- what the top leaves -/
structure TopOk (P : Program) (w : World) (base : Heap) (G : Cfg) (sub : Nat → Nat → Bool) (fd : Nat → Option Str) : Prop where
  fb : ∀ x ∈ G.fb, G.mg x = none
  nc : ∀ ci ∈ G.ct, ClsOk G ci
  gl : ∀ p ∈ G.gl, ∃ u v, G.mg p.1 = some u ∧ RelV v u ∧ ∀ H, RepD G.K H p.2 v
  pw : P = G.P ∧ w = G.w
  xs : ∀ l, XsOk P w base G ⟨l, sub, fd⟩
theorem def_ok {P : Program} {w : World} {base : Heap} {G : Cfg} {sub : Nat → Nat → Bool} {fdx : Nat → Option Str} {l : List Cal} {x qual : Str} {params : Arguments} {body : List Stmt} {scope : Scope} {f : Addr} {fd : FuncData} {N ps : List Str} {k : Nat} {sp : SpD} {ms : MSs}
    (T : TopOk P w base G sub fdx) (F : FunD G.K x qual params body scope [] [] f fd) (S : FnScope N ps scope) (hc : chkSs ms ⟨G.toCf, ⟨l, sub, fdx⟩, N, scope, fun _ => true, false⟩ body = true)
    (hcs : ∀ c ∈ l, c.Ok P w G base) (hlev : ∀ c ∈ l, c.need ≤ k) (h3 : 3 ≤ k)
    (hsp : ∀ ds M Q0 E0, sp ds M Q0 E0 → ds.length = ps.length ∧ wpSs ⟨l, sub, fdx⟩ (wF E0) none ms (endsF Q0) (startD N.length ds) M) :
    FnOk P w G.K G.mg base (CX P w) (k + 1) f fd ps (liftSp G ps.length sp) := by
  have hpl : ps.length ≤ N.length := by have := congrArg List.length S.pre; rw [List.length_take] at this; omega
  refine F.ok S (fun vs H Q E h => ?_) (fun cdv A outer s H vs Q E hr h => ?_)
  · obtain ⟨ds, M, Q0, E0, e, r, m, q, _⟩ := h
    rw [← r.length, e]
  · obtain ⟨ds, M, Q0, E0, e, r, m, q, okQ, okX⟩ := h
    obtain ⟨_, hw⟩ := hsp ds M Q0 E0 q
    have tk0 := takes_of (X := cxOf (CX P w) P w G.K G.mg base N qual scope f cdv A outer s H E) (E := E) rfl rfl rfl rfl
    have tk : Takes (cxOf (CX P w) P w G.K G.mg base N qual scope f cdv A outer s H E) (liftW G ⟨H, M⟩ (wF E0)) := tk0.imp fun cls d σ H' ⟨x, ρ, M', st, rx, rs, rm, M'', sb, ee⟩ => okX x M'' H' cls d ee rx (rm.sub sb) (st.sub sb)
    have c : Ct (cxOf (CX P w) P w G.K G.mg base N qual scope f cdv A outer s H E) G ⟨l, sub, fdx⟩ N scope (fun _ => true) ⟨H, M⟩ (wF E0) none false :=
      ⟨⟨rfl, rfl, T.pw.1, T.pw.2, rfl, S.nd, rfl, hr.units, T.fb, T.nc, T.gl⟩, S.kind, fun _ => rfl, fun _ _ => rfl, tk, hcs, fun _ c hc => hr.mono (hlev c hc), fun _ => hr.mono h3, T.xs l, trivial⟩
    refine ⟨_, snSs ms c ⟨fun _ => passes_of rfl, rfl, rfl⟩ body hc, ?_⟩
    refine ⟨startD N.length ds, M, endsF Q0, Step.rfl', start_rep r (by rw [e]; exact hpl), m, hw, ⟨fun ρ' M' σ' H' ⟨M'', sb, q2⟩ rs2 m2 s2 => okQ .non M'' H' .non q2 (RepD.non.mpr rfl) (m2.sub sb) (s2.sub sb), fun d M' H' v ⟨M'', sb, q2⟩ r2 m2 s2 => okQ d M'' H' v q2 r2 (m2.sub sb) (s2.sub sb), fun _ _ _ _ z => z.elim, fun _ _ _ _ z => z.elim⟩⟩

/-! ### computable facts of the top -/
def glB (K : PySem.W.Frag) (p : Str × D) : Bool := match p.2 with
  | .int i => He.Fa.ok K (.int p.1 i)
  | .str l => He.Fa.ok K (.str p.1 (S l))
  | _ => false
theorem glB_ok {K : PySem.W.Frag} {h : Heap} {mg : Str → Option Value} (X : K.In h) (Gn : h.Ns mainGlobals mg) {p : Str × D} (e : glB K p = true) : ∃ u v, mg p.1 = some u ∧ RelV v u ∧ ∀ H, RepD K H p.2 v := by
  unfold glB at e
  split at e
  · rename_i i q
    obtain ⟨t, ht⟩ := He.int_ok X Gn e
    exact ⟨_, .int i, ht, ⟨t, rfl⟩, fun H => by rw [q]; exact RepD.int.mpr rfl⟩
  · rename_i l q
    obtain ⟨t, ht⟩ := He.str_ok X Gn e
    exact ⟨_, .str (S l), ht, ⟨t, rfl⟩, fun H => by rw [q]; exact RepD.str.mpr rfl⟩
  · cases e
def clB (K : PySem.W.Frag) (ci : Str × List Str) : Bool := He.Fa.ok K (.glo ci.1) && He.Fa.ok K (.cls ci.1) && (ci.2.all fun f => He.Fa.ok K (.noat ci.1 f)) && decide ci.2.Nodup && decide (ci.2.length ≤ 900)
theorem clB_ok {G : Cfg} {h : Heap} (X : G.K.In h) (Gn : h.Ns mainGlobals G.mg) {ci : Str × List Str} (e : clB G.K ci = true) : ClsOk G ci := by
  unfold clB at e
  simp only [Bool.and_eq_true, decide_eq_true_eq] at e
  obtain ⟨⟨⟨⟨h1, h2⟩, h3⟩, h4⟩, h5⟩ := e
  exact ⟨h4, h5, _, He.glo_ok X Gn h1, He.cls_ok h2, fun f hf => He.noat_ok (List.all_eq_true.mp h3 f hf)⟩
/-- an exception class without fields -/
def exB0 (K : PySem.W.Frag) (x : Str) : Bool := He.Fa.ok K (.glo x) && He.Fa.ok K (.exc x)
def icB (K : PySem.W.Frag) (D : Addr) : Bool := decide (PySem.W.findIn K (.ref D) "__getattribute__" = some (some (.builtin "BaseException.__getattribute__"))) && decide (PySem.W.findIn K (.ref D) "__getattr__" = some none) && decide (PySem.W.subIn K (.ref D) (.type "BaseException") = some true) && PySem.W.hasDictIn K D &&
  decide (PySem.W.findIn K (.ref D) "__class__" = some (some (.builtin "object.__class__"))) && decide (PySem.W.specialIn K (.builtin "object.__class__") "__get__" = some (some (.builtin "getset_descriptor.__get__"))) && decide (PySem.W.takesIn K (.builtin "object.__class__") = some true) && decide (PySem.W.mroIn K D (.type "object") = some true)
theorem icB_ok {K : PySem.W.Frag} {D : Addr} (e : icB K D = true) : ExcC K D := by
  unfold icB at e
  simp only [Bool.and_eq_true, decide_eq_true_eq] at e
  obtain ⟨⟨⟨⟨⟨⟨⟨h1, h2⟩, h3⟩, h4⟩, h5⟩, h6⟩, h7⟩, h8⟩ := e
  exact ⟨h1, h2, h3, h4, h5, h6, h7, h8⟩
def et0 (cf : Cf) : List Nat := (List.range cf.et.length).filter fun c => match cf.et[c]? with | some ei => ei.2.isNone | none => false
def etB (cf : Cf) (sub : Nat → Nat → Bool) (K : PySem.W.Frag) : Bool :=
  (List.range cf.et.length).all fun c => match cf.et[c]? with
    | some ei => He.Fa.ok K (.glo ei.1) && (match ei.2 with
        | none => He.Fa.ok K (.exc ei.1) && icB K (He.ga K ei.1) && decide (PySem.W.kitOne K (.ref (He.ga K ei.1)) (.type "ValueError") = some true)
        | some f => xfB K (He.ga K ei.1) && decide (PySem.W.findIn K (.ref (He.ga K ei.1)) f = some none)) &&
      (List.range cf.et.length).all fun c' => match cf.et[c']? with
        | some ei' => decide (PySem.W.exmOne K (.ref (He.ga K ei.1)) (.ref (He.ga K ei'.1)) = some (sub c c')) && (match ei.2 with
          | none => decide (PySem.W.kitOne K (.ref (He.ga K ei.1)) (.ref (He.ga K ei'.1)) = some (sub c c'))
          | some _ => true)
        | none => true
    | none => true
def topB (cf : Cf) (sub : Nat → Nat → Bool) (K : PySem.W.Frag) : Bool := (cf.fb.all fun x => He.Fa.ok K (.free x)) && (cf.ct.all fun ci => clB K ci) && (cf.gl.all fun p => glB K p) && etB cf sub K
def fdOf (cf : Cf) (c : Nat) : Option Str := match cf.et[c]? with
  | some ei => ei.2
  | none => none
theorem topB_ok {P : Program} {w : World} {base : Heap} {G : Cfg} {sub : Nat → Nat → Bool} (X : G.K.In base) (Gn : base.Ns mainGlobals G.mg) (e : topB G.toCf sub G.K = true) (pw : P = G.P ∧ w = G.w)
    (wi : ∀ ei ∈ G.et, ∀ f, ei.2 = some f → ExOk P w base G ei (He.ga G.K ei.1)) : TopOk P w base G sub (fdOf G.toCf) := by
  unfold topB at e
  simp only [Bool.and_eq_true] at e
  obtain ⟨⟨⟨e1, e2⟩, e3⟩, e4⟩ := e
  have at_ : ∀ {c : Nat} {ei : Str × Option Str}, G.et[c]? = some ei → He.Fa.ok G.K (.glo ei.1) = true ∧ ((match ei.2 with
        | none => He.Fa.ok G.K (.exc ei.1) && icB G.K (He.ga G.K ei.1) && decide (PySem.W.kitOne G.K (.ref (He.ga G.K ei.1)) (.type "ValueError") = some true)
        | some f => xfB G.K (He.ga G.K ei.1) && decide (PySem.W.findIn G.K (.ref (He.ga G.K ei.1)) f = some none)) = true) ∧
      ∀ (c' : Nat) ei', G.et[c']? = some ei' → PySem.W.exmOne G.K (.ref (He.ga G.K ei.1)) (.ref (He.ga G.K ei'.1)) = some (sub c c') ∧ (ei.2 = none → PySem.W.kitOne G.K (.ref (He.ga G.K ei.1)) (.ref (He.ga G.K ei'.1)) = some (sub c c')) := fun {c ei} h => by
    have lt : c < G.et.length := (List.getElem?_eq_some_iff.mp h).1
    unfold etB at e4
    have z := List.all_eq_true.mp e4 c (List.mem_range.mpr lt)
    rw [h] at z
    simp only [Bool.and_eq_true] at z
    obtain ⟨⟨z1, z2⟩, z3⟩ := z
    refine ⟨z1, z2, fun c' ei' h' => ?_⟩
    have lt' : c' < G.et.length := (List.getElem?_eq_some_iff.mp h').1
    have y := List.all_eq_true.mp z3 c' (List.mem_range.mpr lt')
    rw [h'] at y
    simp only [Bool.and_eq_true, decide_eq_true_eq] at y
    refine ⟨y.1, fun h0 => ?_⟩
    have y2 := y.2
    rw [h0] at y2
    exact of_decide_eq_true y2
  have ga_of : ∀ {c : Nat} {ei : Str × Option Str} {C : Addr}, G.et[c]? = some ei → G.mg ei.1 = some (.ref C) → C = He.ga G.K ei.1 := fun {c ei C} h hm => by
    have := He.glo_ok X Gn (at_ h).1
    rw [hm] at this
    exact Value.ref.inj (Option.some.inj this)
  refine ⟨fun x hx => He.free_ok X Gn (List.all_eq_true.mp e1 x hx), fun ci hci => clB_ok X Gn (List.all_eq_true.mp e2 ci hci), fun p hp => glB_ok X Gn (List.all_eq_true.mp e3 p hp), pw, fun l => ⟨fun c ei h => ?_, fun c ei h => by show fdOf _ c = _; unfold fdOf; rw [h], fun c c' ei ei' C C' h h' m m' => ?_, fun c c' ei ei' C C' h h' m m' h0 => ?_, fun c ei C h m h0 => ?_, fun c ei C f h m h0 => ?_⟩⟩
  · obtain ⟨z1, z2, z3⟩ := at_ h
    cases h0 : ei.2 with
    | none =>
      rw [h0] at z2
      simp only [Bool.and_eq_true] at z2
      obtain ⟨k1, k2, k3, k4⟩ := He.exc_ok z2.1.1
      exact ⟨_, He.glo_ok X Gn z1, k2, k3, k4, fun _ => k1, fun f hf => by rw [h0] at hf; cases hf⟩
    | some f => exact ⟨_, wi ei (List.mem_of_getElem? h) f h0⟩
  · rw [ga_of h m, ga_of h' m']; exact ((at_ h).2.2 c' ei' h').1
  · rw [ga_of h m, ga_of h' m']; exact ((at_ h).2.2 c' ei' h').2 h0
  · have z2 := (at_ h).2.1
    rw [h0] at z2
    simp only [Bool.and_eq_true, decide_eq_true_eq] at z2
    rw [ga_of h m]
    exact ⟨z2.2, icB_ok z2.1.2⟩
  · have z2 := (at_ h).2.1
    rw [h0] at z2
    simp only [Bool.and_eq_true, decide_eq_true_eq] at z2
    rw [ga_of h m]
    exact ⟨xfB_ok z2.1, z2.2⟩
/-! ### the Hook: defs, facts, a Bool -/
def obsEG (n : Nat) (fa : List He.Fa) (fn : List He.DefD) (ex : PySem.W.Frag → Bool) (g : Addr → Option Obj) : He.AlD × Bool := (He.obsDG n fa fn g, ex (He.frG g (He.asD g n)))
def hookE (n : Nat) (fa : List He.Fa) (fn : List He.DefD) (ex : PySem.W.Frag → Bool) : PySem.W.Hook where
  α := He.AlD × Bool
  obs := fun s => obsEG n fa fn ex s.heap.get?
  val := fun _ => (He.valD fn, true)
  says := fun _ h => ∃ K : PySem.W.Frag, K.In h ∧ He.SaysD fa fn K ∧ ex K = true
  of := fun _ _ e => ⟨_, He.frG_in, congrArg (fun z : He.AlD × Bool => z.1) e, congrArg (fun z : He.AlD × Bool => z.2) e⟩
  keeps := fun _ _ _ ⟨K, hK, c⟩ k => ⟨K, PySem.W.Frag.In.keeps hK k, c⟩
theorem obsEG_eq {n : Nat} {fa : List He.Fa} {fn : List He.DefD} {ex : PySem.W.Frag → Bool} {g : Addr → Option Obj} {s : Shared} (h : ∀ a, g a = s.heap.get? a) : obsEG n fa fn ex g = (hookE n fa fn ex).obs s := by
  have e : g = s.heap.get? := funext h
  rw [e] <;> rfl
end DL
set_option Elab.async false
set_option linter.all false
set_option maxRecDepth 100000
set_option maxHeartbeats 2000000
/-! DL17: the defs of a law, by their places in the head's lists. -/
namespace DL
open PySem PySem.Spec PyProof.Rows L2

structure LW (fa : List He.Fa) (fn : List He.DefD) (cf : Cf) (sub : Nat → Nat → Bool) (P : Program) (w : World) (base : Heap) (G : Cfg) : Prop where
  says : He.SaysD fa fn G.K
  kin : G.K.In base
  ns : base.Ns mainGlobals G.mg
  cfe : G.toCf = cf
  top : TopOk P w base G sub (fdOf cf)
/-- how the arguments are bound -/
abbrev BindOk (d : He.DefD) (ps : List Str) : Prop := ∀ (kV doc pm : Value) (an : Option Addr) (cdv ct : Value) (us : List Value), us.length = ps.length → bindArgs (PySem.W.fnOf d.name d.qual d.params d.body d.scope .none kV doc pm an cdv ct) ⟨us, []⟩ = pure (ps.zip us)
section
variable {fa : List He.Fa} {fn : List He.DefD} {cf : Cf} {sub : Nat → Nat → Bool} {P : Program} {w : World} {base : Heap} {G : Cfg}
theorem says_mem {K : PySem.W.Frag} (c : He.SaysD fa fn K) {f : He.Fa} (h : f ∈ fa) : f.ok K = true := by
  obtain ⟨i, hi, e⟩ := List.mem_iff_getElem.mp h
  exact c.fact i (f := f) (by rw [List.getElem?_eq_getElem hi, e])
/-- what is asked of a def -/
structure DefOk (cf : Cf) (sub : Nat → Nat → Bool) (d : He.DefD) (N ps : List Str) (k : Nat) (sp : SpD) (ms : MSs) (l : List Cal) : Prop where
  dfl : d.dfl = [] ∧ d.kwd = []
  sc : FnScope N ps d.scope
  bd : BindOk d ps
  chk : chkSs ms ⟨cf, ⟨l, sub, fdOf cf⟩, N, d.scope, fun _ => true, false⟩ d.body = true
  lev : ∀ c ∈ l, c.need ≤ k
  three : 3 ≤ k
  sp : ∀ ds M Q0 E0, sp ds M Q0 E0 → ds.length = ps.length ∧ wpSs ⟨l, sub, fdOf cf⟩ (wF E0) none ms (endsF Q0) (startD N.length ds) M
theorem LW.fnOk (L : LW fa fn cf sub P w base G) {d : He.DefD} {N ps : List Str} {k : Nat} {sp : SpD} {ms : MSs} {l : List Cal} (i : Nat) (hd : fn[i]? = some d) (D : DefOk cf sub d N ps k sp ms l) (hcs : ∀ c ∈ l, c.Ok P w G base) :
    ∃ fd, PySem.W.keepIn G.K (.ref (He.fAd G.K d.at_)) = true ∧ Binds G.K fd ps [] ∧ FnOk P w G.K G.mg base (CX P w) (k + 1) (He.fAd G.K d.at_) fd ps (liftSp G ps.length sp) := by
  obtain ⟨fd, F⟩ := L.says.def_ i hd
  have e1 : d.dvs G.K = [] := by unfold He.DefD.dvs; rw [D.dfl.1]; rfl
  have e2 : d.kws G.K = [] := by unfold He.DefD.kws; rw [D.dfl.2]; rfl
  rw [e1, e2] at F
  have cfe := L.cfe
  subst cfe
  exact ⟨fd, F.kp, F.bindsN D.bd, def_ok L.top F D.sc D.chk hcs D.lev D.three D.sp⟩
theorem LW.fn_ (L : LW fa fn cf sub P w base G) {d : He.DefD} {N ps : List Str} {k : Nat} {sp : SpD} {ms : MSs} {l : List Cal} {nm : Str} (i : Nat) (hd : fn[i]? = some d) (hat : d.at_ = (nm, none)) (hg : He.Fa.glo nm ∈ fa) (D : DefOk cf sub d N ps k sp ms l) (hcs : ∀ c ∈ l, c.Ok P w G base) :
    (Cal.mk .fn nm ps.length (k + 1) sp).Ok P w G base := by
  obtain ⟨fd, kp, b, F⟩ := L.fnOk i hd D hcs
  refine ⟨_, fd, ps, ?_, kp, b, rfl, F⟩
  rw [hat]
  exact He.glo_ok L.kin L.ns (says_mem L.says hg)
theorem LW.me (L : LW fa fn cf sub P w base G) {d : He.DefD} {N ps : List Str} {k : Nat} {sp : SpD} {ms : MSs} {l : List Cal} {cn nm : Str} {fs : List Str} {kc : Nat} (i : Nat) (hd : fn[i]? = some d) (hat : d.at_ = (cn, some nm)) (hct : cf.ct[kc]? = some (cn, fs)) (hnf : nm ∉ fs) (hm : He.Fa.meth cn nm ∈ fa) (hg : He.Fa.glo cn ∈ fa) (hc : He.Fa.cls cn ∈ fa) (D : DefOk cf sub d N ps k sp ms l) (hcs : ∀ c ∈ l, c.Ok P w G base) :
    (Cal.mk (.me kc) nm ps.length (k + 1) sp).Ok P w G base := by
  obtain ⟨fd, kp, b, F⟩ := L.fnOk i hd D hcs
  refine ⟨(cn, fs), He.ga G.K cn, _, fd, ps, by rw [L.cfe]; exact hct, He.glo_ok L.kin L.ns (says_mem L.says hg), He.cls_ok (says_mem L.says hc), ?_, hnf, b, rfl, F⟩
  rw [hat]
  exact He.meth_ok (says_mem L.says hm)
theorem LW.mk_ (L : LW fa fn cf sub P w base G) {d : He.DefD} {N ps : List Str} {k : Nat} {sp : SpD} {ms : MSs} {l : List Cal} {cn : Str} {fs : List Str} {kc : Nat} (i : Nat) (hd : fn[i]? = some d) (hat : d.at_ = (cn, some ("__init__" : Str))) (hct : cf.ct[kc]? = some (cn, fs)) (hm : He.Fa.mkr cn ∈ fa) (hg : He.Fa.glo cn ∈ fa) (D : DefOk cf sub d N ps k sp ms l) (hcs : ∀ c ∈ l, c.Ok P w G base) :
    (Cal.mk (.mk kc) cn ps.length (k + 1) sp).Ok P w G base := by
  obtain ⟨fd, kp, b, F⟩ := L.fnOk i hd D hcs
  refine ⟨(cn, fs), He.ga G.K cn, _, fd, ps, by rw [L.cfe]; exact hct, rfl, He.glo_ok L.kin L.ns (says_mem L.says hg), ?_, b, rfl, F⟩
  rw [hat]
  exact He.mkr_ok (says_mem L.says hm)
end
end DL
set_option Elab.async false
set_option linter.all false
set_option maxRecDepth 100000
set_option maxHeartbeats 1000000
/-! DL18: reasoning about what terms ask. -/
namespace DL
open PySem PySem.Spec PyProof.Rows L2

section
variable {cs : Pk} {W : WD} {xo : XO} {D0 : EndsD} {ρ : En} {M : Mem}
theorem wp_nil (h : D0.nx ρ M) : wpSs cs W xo .nil D0 ρ M := by unfold wpSs; exact h
theorem wp_cons {s : MS} {r : MSs} (h : wpS cs W xo s { D0 with nx := fun ρ' M' => wpSs cs W xo r D0 ρ' M' } ρ M) : wpSs cs W xo (.cons s r) D0 ρ M := by
  unfold wpSs; exact ⟨_, h, fun _ M' h' => ⟨M', Sub.rfl', h'⟩⟩
theorem wp_last {s : MS} (h : wpS cs W xo s D0 ρ M) : wpSs cs W xo (.cons s .nil) D0 ρ M := by
  unfold wpSs; exact ⟨D0.nx, h, fun _ M' h' => ⟨M', Sub.rfl', wp_nil h'⟩⟩
/-- with a word between -/
theorem wp_cut {s : MS} {r : MSs} (Mid : En → Mem → Prop) (h : wpS cs W xo s { D0 with nx := Mid } ρ M) (k : ∀ ρ' M', Mid ρ' M' → ∃ M'', Sub M'' M' ∧ wpSs cs W xo r D0 ρ' M'') : wpSs cs W xo (.cons s r) D0 ρ M := by
  unfold wpSs; exact ⟨Mid, h, k⟩
theorem rt_of {Q0 : DK} {d : D} {M M' : Mem} (h : Q0 d M') (s : Sub M' M) : (endsF Q0).rt d M := ⟨M', s, h⟩
end
/-! ### classes of data -/
def isI : D → Bool | .int _ => true | _ => false
def isB : D → Bool | .bl _ => true | _ => false
def isS : D → Bool | .str _ => true | _ => false
def isTp : D → Bool | .tup _ => true | _ => false
def isL (M : Mem) : D → Bool | .obj a => (match M a with | some (.lst _) => true | some (.ro _) => true | _ => false) | _ => false
/-- known data -/
def kn (M : Mem) (d : D) : Bool := (tyD M d).isSome
theorem kb1 : kitB "NoneType" "int" = some false ∧ kitB "bool" "int" = some true ∧ kitB "int" "int" = some true ∧ kitB "str" "int" = some false ∧ kitB "tuple" "int" = some false ∧ kitB "list" "int" = some false ∧ kitB "dict" "int" = some false := by decide +kernel
theorem kb2 : kitB "NoneType" "bool" = some false ∧ kitB "bool" "bool" = some true ∧ kitB "int" "bool" = some false ∧ kitB "str" "bool" = some false ∧ kitB "tuple" "bool" = some false ∧ kitB "list" "bool" = some false ∧ kitB "dict" "bool" = some false := by decide +kernel
theorem kb3 : kitB "NoneType" "str" = some false ∧ kitB "bool" "str" = some false ∧ kitB "int" "str" = some false ∧ kitB "str" "str" = some true ∧ kitB "tuple" "str" = some false ∧ kitB "list" "str" = some false ∧ kitB "dict" "str" = some false := by decide +kernel
theorem kb4 : kitB "NoneType" "tuple" = some false ∧ kitB "bool" "tuple" = some false ∧ kitB "int" "tuple" = some false ∧ kitB "str" "tuple" = some false ∧ kitB "tuple" "tuple" = some true ∧ kitB "list" "tuple" = some false ∧ kitB "dict" "tuple" = some false := by decide +kernel
theorem kb5 : kitB "NoneType" "list" = some false ∧ kitB "bool" "list" = some false ∧ kitB "int" "list" = some false ∧ kitB "str" "list" = some false ∧ kitB "tuple" "list" = some false ∧ kitB "list" "list" = some true ∧ kitB "dict" "list" = some false := by decide +kernel
/-- what isinstance tells -/
def isX (T : String) (M : Mem) (d : D) : Bool := if T = "int" then isI d || isB d else if T = "bool" then isB d else if T = "str" then isS d else if T = "tuple" then isTp d else isL M d
theorem kit_of_ty {M : Mem} {d : D} {U : String} (h : tyD M d = some U) : kitB U "int" = some (isI d || isB d) ∧ kitB U "bool" = some (isB d) ∧ kitB U "str" = some (isS d) ∧ kitB U "tuple" = some (isTp d) ∧ kitB U "list" = some (isL M d) := by
  obtain ⟨a1, a2, a3, a4, a5, a6, a7⟩ := kb1
  obtain ⟨b1, b2, b3, b4, b5, b6, b7⟩ := kb2
  obtain ⟨c1, c2, c3, c4, c5, c6, c7⟩ := kb3
  obtain ⟨d1, d2, d3, d4, d5, d6, d7⟩ := kb4
  obtain ⟨e1, e2, e3, e4, e5, e6, e7⟩ := kb5
  cases d with
  | non => cases h; exact ⟨a1, b1, c1, d1, e1⟩
  | bl b => cases h; exact ⟨a2, b2, c2, d2, e2⟩
  | int b => cases h; exact ⟨a3, b3, c3, d3, e3⟩
  | str b => cases h; exact ⟨a4, b4, c4, d4, e4⟩
  | tup b => cases h; exact ⟨a5, b5, c5, d5, e5⟩
  | obj a =>
    have h' : (match M a with | some (.lst _) => some "list" | some (.ro _) => some "list" | some (.dct _) => some "dict" | _ => none) = some U := h
    unfold isL
    dsimp only
    split at h'
    · rename_i q; cases h'; rw [q]; exact ⟨a6, b6, c6, d6, e6⟩
    · rename_i q; cases h'; rw [q]; exact ⟨a6, b6, c6, d6, e6⟩
    · rename_i q; cases h'; rw [q]; exact ⟨a7, b7, c7, d7, e7⟩
    · cases h'
section
variable {M : Mem} {Q : DK} {d : D}
theorem isi_kn {T : String} {r : Bool} (hk : kn M d = true) (h : ∀ U, tyD M d = some U → kitB U T = some r) : vIsi T d M Q = Q (.bl r) M := by
  unfold kn at hk
  obtain ⟨U, e⟩ := Option.isSome_iff_exists.mp hk
  unfold vIsi
  rw [e]
  dsimp only
  rw [h U e]
theorem isi_int (hk : kn M d = true) : vIsi "int" d M Q = Q (.bl (isI d || isB d)) M := isi_kn hk fun U e => (kit_of_ty e).1
theorem isi_bool (hk : kn M d = true) : vIsi "bool" d M Q = Q (.bl (isB d)) M := isi_kn hk fun U e => (kit_of_ty e).2.1
theorem isi_str (hk : kn M d = true) : vIsi "str" d M Q = Q (.bl (isS d)) M := isi_kn hk fun U e => (kit_of_ty e).2.2.1
theorem isi_tup (hk : kn M d = true) : vIsi "tuple" d M Q = Q (.bl (isTp d)) M := isi_kn hk fun U e => (kit_of_ty e).2.2.2.1
theorem isi_list (hk : kn M d = true) : vIsi "list" d M Q = Q (.bl (isL M d)) M := isi_kn hk fun U e => (kit_of_ty e).2.2.2.2
theorem isit_tl (hk : kn M d = true) : vIsit ["tuple", "list"] d M Q = Q (.bl (isTp d || isL M d)) M := by
  unfold kn at hk
  obtain ⟨U, e⟩ := Option.isSome_iff_exists.mp hk
  obtain ⟨_, _, _, h4, h5⟩ := kit_of_ty e
  unfold vIsit
  rw [e]
  dsimp only
  unfold kitsB
  rw [h4]
  cases isTp d with
  | true => rfl
  | false =>
    dsimp only
    unfold kitsB
    rw [h5]
    cases isL M d with
    | true => rfl
    | false => dsimp only; unfold kitsB; rfl
end
/-! ### known things -/
inductive Kw (M : Mem) : D → Prop
  | non : Kw M .non
  | bl (b : Bool) : Kw M (.bl b)
  | int (i : Int) : Kw M (.int i)
  | str (l : List Nat) (h : l.length ≤ 1048576) : Kw M (.str l)
  | tup (xs : List D) (h : xs.length ≤ 1048576) (k : ∀ x ∈ xs, Kw M x) : Kw M (.tup xs)
  | obj (a : Addr) (h : kn M (.obj a) = true) : Kw M (.obj a)
theorem Kw.kn {M : Mem} {d : D} (h : Kw M d) : kn M d = true := by
  cases h with
  | obj a h => exact h
  | _ => rfl
theorem Kw.tup' {M : Mem} {xs : List D} (h : Kw M (.tup xs)) : xs.length ≤ 1048576 ∧ ∀ x ∈ xs, Kw M x := by
  cases h with
  | tup _ h k => exact ⟨h, k⟩
theorem kn_up {M M' : Mem} (h : ∀ a, DL.kn M (.obj a) = true → DL.kn M' (.obj a) = true) {d : D} (k : DL.kn M d = true) : DL.kn M' d = true := by
  cases d with
  | obj a => exact h a k
  | _ => rfl
theorem Kw.up {M M' : Mem} (h : ∀ a, DL.kn M (.obj a) = true → DL.kn M' (.obj a) = true) : ∀ {d : D}, Kw M d → Kw M' d := by
  intro d k
  induction k with
  | non => exact .non
  | bl b => exact .bl b
  | int i => exact .int i
  | str l h => exact .str l h
  | tup xs h k ih => exact .tup xs h ih
  | obj a k => exact .obj a (h a k)
theorem kn_sub {M M' : Mem} (s : Sub M M') (a : Addr) (h : DL.kn M (.obj a) = true) : DL.kn M' (.obj a) = true := by
  have h' : (match M a with | some (.lst _) => some "list" | some (.ro _) => some "list" | some (.dct _) => some "dict" | _ => (none : Option String)).isSome = true := h
  show (match M' a with | some (.lst _) => some "list" | some (.ro _) => some "list" | some (.dct _) => some "dict" | _ => (none : Option String)).isSome = true
  cases e : M a with
  | none => rw [e] at h'; simp at h'
  | some o => rw [s a o e]; rw [e] at h'; exact h'
theorem Kw.sub {M M' : Mem} (s : Sub M M') {d : D} (k : Kw M d) : Kw M' d := k.up (kn_sub s)
theorem rdL_new {M : Mem} {p : Addr} {xs : List D} : rdL (mup M p (.lst xs)) p = some xs := by unfold rdL; rw [mup_same]
theorem rdL_sub {M M' : Mem} (s : Sub M M') {a : Addr} {xs : List D} (h : rdL M a = some xs) : rdL M' a = some xs := by
  unfold rdL at h ⊢
  cases e : M a with
  | none => rw [e] at h; cases h
  | some o => rw [s a o e]; rw [e] at h; exact h
theorem mapM_asBl {f : D → Bool} (xs : List D) : (xs.map fun x => D.bl (f x)).mapM asBl = some (xs.map f) := by
  have := asBl_map (xs.map f)
  rw [List.map_map] at this
  exact this
/-! ### comprehensions -/
theorem lc_pure {tg : D → En → (En → Prop) → Prop} {ifs : TDT} {elt : TD} {ρ : En} {ok : Mem → Prop} {M : Mem} (f : D → D) (g : D → Bool) (hok : ok M) : ∀ (xs acc : List D) (Q : List D → Mem → Prop), acc.length + xs.length ≤ big →
    (∀ d ∈ xs, ∀ (K1 : D → Mem → Prop) (K2 : Mem → Prop), (g d = true → K1 (f d) M) → (g d = false → K2 M) → tg d ρ fun ρ' => ifs ρ' M fun b M2 => if b = true then elt ρ' M2 K1 else K2 M2) →
    Q (acc ++ (xs.filter g).map f) M → lcGo tg ifs elt ρ ok xs acc M Q
  | [], acc, Q, hl, h, q => by
    unfold lcGo
    simp at q
    exact ⟨hok, q⟩
  | d :: xs, acc, Q, hl, h, q => by
    unfold lcGo
    refine ⟨hok, h d (List.mem_cons_self ..) (fun v M3 => acc.length < big ∧ lcGo tg ifs elt ρ ok xs (acc ++ [v]) M3 Q) (fun M2 => lcGo tg ifs elt ρ ok xs acc M2 Q) (fun hg => ?_) fun hg => ?_⟩
    · rw [List.length_cons] at hl
      refine ⟨by omega, lc_pure f g hok xs (acc ++ [f d]) Q (by simp; omega) (fun d' hd' => h d' (List.mem_cons_of_mem _ hd')) ?_⟩
      rw [List.filter_cons_of_pos hg] at q
      simpa using q
    · rw [List.length_cons] at hl
      refine lc_pure f g hok xs acc Q (by omega) (fun d' hd' => h d' (List.mem_cons_of_mem _ hd')) ?_
      rw [List.filter_cons_of_neg (by simp [hg])] at q
      exact q
theorem lc_inv {tg : D → En → (En → Prop) → Prop} {ifs : TDT} {elt : TD} {ρ : En} {ok : Mem → Prop} {xs : List D} {Q : List D → Mem → Prop} {M : Mem} (P : Nat → List D → Mem → Prop) (hok : ∀ i acc M, P i acc M → ok M)
    (hs : ∀ i d acc M (Kn : List D → Mem → Prop), xs[i]? = some d → P i acc M → (∀ acc' M', P (i + 1) acc' M' → Kn acc' M') → tg d ρ fun ρ' => ifs ρ' M fun b M2 => if b = true then elt ρ' M2 fun v M3 => acc.length < big ∧ Kn (acc ++ [v]) M3 else Kn acc M2)
    (h0 : P 0 [] M) (hq : ∀ acc M', P xs.length acc M' → Q acc M') : lcGo tg ifs elt ρ ok xs [] M Q := by
  have key : ∀ (ys : List D) (i : Nat) (acc : List D) (M : Mem), xs.drop i = ys → i + ys.length = xs.length → P i acc M → lcGo tg ifs elt ρ ok ys acc M Q := by
    intro ys
    induction ys with
    | nil =>
      intro i acc M e hl p
      unfold lcGo
      rw [List.length_nil, Nat.add_zero] at hl
      subst hl
      exact ⟨hok _ _ _ p, hq _ _ p⟩
    | cons d ys ih =>
      intro i acc M e hl p
      unfold lcGo
      have hd : xs[i]? = some d := by
        have := congrArg (fun l => l[0]?) e
        simpa using this
      have he : xs.drop (i + 1) = ys := by
        have := congrArg List.tail e
        simpa using this
      refine ⟨hok _ _ _ p, hs i d acc M (fun acc' M' => lcGo tg ifs elt ρ ok ys acc' M' Q) hd p fun acc' M' p' => ?_⟩
      exact ih (i + 1) acc' M' he (by rw [List.length_cons] at hl; omega) p'
  exact key xs 0 [] M (by simp) (by simp) h0
/-- a comprehension without a test, whose parts change nothing -/
theorem lc_map {tg : D → En → (En → Prop) → Prop} {elt : TD} {ρ : En} {ok : Mem → Prop} {M : Mem} (f : D → D) (hok : ok M) (xs : List D) (Q : List D → Mem → Prop) (hl : xs.length ≤ big)
    (h : ∀ d ∈ xs, ∀ (K1 : D → Mem → Prop), K1 (f d) M → tg d ρ fun ρ' => elt ρ' M K1) (q : Q (xs.map f) M) : lcGo tg (fun _ M Q => Q true M) elt ρ ok xs [] M Q := by
  refine lc_pure f (fun _ => true) hok xs [] Q (by simpa using hl) (fun d hd K1 K2 h1 _ => ?_) (by rw [List.filter_eq_self.mpr fun _ _ => rfl]; simpa using q)
  simpa using h d hd K1 (h1 rfl)
/-! ### indices -/
theorem atI_nat {α : Type} {xs : List α} {k : Nat} {d : α} (h : xs[k]? = some d) : atI xs (k : Int) = some d := by
  have hk := (List.getElem?_eq_some_iff.mp h).1
  unfold atI ixN
  have h1 : (0 : Int) ≤ (k : Int) := by omega
  have h2 : (k : Int) < (xs.length : Int) := by omega
  have h3 := (List.getElem?_eq_some_iff.mp h).2
  simp [h1, h2, h, hk, h3]
theorem vGet_tup {M : Mem} {Q : DK} {xs : List D} {k : Nat} {d : D} (h : xs[k]? = some d) : vGet (.tup xs) (.int (k : Int)) M Q = Q d M := by
  unfold vGet vIdx isDct
  simp only [Bool.false_eq_true, if_false, atI_nat h]
theorem vGet_0 {M : Mem} {Q : DK} {d : D} {xs : List D} : vGet (.tup (d :: xs)) (.int 0) M Q = Q d M := vGet_tup (k := 0) rfl
theorem vGet_1 {M : Mem} {Q : DK} {c d : D} {xs : List D} : vGet (.tup (c :: d :: xs)) (.int 1) M Q = Q d M := vGet_tup (k := 1) rfl
theorem vGet_lst {M : Mem} {Q : DK} {a : Addr} {xs : List D} {k : Nat} {d : D} (e : rdL M a = some xs) (h : xs[k]? = some d) : vGet (.obj a) (.int (k : Int)) M Q = Q d M := by
  have nd : isDct M (.obj a) = false := by
    unfold isDct rdL at *
    dsimp only
    split at e <;> first | cases e | skip
    all_goals (rename_i q; rw [q])
  unfold vGet vIdx
  simp only [nd, Bool.false_eq_true, if_false, e, atI_nat h]
theorem vGet_str {M : Mem} {Q : DK} {l : List Nat} {k : Nat} {c : Nat} (hl : l.length ≤ big) (h : l[k]? = some c) : vGet (.str l) (.int (k : Int)) M Q = Q (.str [c]) M := by
  unfold vGet vIdx isDct
  simp only [Bool.false_eq_true, if_false, atI_nat h]
  exact propext ⟨fun h => h.2, fun h => ⟨hl, h⟩⟩
end DL
set_option Elab.async false
set_option linter.all false
set_option maxRecDepth 100000
set_option maxHeartbeats 1000000
/-! DL19: what is compared as data; memory that grows beside one address; reckoning. -/
namespace DL
open PySem PySem.Spec PyProof.Rows L2

/-! ### data without objects -/
def plD : Nat → D → Bool
  | 0, _ => false
  | n + 1, d => match d with
    | .tup xs => xs.all (plD n)
    | .str l => l.all fun c => decide (c < 0x110000)
    | .obj _ => false
    | _ => true
mutual
def toPd : D → PyData
  | .non => .none
  | .bl b => .bool b
  | .int i => .int i
  | .str l => .str (S l)
  | .tup xs => .tuple (toPds xs)
  | .obj _ => .none
def toPds : List D → List PyData
  | [] => []
  | x :: xs => toPd x :: toPds xs
end
def eqX (d e : D) : Bool := PyData.eqv (toPd d) (toPd e)
def eqXs (d e : List D) : Bool := PyData.eqvAll (toPds d) (toPds e)
theorem canLay_str {l : List Nat} (h : (l.all fun c => decide (c < 0x110000)) = true) : (PyData.str (S l)).canLay0 = true := by
  simp only [PyData.canLay0, S, PyData.strOk]
  first | exact h | simpa using h
theorem toPs_pl {n : Nat} {M : Mem} (ih : ∀ d, plD n d = true → toP n M d = some (toPd d) ∧ (toPd d).canLay0 = true) : ∀ xs : List D, xs.all (plD n) = true → xs.mapM (toP n M) = some (toPds xs) ∧ PyData.canLayAll0 (toPds xs) = true
  | [], _ => ⟨rfl, rfl⟩
  | x :: xs, h => by
    rw [List.all_cons, Bool.and_eq_true] at h
    obtain ⟨a1, a2⟩ := ih x h.1
    obtain ⟨b1, b2⟩ := toPs_pl ih xs h.2
    refine ⟨by rw [List.mapM_cons, a1, b1]; rfl, ?_⟩
    simp only [toPds, PyData.canLayAll0, a2, b2, Bool.and_self]
theorem toP_pl : ∀ (n : Nat) (M : Mem) (d : D), plD n d = true → toP n M d = some (toPd d) ∧ (toPd d).canLay0 = true
  | 0, _, _, h => nomatch h
  | n + 1, M, d, h => by
    cases d with
    | tup xs =>
      have h' : xs.all (plD n) = true := h
      obtain ⟨a, b⟩ := toPs_pl (toP_pl n M) xs h'
      refine ⟨by simp only [toP, a, toPd, Option.map_some], by simp only [toPd, PyData.canLay0, b]⟩
    | str l => exact ⟨rfl, canLay_str h⟩
    | obj a => cases h
    | _ => exact ⟨rfl, by simp [toPd, PyData.canLay0]⟩
theorem str_beq (a b : List Nat) : (S a == S b) = decide (a = b) := by
  by_cases h : a = b
  · subst h; simp
  · simp only [h, decide_false]
    exact beq_eq_false_iff_ne.mpr fun e => h (S_inj e)
/-- a == b, a != b of data -/
theorem vEq_pl {neg : Bool} {d e : D} {M : Mem} (h : plD 59 d = true) (h' : plD 59 e = true) : vEqK neg d e M = fun Q => Q (.bl (if neg then !eqX d e else eqX d e)) M := by
  funext Q
  have up : ∀ (n : Nat) (d : D), plD n d = true → plD (n + 1) d = true := by
    intro n
    induction n with
    | zero => intro d h; cases h
    | succ n ih =>
      intro d h
      cases d with
      | tup xs =>
        have h' : xs.all (plD n) = true := h
        show xs.all (plD (n + 1)) = true
        rw [List.all_eq_true] at h' ⊢
        exact fun x hx => ih x (h' x hx)
      | _ => exact h
  obtain ⟨a1, a2⟩ := toP_pl 60 M d (up _ _ h)
  obtain ⟨b1, b2⟩ := toP_pl 60 M e (up _ _ h')
  unfold vEqK
  split
  · rename_i i j
    have : decide (i = j) = (i == j) := by by_cases h : i = j <;> simp [h]
    simp only [eqX, toPd, PyData.eqv, this]
  · simp only [eqX, toPd, PyData.eqv, str_beq]
  · rename_i a b
    have : decide (a = b) = (a == b) := by cases a <;> cases b <;> rfl
    simp only [eqX, toPd, PyData.eqv, this]
  · rw [a1, b1]
    simp only [a2, b2, true_and, eqX]
/-- an empty tuple -/
theorem vEq_nil {neg : Bool} {xs : List D} {M : Mem} (h : plD 59 (.tup xs) = true) : vEqK neg (.tup xs) (.tup []) M = fun Q => Q (.bl (if neg then !xs.isEmpty else xs.isEmpty)) M := by
  rw [vEq_pl h rfl]
  have : eqX (.tup xs) (.tup []) = xs.isEmpty := by cases xs <;> simp [eqX, toPd, toPds, PyData.eqv, PyData.eqvAll]
  rw [this]
theorem toPs_ints (n : Nat) (M : Mem) : ∀ is : List Int, (is.map D.int).mapM (toP (n + 1) M) = some (is.map PyData.int) ∧ PyData.canLayAll0 (is.map PyData.int) = true
  | [] => ⟨rfl, rfl⟩
  | i :: is => by
    obtain ⟨b1, b2⟩ := toPs_ints n M is
    refine ⟨by rw [List.map_cons, List.mapM_cons, b1]; rfl, ?_⟩
    simp only [List.map_cons, PyData.canLayAll0, PyData.canLay0, b2, Bool.and_self]
/-- a list of ints and an empty one -/
theorem vEq_lnil {neg : Bool} {is : List Int} {M : Mem} {a b : Addr} (h : rdL M a = some (is.map D.int)) (h' : rdL M b = some []) : vEqK neg (.obj a) (.obj b) M = fun Q => Q (.bl (if neg then !is.isEmpty else is.isEmpty)) M := by
  funext Q
  have t1 : toP 60 M (.obj a) = some (.list (is.map PyData.int)) := by
    have e : toP 60 M (.obj a) = (match rdL M a with | some xs => (xs.mapM (toP 59 M)).map .list | none => none) := rfl
    rw [e, h]
    simp only [(toPs_ints 58 M is).1, Option.map_some]
  have t2 : toP 60 M (.obj b) = some (.list []) := by
    have e : toP 60 M (.obj b) = (match rdL M b with | some xs => (xs.mapM (toP 59 M)).map .list | none => none) := rfl
    rw [e, h']; rfl
  unfold vEqK
  simp only [t1, t2, PyData.canLay0, (toPs_ints 58 M is).2, PyData.canLayAll0, true_and]
  have : PyData.eqv (.list (is.map PyData.int)) (.list []) = is.isEmpty := by cases is <;> simp [PyData.eqv, PyData.eqvAll]
  rw [this]

/-! ### memory that grows beside one address -/
def UpX (p : Addr) (M N : Mem) : Prop := ∀ a o, a ≠ p → M a = some o → N a = some o
theorem UpX.rfl' {p : Addr} {M : Mem} : UpX p M M := fun _ _ _ h => h
theorem UpX.trans {p : Addr} {M N O : Mem} (h : UpX p M N) (h' : UpX p N O) : UpX p M O := fun a o ne e => h' a o ne (h a o ne e)
theorem UpX.sub {p : Addr} {M N : Mem} (h : Sub M N) : UpX p M N := fun a o _ e => h a o e
theorem UpX.on {p : Addr} {M N O : Mem} (h : UpX p M N) (h' : Sub N O) : UpX p M O := h.trans (.sub h')
theorem UpX.put {p q : Addr} {M N : Mem} {o : MO} (h : UpX p M N) (e : M q = none) : UpX p M (mup N q o) := fun a u ne e' => by
  have : a ≠ q := fun z => by rw [z, e] at e'; cases e'
  rw [mup_ne this]; exact h a u ne e'
theorem UpX.own {p : Addr} {M N : Mem} {o : MO} (h : UpX p M N) : UpX p M (mup N p o) := fun a u ne e' => by
  rw [mup_ne ne]; exact h a u ne e'
theorem UpX.new {p q : Addr} {M N : Mem} {o : MO} (h : UpX p M N) (e : N q = none) : UpX p M (mup N q o) := h.trans (.sub (Sub.new e))
theorem UpX.rdL {p a : Addr} {M N : Mem} {xs : List D} (h : UpX p M N) (ne : a ≠ p) (e : DL.rdL M a = some xs) : DL.rdL N a = some xs := by
  unfold DL.rdL at e ⊢
  cases z : M a with
  | none => rw [z] at e; cases e
  | some o => rw [h a o ne z]; rw [z] at e; exact e
theorem mup_none {M : Mem} {a p : Addr} {o : MO} (h : mup M a o p = none) : p ≠ a ∧ M p = none := by
  have : p ≠ a := fun z => by rw [z, mup_same] at h; cases h
  rw [mup_ne this] at h
  exact ⟨this, h⟩
theorem rdL_of {M : Mem} {a : Addr} {xs : List D} (h : M a = some (.lst xs)) : rdL M a = some xs := by unfold rdL; rw [h]
theorem rdL_up {M : Mem} {a q : Addr} {o : MO} (h : a ≠ q) : rdL (mup M q o) a = rdL M a := by unfold rdL; rw [mup_ne h]
theorem mup_mup {M : Mem} {p : Addr} {a b : MO} : mup (mup M p a) p b = mup M p b := by
  funext x; unfold mup; split <;> rfl
theorem mup_self {M : Mem} {p : Addr} {o : MO} (h : M p = some o) : mup M p o = M := by
  funext a
  unfold mup
  split
  · rename_i e; rw [e, h]
  · rfl
theorem ne_none {M : Mem} {a q : Addr} {o : MO} (h : M a = some o) (e : M q = none) : a ≠ q := fun z => by rw [z, e] at h; cases h
theorem rdL_some {M : Mem} {a : Addr} {xs : List D} (h : rdL M a = some xs) : M a ≠ none := fun z => by unfold rdL at h; rw [z] at h; cases h
theorem Upd_none {M : Mem} {a q : Addr} {xs : List D} (h : rdL M a = some xs) (e : M q = none) : a ≠ q := fun z => rdL_some h (z ▸ e)
theorem kn_UpX {p : Addr} {M N : Mem} (h : UpX p M N) (hp : kn N (.obj p) = true) (a : Addr) (k : kn M (.obj a) = true) : kn N (.obj a) = true := by
  by_cases z : a = p
  · rw [z]; exact hp
  · have k' : (match M a with | some (.lst _) => some "list" | some (.ro _) => some "list" | some (.dct _) => some "dict" | _ => (none : Option String)).isSome = true := k
    show (match N a with | some (.lst _) => some "list" | some (.ro _) => some "list" | some (.dct _) => some "dict" | _ => (none : Option String)).isSome = true
    cases e : M a with
    | none => rw [e] at k'; simp at k'
    | some o => rw [h a o z e]; rw [e] at k'; exact k'
theorem Kw.upx {p : Addr} {M N : Mem} (h : UpX p M N) (hp : DL.kn N (.obj p) = true) {d : D} (k : Kw M d) : Kw N d := k.up (kn_UpX h hp)
/-! ### ints -/
theorem binS_sub {M : Mem} {i j : Int} {Q : DK} : binS .Sub (.int i) (.int j) M Q = Q (.int (i - j)) M := by simp [binS, vSub, vI]
theorem natAbs_bits {i : Int} {k : Nat} (h : i.natAbs < 2 ^ k) : Builtin.Int.intBits i ≤ k := intBits_le_iff.mpr h
theorem vMul_ok {M : Mem} {Q : DK} {i j : Int} (h : i.natAbs < 2 ^ 100) (h' : j.natAbs < 2 ^ 100) : vMul (.int i) (.int j) M Q = Q (.int (i * j)) M := by
  have := natAbs_bits h
  have := natAbs_bits h'
  simp only [vMul, eq_iff_iff, and_iff_right_iff_imp]
  omega
theorem mulE {M : Mem} {i j : Int} (h : i.natAbs < 2 ^ 100) (h' : j.natAbs < 2 ^ 100) : binS .Mult (.int i) (.int j) M = fun Q => Q (.int (i * j)) M := by
  funext Q; exact vMul_ok h h'
theorem modE {M : Mem} {i j : Int} (h : 0 < j) : binS .Mod (.int i) (.int j) M = fun Q => Q (.int (i % j)) M := by
  funext Q; simp [binS, vMod, vI, h]
theorem divE {M : Mem} {i j : Int} (h : 0 < j) (h' : j < 2 ^ 60) : binS .FloorDiv (.int i) (.int j) M = fun Q => Q (.int (i / j)) M := by
  funext Q
  have : j.natAbs.log2 < 9000 := by
    have : j.natAbs < 2 ^ 60 := by omega
    have := Nat.log2_lt (n := j.natAbs) (k := 60) (by omega)
    omega
  simp [binS, vDiv, vI, h, this]
theorem addE {M : Mem} {i j : Int} : binS .Add (.int i) (.int j) M = fun Q => Q (.int (i + j)) M := by funext Q; rfl
theorem subE {M : Mem} {i j : Int} : binS .Sub (.int i) (.int j) M = fun Q => Q (.int (i - j)) M := by funext Q; exact binS_sub
theorem intE {M : Mem} {i : Int} : biS .int [.int i] M = fun Q => Q (.int i) M := by funext Q; rfl
theorem wp_at {cs : Pk} {W : WD} {xo : XO} {s : MS} {D0 : EndsD} {ρ : En} {M N : Mem} (e : N = M) (h : DL.wpS cs W xo s D0 ρ N) : DL.wpS cs W xo s D0 ρ M := e ▸ h
theorem take_snoc {α : Type} {xs : List α} {i : Nat} {d : α} (h : xs[i]? = some d) : xs.take (i + 1) = xs.take i ++ [d] := by
  rw [List.take_succ, h]; rfl
theorem none_eq {α : Type} {xs : List α} {i : Nat} (h : xs[i]? = none) (hi : i ≤ xs.length) : i = xs.length := by
  have := List.getElem?_eq_none_iff.mp h
  omega
theorem some_lt {α : Type} {xs : List α} {i : Nat} {d : α} (h : xs[i]? = some d) : i < xs.length := (List.getElem?_eq_some_iff.mp h).1
end DL
namespace DL
open PySem PySem.Spec PyProof.Rows L2
theorem UpX.none {p q : Addr} {M N : Mem} (h : UpX p M N) (hp : N p ≠ none) (e : N q = Option.none) : M q = Option.none := by
  cases z : M q with
  | none => rfl
  | some o =>
    have : q ≠ p := fun w => hp (w ▸ e)
    rw [h q o this z] at e; cases e
theorem range_get {n i : Nat} : ((List.range n).map fun k => D.int ((k : Nat) : Int))[i]? = if i < n then some (D.int (i : Nat)) else none := by
  rw [List.getElem?_map]
  by_cases h : i < n
  · rw [List.getElem?_range h, if_pos h]; rfl
  · rw [if_neg h, List.getElem?_eq_none (by simpa using h)]; rfl
theorem range_get_z {i : Nat} {j : Int} : ((List.range j.toNat).map fun k => D.int ((k : Nat) : Int))[i]? = if (i : Int) < j then some (D.int (i : Nat)) else none := by
  rw [range_get]
  by_cases h : (i : Int) < j
  · rw [if_pos h, if_pos (by omega)]
  · rw [if_neg h, if_neg (by omega)]
end DL
namespace DL
open PySem PySem.Spec PyProof.Rows L2
section
variable {M : Mem}
theorem slcT {xs : List D} {lo hi : Option Int} : vSlc (.tup xs) lo hi M = fun Q => Q (.tup (cut xs lo hi)) M := rfl
theorem addT {a b : List D} : binS .Add (.tup a) (.tup b) M = fun Q => a.length + b.length ≤ big ∧ Q (.tup (a ++ b)) M := rfl
theorem mulL {a : Addr} {xs : List D} {k : Int} (h : M a = some (.lst xs)) : binS .Mult (.obj a) (.int k) M = fun Q => (0 ≤ k ∧ k < 100000000 ∧ xs.length * k.toNat ≤ big) ∧ ∀ p, M p = none → Q (.obj p) (mup M p (.lst (List.replicate k.toNat xs).flatten)) := by
  funext Q
  simp only [binS, vMul, h, and_assoc]
theorem mulT {xs : List D} {k : Int} : binS .Mult (.tup xs) (.int k) M = fun Q => (xs ≠ [] ∧ 2 ≤ k ∧ k ≤ 1000 ∧ xs.length ≤ 1000) ∧ Q (.tup (List.replicate k.toNat xs).flatten) M := by
  funext Q
  simp only [binS, vMul, and_assoc]
theorem addL {a b : Addr} {xs ys : List D} (h : M a = some (.lst xs)) (h' : M b = some (.lst ys)) : binS .Add (.obj a) (.obj b) M = fun Q => xs.length + ys.length ≤ big ∧ ∀ p, M p = none → Q (.obj p) (mup M p (.lst (xs ++ ys))) := by
  funext Q
  simp only [binS, vAdd, h, h']
theorem get_up {a q : Addr} {o u : MO} (h : M a = some u) (e : M q = none) : mup M q o a = some u := by rw [mup_ne (ne_none h e)]; exact h
end
end DL
namespace DL
open PySem PySem.Spec PyProof.Rows L2
theorem eqv_ints : ∀ is js : List Int, PyData.eqvAll (is.map PyData.int) (js.map PyData.int) = decide (is = js)
  | [], [] => by simp [PyData.eqvAll]
  | [], y :: ys => by simp [PyData.eqvAll]
  | x :: xs, [] => by simp [PyData.eqvAll]
  | x :: xs, y :: ys => by
    have := eqv_ints xs ys
    simp only [List.map_cons, PyData.eqvAll, PyData.eqv] at this ⊢
    rw [this]
    by_cases h1 : x = y
    · subst h1; simp
    · simp [h1]
/-- two lists of ints -/
theorem vEq_ints {neg : Bool} {is js : List Int} {M : Mem} {a b : Addr} (h : rdL M a = some (is.map D.int)) (h' : rdL M b = some (js.map D.int)) : vEqK neg (.obj a) (.obj b) M = fun Q => Q (.bl (if neg then !decide (is = js) else decide (is = js))) M := by
  funext Q
  have t : ∀ (c : Addr) (ks : List Int), rdL M c = some (ks.map D.int) → toP 60 M (.obj c) = some (.list (ks.map PyData.int)) := fun c ks hc => by
    have e : toP 60 M (.obj c) = (match rdL M c with | some xs => (xs.mapM (toP 59 M)).map .list | none => none) := rfl
    rw [e, hc]
    simp only [(toPs_ints 58 M ks).1, Option.map_some]
  unfold vEqK
  simp only [t a is h, t b js h', PyData.canLay0, (toPs_ints 58 M is).2, (toPs_ints 58 M js).2, true_and]
  have : PyData.eqv (.list (is.map PyData.int)) (.list (js.map PyData.int)) = decide (is = js) := by simp only [PyData.eqv, eqv_ints]
  rw [this]
end DL
set_option Elab.async false
set_option linter.all false
set_option maxRecDepth 100000
set_option maxHeartbeats 2000000
/-! DL20: the end of a law: its argument, its facts. -/
namespace DL
open PySem PySem.Spec PyProof.Rows L2
/-- none of the top's objects is a list -/
def noLstB (K : PySem.W.Frag) : Bool := K.all fun p => !decide (p.2.cls = .type "list")
theorem lookup_mem {K : PySem.W.Frag} {a : Addr} {o : Obj} (h : K.lookup a = some o) : (a, o) ∈ K := by
  induction K with
  | nil => cases h
  | cons p K ih =>
    obtain ⟨b, u⟩ := p
    rw [List.lookup_cons] at h
    split at h
    · rename_i e
      cases h
      rw [eq_of_beq e]; exact List.mem_cons_self ..
    · exact List.mem_cons_of_mem _ (ih h)
theorem noLst {K : PySem.W.Frag} (h : noLstB K = true) {a : Addr} {o : Obj} (e : K.lookup a = some o) (c : o.cls = .type "list") : False := by
  have := List.all_eq_true.mp h _ (lookup_mem e)
  simp [c] at this
/-- the law's argument -/
theorem law_arg {G : Cfg} {H : Hp} {a : Addr} {ns : List Int} (hn : noLstB G.K = true) (hO : Only H) (hS : SqL G.K H a (ns.map V.int)) : ∃ M : Mem, RepM G H M ∧ rdL M a = some (ns.map .int) := by
  have hr : RepL G.K H (ns.map D.int) (ns.map V.int) := RepL.ints.mpr rfl
  rcases hS with (h | ⟨o, h⟩) | ⟨o, its, n, hk, hc, _⟩
  · rcases hO a with z | ⟨ob, xs, z⟩ <;> rw [h] at z <;> cases z
  · refine ⟨fun b => if b = a then some (.ro (ns.map D.int)) else none, fun b u e => ?_, by unfold rdL; simp⟩
    by_cases q : b = a
    · subst q
      simp only [if_true] at e
      cases e
      exact ⟨_, h, o, _, rfl, hr⟩
    · simp only [q, if_false] at e
      cases e
  · exact (noLst hn hk hc).elim
theorem oks_nil {P : Program} {w : World} {base : Heap} {G : Cfg} : ∀ c ∈ ([] : List Cal), c.Ok P w G base := fun c h => nomatch h
theorem oks_cons {P : Program} {w : World} {base : Heap} {G : Cfg} {c : Cal} {l : List Cal} (h : c.Ok P w G base) (hs : ∀ c ∈ l, c.Ok P w G base) : ∀ d ∈ c :: l, d.Ok P w G base := fun d hd => by
  rcases List.mem_cons.mp hd with rfl | q
  · exact h
  · exact hs d q
theorem lev_of {l : List Cal} {k : Nat} (h : (l.all fun c => decide (c.need ≤ k)) = true) : ∀ c ∈ l, c.need ≤ k := fun c hc => of_decide_eq_true (List.all_eq_true.mp h c hc)
/-- what is promised of nothing -/
theorem LW.fn_no {fa : List He.Fa} {fn : List He.DefD} {cf : Cf} {sub : Nat → Nat → Bool} {P : Program} {w : World} {base : Heap} {G : Cfg} (L : LW fa fn cf sub P w base G) {d : He.DefD} {ps : List Str} {k : Nat} {sp : SpD} {nm : Str} (i : Nat) (hd : fn[i]? = some d) (hat : d.at_ = (nm, none)) (hg : He.Fa.glo nm ∈ fa) (hdf : d.dfl = [] ∧ d.kwd = []) (hb : BindOk d ps) (h : ∀ ds M Q E, sp ds M Q E → False) :
    (Cal.mk .fn nm ps.length k sp).Ok P w G base := by
  obtain ⟨fd, F⟩ := L.says.def_ i hd
  have e1 : d.dvs G.K = [] := by unfold He.DefD.dvs; rw [hdf.1]; rfl
  have e2 : d.kws G.K = [] := by unfold He.DefD.kws; rw [hdf.2]; rfl
  rw [e1, e2] at F
  refine ⟨_, fd, ps, ?_, F.kp, F.bindsN hb, rfl, ⟨fun vs H Q E q => ?_, fun A outer s H args us vs Q E hr he hb' hv q => ?_⟩⟩
  · rw [hat]
    exact He.glo_ok L.kin L.ns (says_mem L.says hg)
  · obtain ⟨ds, M, Q0, E0, _, _, _, q, _⟩ := q; exact (h _ _ _ _ q).elim
  · obtain ⟨ds, M, Q0, E0, _, _, _, q, _⟩ := q; exact (h _ _ _ _ q).elim
/-- the law, called -/
theorem law_F {fa : List He.Fa} {fn : List He.DefD} {cf : Cf} {sub : Nat → Nat → Bool} {P : Program} {d : He.DefD} {N : List Str} {x : Str} {k : Nat} {sp : SpD} {ms : MSs} {l : List Cal} (i : Nat) (hd : fn[i]? = some d) (hat : d.at_ = (("law" : Str), none)) (hg : He.Fa.glo "law" ∈ fa)
    (D : DefOk cf sub d N [x] k sp ms l) (hcs : ∀ (w : World) (base : Heap) (G : Cfg), LW fa fn cf sub P w base G → ∀ c ∈ l, c.Ok P w G base)
    (wi : ∀ (w : World) (base : Heap) (G : Cfg), G.toCf = cf → P = G.P → w = G.w → G.K.In base → base.Ns mainGlobals G.mg → He.SaysD fa fn G.K → topB cf sub G.K = true → ∀ ei ∈ cf.et, ∀ f, ei.2 = some f → ExOk P w base G ei (He.ga G.K ei.1))
    (hsp : ∀ (M : Mem) (a : Addr) (ns : List Int) (Q : DK) (E : Ex → Mem → Prop), rdL M a = some (ns.map .int) → ns.length ≤ 63 → (∀ N, Q (.bl true) N) → sp [.obj a] M Q E)
    (w : World) (mg : Str → Option Value) (f : Addr) (h : Heap) (Y : ∃ K : PySem.W.Frag, K.In h ∧ He.SaysD fa fn K ∧ (topB cf sub K && noLstB K) = true) (Gn : h.Ns mainGlobals mg) (hmg : mg ("law" : Str) = some (.ref f)) :
    ∃ (K : PySem.W.Frag) (fd : FuncData) (sp : Sp), K.In h ∧ (∀ (s : Shared) (u : Value), BindsTo s fd ⟨[u], []⟩ [(x, u)]) ∧
        (∀ (H : Hp) (a : Addr) (ns : List Int), ns.length ≤ 63 → Only H → SqL K H a (ns.map V.int) → sp [.ref a] H (fun v _ => v = .bl true) fun _ _ _ => False) ∧
        ∀ base : Heap, K.In base → base.Ns mainGlobals mg → FnOk P w K mg base (CX P w) (k + 1) f fd [x] sp := by
  obtain ⟨K, KX, c, ex⟩ := Y
  rw [Bool.and_eq_true] at ex
  obtain ⟨fd, F⟩ := c.def_ i hd
  have e1 : d.dvs K = [] := by unfold He.DefD.dvs; rw [D.dfl.1]; rfl
  have e2 : d.kws K = [] := by unfold He.DefD.kws; rw [D.dfl.2]; rfl
  rw [e1, e2] at F
  have ef : f = He.fAd K d.at_ := by
    have := hmg.symm.trans (He.glo_ok KX Gn (says_mem c hg))
    rw [hat]
    exact Value.ref.inj (Option.some.inj this)
  let G : Cfg := { toCf := cf, K := K, mg := mg, P := P, w := w }
  have b := FunD.bindsA (ps := [x]) F D.bd
  refine ⟨K, fd, liftSp G 1 sp, KX, fun s u => b s [u] rfl, fun H a ns hl hO hS => ?_, fun base KB GB => ?_⟩
  · obtain ⟨M, rm, ra⟩ := law_arg (G := G) ex.2 hO hS
    refine ⟨[.obj a], M, fun d _ => d = .bl true, fun _ _ => False, rfl, RepL.one (RepD.obj.mpr rfl), rm, hsp _ _ _ _ _ ra hl (fun _ => rfl), fun d M' H' v e r _ _ => ?_, fun _ _ _ _ _ z => z.elim⟩
    subst e
    exact RepD.bl.mp r
  · have T : TopOk P w base G sub (fdOf cf) := topB_ok (G := G) KB GB ex.1 ⟨rfl, rfl⟩ (wi w base G rfl rfl rfl KB GB c ex.1)
    have L : LW fa fn cf sub P w base G := ⟨c, KB, GB, rfl, T⟩
    rw [ef]
    exact def_ok (G := G) T F D.sc D.chk (hcs w base G L) D.lev D.three D.sp
theorem cx_no {P : Program} {w : World} {H : Hp} {s s' : Shared} {e : Value} (h : CX P w [] H s (fun _ _ _ => False) e s') : False := by
  obtain ⟨_, _, _, _, _, _, _, _, _, _, _, _, z⟩ := h
  exact z
/-- a law over its head -/
theorem walk_law {l : PySem.W.OpenLaw} {q : Program} {loose : List Str} {XP : (Str → Option Value) → Heap → Prop} {YP : World → Heap → Prop} {d : DefRec} {x : Str} {k : Nat}
    (hm : l.most = some 63) (hdf : d.params.defaults = []) (hr : Room k callerA)
    (F : ∀ (w : World) (mg : Str → Option Value) (f : Addr) (h : Heap), YP w h → h.Ns mainGlobals mg → mg d.name = some (.ref f) →
      ∃ (K : PySem.W.Frag) (fd : FuncData) (sp : Sp), K.In h ∧ (∀ (s : Shared) (u : Value), BindsTo s fd ⟨[u], []⟩ [(x, u)]) ∧
        (∀ (H : Hp) (a : Addr) (ns : List Int), ns.length ≤ 63 → Only H → SqL K H a (ns.map V.int) → sp [.ref a] H (fun v _ => v = .bl true) fun _ _ _ => False) ∧
        ∀ base : Heap, K.In base → base.Ns mainGlobals mg → FnOk l.prog w K mg base (CX l.prog w) k f fd [x] sp) :
    PySem.W.WalkO q loose XP YP l.row.toRowW d [] (fun f vs => PySem.call f vs) := by
  refine Att.attach_call hm hdf ?_
  intro w s0 s1 mg mb f o pm cd doc a vs ns gr yp ho hcd hcr hf hobj hint hl hg
  obtain ⟨K, fd, sp, kin, bnd, arg, ok⟩ := F w mg f _ yp gr.T.g hf
  have big63 : ns.length ≤ sizeLine := Nat.le_trans hl (by decide)
  refine law_call kin gr.T.g gr.T.b gr.T.builtins gr.T.nolimit hg hobj hint big63 hr ok bnd ?_ ?_
  · exact fun H o1 o2 => arg H a ns hl o1 o2
  · exact fun H e s' z => cx_no z
end DL
set_option Elab.async false
set_option linter.all false
set_option maxRecDepth 100000
set_option maxHeartbeats 0
namespace H41
open PySem PySem.Spec PyProof.Rows L2 DL
def top (i : Nat) : Stmt := PySem.Challenge.pw_keptlengths_k41_whole_machines_fitted_by.main.body.getD i (.Pass ⟨0, 0, 0, 0⟩)
def s_is_integer : Stmt := top 5
def d_is_integer : He.DefD := ⟨("is_integer", none), "is_integer", "is_integer", defArgs s_is_integer, defBody s_is_integer, defScope s_is_integer, [], []⟩
def s_is_between : Stmt := top 6
def d_is_between : He.DefD := ⟨("is_between", none), "is_between", "is_between", defArgs s_is_between, defBody s_is_between, defScope s_is_between, [], []⟩
def s_is_index : Stmt := top 7
def d_is_index : He.DefD := ⟨("is_index", none), "is_index", "is_index", defArgs s_is_index, defBody s_is_index, defScope s_is_index, [], []⟩
def s_is_tuple_of : Stmt := top 8
def d_is_tuple_of : He.DefD := ⟨("is_tuple_of", none), "is_tuple_of", "is_tuple_of", defArgs s_is_tuple_of, defBody s_is_tuple_of, defScope s_is_tuple_of, [], []⟩
def s_is_size : Stmt := top 14
def d_is_size : He.DefD := ⟨("is_size", none), "is_size", "is_size", defArgs s_is_size, defBody s_is_size, defScope s_is_size, [], []⟩
def s_raw_is_text : Stmt := top 15
def d_raw_is_text : He.DefD := ⟨("raw_is_text", none), "raw_is_text", "raw_is_text", defArgs s_raw_is_text, defBody s_raw_is_text, defScope s_raw_is_text, [], []⟩
def s_is_shape_row : Stmt := top 18
def d_is_shape_row : He.DefD := ⟨("is_shape_row", none), "is_shape_row", "is_shape_row", defArgs s_is_shape_row, defBody s_is_shape_row, defScope s_is_shape_row, [], []⟩
def s_is_shape : Stmt := top 19
def d_is_shape : He.DefD := ⟨("is_shape", none), "is_shape", "is_shape", defArgs s_is_shape, defBody s_is_shape, defScope s_is_shape, [], []⟩
def s_way_of : Stmt := top 20
def d_way_of : He.DefD := ⟨("way_of", none), "way_of", "way_of", defArgs s_way_of, defBody s_way_of, defScope s_way_of, [], []⟩
def s_counted : Stmt := top 21
def d_counted : He.DefD := ⟨("counted", none), "counted", "counted", defArgs s_counted, defBody s_counted, defScope s_counted, [], []⟩
def s_Sharing___init__ : Stmt := inClass (top 22) 0
def d_Sharing___init__ : He.DefD := ⟨("Sharing", some "__init__"), "__init__", "Sharing.__init__", defArgs s_Sharing___init__, defBody s_Sharing___init__, defScope s_Sharing___init__, [], []⟩
def s_Sharing_cheapest : Stmt := inClass (top 22) 1
def d_Sharing_cheapest : He.DefD := ⟨("Sharing", some "cheapest"), "cheapest", "Sharing.cheapest", defArgs s_Sharing_cheapest, defBody s_Sharing_cheapest, defScope s_Sharing_cheapest, [], []⟩
def s_Sharing_least : Stmt := inClass (top 22) 2
def d_Sharing_least : He.DefD := ⟨("Sharing", some "least"), "least", "Sharing.least", defArgs s_Sharing_least, defBody s_Sharing_least, defScope s_Sharing_least, [], []⟩
def s_lengths_of : Stmt := top 23
def d_lengths_of : He.DefD := ⟨("lengths_of", none), "lengths_of", "lengths_of", defArgs s_lengths_of, defBody s_lengths_of, defScope s_lengths_of, [], []⟩
def s_fitted : Stmt := top 24
def d_fitted : He.DefD := ⟨("fitted", none), "fitted", "fitted", defArgs s_fitted, defBody s_fitted, defScope s_fitted, [], []⟩
def s__law_pot : Stmt := top 26
def d__law_pot : He.DefD := ⟨("_law_pot", none), "_law_pot", "_law_pot", defArgs s__law_pot, defBody s__law_pot, defScope s__law_pot, [], []⟩
def s__law_draw : Stmt := top 27
def d__law_draw : He.DefD := ⟨("_law_draw", none), "_law_draw", "_law_draw", defArgs s__law_draw, defBody s__law_draw, defScope s__law_draw, [], []⟩
def s__law_any : Stmt := top 28
def d__law_any : He.DefD := ⟨("_law_any", none), "_law_any", "_law_any", defArgs s__law_any, defBody s__law_any, defScope s__law_any, [], []⟩
def s__law_mixed : Stmt := top 29
def d__law_mixed : He.DefD := ⟨("_law_mixed", none), "_law_mixed", "_law_mixed", defArgs s__law_mixed, defBody s__law_mixed, defScope s__law_mixed, [], []⟩
def s__law_is : Stmt := top 30
def d__law_is : He.DefD := ⟨("_law_is", none), "_law_is", "_law_is", defArgs s__law_is, defBody s__law_is, defScope s__law_is, [], []⟩
def s__law_shape : Stmt := top 31
def d__law_shape : He.DefD := ⟨("_law_shape", none), "_law_shape", "_law_shape", defArgs s__law_shape, defBody s__law_shape, defScope s__law_shape, [], []⟩
def s__law_text : Stmt := top 32
def d__law_text : He.DefD := ⟨("_law_text", none), "_law_text", "_law_text", defArgs s__law_text, defBody s__law_text, defScope s__law_text, [], []⟩
def s__law_texts : Stmt := top 33
def d__law_texts : He.DefD := ⟨("_law_texts", none), "_law_texts", "_law_texts", defArgs s__law_texts, defBody s__law_texts, defScope s__law_texts, [], []⟩
def s__law_counts : Stmt := top 34
def d__law_counts : He.DefD := ⟨("_law_counts", none), "_law_counts", "_law_counts", defArgs s__law_counts, defBody s__law_counts, defScope s__law_counts, [], []⟩
def s__law_choices : Stmt := top 35
def d__law_choices : He.DefD := ⟨("_law_choices", none), "_law_choices", "_law_choices", defArgs s__law_choices, defBody s__law_choices, defScope s__law_choices, [], []⟩
def s__law_cheapest : Stmt := top 36
def d__law_cheapest : He.DefD := ⟨("_law_cheapest", none), "_law_cheapest", "_law_cheapest", defArgs s__law_cheapest, defBody s__law_cheapest, defScope s__law_cheapest, [], []⟩
def s__law_least : Stmt := top 37
def d__law_least : He.DefD := ⟨("_law_least", none), "_law_least", "_law_least", defArgs s__law_least, defBody s__law_least, defScope s__law_least, [], []⟩
def s__law_made : Stmt := top 38
def d__law_made : He.DefD := ⟨("_law_made", none), "_law_made", "_law_made", defArgs s__law_made, defBody s__law_made, defScope s__law_made, [], []⟩
def s__law_great : Stmt := top 39
def d__law_great : He.DefD := ⟨("_law_great", none), "_law_great", "_law_great", defArgs s__law_great, defBody s__law_great, defScope s__law_great, [], []⟩
def s__law_long : Stmt := top 40
def d__law_long : He.DefD := ⟨("_law_long", none), "_law_long", "_law_long", defArgs s__law_long, defBody s__law_long, defScope s__law_long, [], []⟩
def s_law : Stmt := top 41
def d_law : He.DefD := ⟨("law", none), "law", "law", defArgs s_law, defBody s_law, defScope s_law, [], []⟩
def fn : List He.DefD := [d_is_integer, d_is_between, d_is_index, d_is_tuple_of, d_is_size, d_raw_is_text, d_is_shape_row, d_is_shape, d_way_of, d_counted, d_Sharing___init__, d_Sharing_cheapest, d_Sharing_least, d_lengths_of, d_fitted, d__law_pot, d__law_draw, d__law_any, d__law_mixed, d__law_is, d__law_shape, d__law_text, d__law_texts, d__law_counts, d__law_choices, d__law_cheapest, d__law_least, d__law_made, d__law_great, d__law_long, d_law]
def fa : List He.Fa := [.glo "is_integer", .glo "is_between", .glo "is_index", .glo "is_tuple_of", .glo "is_size", .glo "raw_is_text", .glo "is_shape_row", .glo "is_shape", .glo "way_of", .glo "counted", .glo "Sharing", .cls "Sharing", .mkr "Sharing", .meth "Sharing" "cheapest", .meth "Sharing" "least", .glo "lengths_of", .glo "fitted", .glo "_law_pot", .glo "_law_draw", .glo "_law_any", .glo "_law_mixed", .glo "_law_is", .glo "_law_shape", .glo "_law_text", .glo "_law_texts", .glo "_law_counts", .glo "_law_choices", .glo "_law_cheapest", .glo "_law_least", .glo "_law_made", .glo "_law_great", .glo "_law_long", .glo "law"]
def names0 : List Str := ["LengthError", "NoTexts", "NoShape", "is_integer", "is_between", "is_index", "is_tuple_of", "MOST_SIZE", "MOST_STATES", "SIZE", "ROWS", "is_size", "raw_is_text", "DEEPEST", "is_shape_row", "is_shape", "way_of", "counted", "Sharing", "lengths_of", "fitted", "_law_pot", "_law_draw", "_law_any", "_law_mixed", "_law_is", "_law_shape", "_law_text", "_law_texts", "_law_counts"]
def names1 : List Str := ["_law_choices", "_law_cheapest", "_law_least", "_law_made", "_law_great", "_law_long"]
def names : List Str := names0 ++ names1
def cf : Cf where
  ct := [("Sharing", ["counts", "costs"])]
  et := [("LengthError", none), ("NoTexts", none), ("NoShape", none)]
  fb := ["ValueError", "abs", "all", "bool", "dict", "enumerate", "int", "isinstance", "len", "list", "range", "tuple", "zip"]
  gl := [("MOST_SIZE", .int 8), ("MOST_STATES", .int 30), ("SIZE", .int 0), ("ROWS", .int 1), ("DEEPEST", .int 8)]
def subL : List (List Bool) := [[true, false, false], [true, true, false], [true, false, true]]
def sub (a b : Nat) : Bool := ((subL[a]?.getD [])[b]?).getD false
abbrev R : PySem.W.OpenRow := PySem.W.OpenLaw.row PySem.Challenge.rw_keptlengths_k41_whole_machines_fitted_by
abbrev hk : PySem.W.Hook := hookE 4 fa fn (topB cf sub)
def ob (s : PySem.W.SharedT) : He.AlD × Bool := obsEG 4 fa fn (topB cf sub) (HandSHeadRun.getT s)
theorem ob_eq (s : PySem.W.SharedT) : ob s = hk.obs s.abs := obsEG_eq (HandSHeadRun.getT_eq s)
def ilaw : Nat := 41
abbrev C_is_integer (k : Nat) (sp : SpD) : Cal := ⟨.fn, "is_integer", 1, k, sp⟩
abbrev C_is_between (k : Nat) (sp : SpD) : Cal := ⟨.fn, "is_between", 3, k, sp⟩
abbrev C_is_index (k : Nat) (sp : SpD) : Cal := ⟨.fn, "is_index", 2, k, sp⟩
abbrev C_is_tuple_of (k : Nat) (sp : SpD) : Cal := ⟨.fn, "is_tuple_of", 2, k, sp⟩
abbrev C_is_size (k : Nat) (sp : SpD) : Cal := ⟨.fn, "is_size", 1, k, sp⟩
abbrev C_raw_is_text (k : Nat) (sp : SpD) : Cal := ⟨.fn, "raw_is_text", 2, k, sp⟩
abbrev C_is_shape_row (k : Nat) (sp : SpD) : Cal := ⟨.fn, "is_shape_row", 3, k, sp⟩
abbrev C_is_shape (k : Nat) (sp : SpD) : Cal := ⟨.fn, "is_shape", 1, k, sp⟩
abbrev C_way_of (k : Nat) (sp : SpD) : Cal := ⟨.fn, "way_of", 2, k, sp⟩
abbrev C_counted (k : Nat) (sp : SpD) : Cal := ⟨.fn, "counted", 2, k, sp⟩
abbrev C_Sharing___init__ (k : Nat) (sp : SpD) : Cal := ⟨(.mk 0), "Sharing", 2, k, sp⟩
abbrev C_Sharing_cheapest (k : Nat) (sp : SpD) : Cal := ⟨(.me 0), "cheapest", 3, k, sp⟩
abbrev C_Sharing_least (k : Nat) (sp : SpD) : Cal := ⟨(.me 0), "least", 1, k, sp⟩
abbrev C_lengths_of (k : Nat) (sp : SpD) : Cal := ⟨.fn, "lengths_of", 2, k, sp⟩
abbrev C_fitted (k : Nat) (sp : SpD) : Cal := ⟨.fn, "fitted", 2, k, sp⟩
abbrev C__law_pot (k : Nat) (sp : SpD) : Cal := ⟨.fn, "_law_pot", 1, k, sp⟩
abbrev C__law_draw (k : Nat) (sp : SpD) : Cal := ⟨.fn, "_law_draw", 2, k, sp⟩
abbrev C__law_any (k : Nat) (sp : SpD) : Cal := ⟨.fn, "_law_any", 2, k, sp⟩
abbrev C__law_mixed (k : Nat) (sp : SpD) : Cal := ⟨.fn, "_law_mixed", 2, k, sp⟩
abbrev C__law_is (k : Nat) (sp : SpD) : Cal := ⟨.fn, "_law_is", 2, k, sp⟩
abbrev C__law_shape (k : Nat) (sp : SpD) : Cal := ⟨.fn, "_law_shape", 3, k, sp⟩
abbrev C__law_text (k : Nat) (sp : SpD) : Cal := ⟨.fn, "_law_text", 3, k, sp⟩
abbrev C__law_texts (k : Nat) (sp : SpD) : Cal := ⟨.fn, "_law_texts", 3, k, sp⟩
abbrev C__law_counts (k : Nat) (sp : SpD) : Cal := ⟨.fn, "_law_counts", 2, k, sp⟩
abbrev C__law_choices (k : Nat) (sp : SpD) : Cal := ⟨.fn, "_law_choices", 2, k, sp⟩
abbrev C__law_cheapest (k : Nat) (sp : SpD) : Cal := ⟨.fn, "_law_cheapest", 4, k, sp⟩
abbrev C__law_least (k : Nat) (sp : SpD) : Cal := ⟨.fn, "_law_least", 2, k, sp⟩
abbrev C__law_made (k : Nat) (sp : SpD) : Cal := ⟨.fn, "_law_made", 2, k, sp⟩
abbrev C__law_great (k : Nat) (sp : SpD) : Cal := ⟨.fn, "_law_great", 2, k, sp⟩
abbrev C__law_long (k : Nat) (sp : SpD) : Cal := ⟨.fn, "_law_long", 2, k, sp⟩
abbrev C_law (k : Nat) (sp : SpD) : Cal := ⟨.fn, "law", 1, k, sp⟩
def N_is_integer : List Str := ["thing"]
def m_is_integer : MSs := (.cons (.ret (.bo true (.cons (.isi (.var 0) "int") (.cons (.not (.isi (.var 0) "bool")) .nil))))
  .nil)
theorem k_is_integer : chkSs m_is_integer ⟨cf, ⟨[], sub, fdOf cf⟩, N_is_integer, d_is_integer.scope, fun _ => true, false⟩ d_is_integer.body = true := by kernel_rfl
def N_is_between : List Str := ["thing", "least", "most"]
def m_is_between : MSs := (.cons (.ret (.bo true (.cons (.call 0 (.cons (.var 0) .nil)) (.cons (.chn .LtE .LtE (.var 1) (.var 0) (.var 2)) .nil))))
  .nil)
theorem k_is_between (k0 : Nat) (p0 : SpD) : chkSs m_is_between ⟨cf, ⟨[C_is_integer k0 p0], sub, fdOf cf⟩, N_is_between, d_is_between.scope, fun _ => true, false⟩ d_is_between.body = true := by kernel_rfl
def N_is_index : List Str := ["thing", "many"]
def m_is_index : MSs := (.cons (.ret (.call 0 (.cons (.var 0) (.cons (.lit (.int 0)) (.cons (.bin .Sub (.var 1) (.lit (.int 1))) .nil)))))
  .nil)
theorem k_is_index (k0 : Nat) (p0 : SpD) : chkSs m_is_index ⟨cf, ⟨[C_is_between k0 p0], sub, fdOf cf⟩, N_is_index, d_is_index.scope, fun _ => true, false⟩ d_is_index.body = true := by kernel_rfl
def N_is_tuple_of : List Str := ["thing", "many"]
def m_is_tuple_of : MSs := (.cons (.ret (.bo true (.cons (.isi (.var 0) "tuple") (.cons (.cmp .Eq (.bi .len (.cons (.var 0) .nil)) (.var 1)) .nil))))
  .nil)
theorem k_is_tuple_of : chkSs m_is_tuple_of ⟨cf, ⟨[], sub, fdOf cf⟩, N_is_tuple_of, d_is_tuple_of.scope, fun _ => true, false⟩ d_is_tuple_of.body = true := by kernel_rfl
def N_is_size : List Str := ["thing"]
def m_is_size : MSs := (.cons (.ret (.call 0 (.cons (.var 0) (.cons (.lit (.int 1)) (.cons (.glb 0 (.int 8)) .nil)))))
  .nil)
theorem k_is_size (k0 : Nat) (p0 : SpD) : chkSs m_is_size ⟨cf, ⟨[C_is_between k0 p0], sub, fdOf cf⟩, N_is_size, d_is_size.scope, fun _ => true, false⟩ d_is_size.body = true := by kernel_rfl
def N_raw_is_text : List Str := ["size", "thing", "letter"]
def m_raw_is_text : MSs := (.cons (.ret (.bo true (.cons (.isi (.var 1) "tuple") (.cons (.bi .all (.cons (.lc (.call 0 (.cons (.var 2) (.cons (.var 0) .nil))) (.name 2) (.of (.var 1)) .nil [("letter", 2)]) .nil)) .nil))))
  .nil)
theorem k_raw_is_text (k0 : Nat) (p0 : SpD) : chkSs m_raw_is_text ⟨cf, ⟨[C_is_index k0 p0], sub, fdOf cf⟩, N_raw_is_text, d_raw_is_text.scope, fun _ => true, false⟩ d_raw_is_text.body = true := by kernel_rfl
def N_is_shape_row : List Str := ["thing", "size", "states", "state"]
def m_is_shape_row : MSs := (.cons (.ifS (.bo false (.cons (.not (.val (.call 0 (.cons (.var 0) (.cons (.lit (.int 2)) .nil))))) (.cons (.not (.val (.isi (.idx (.var 0) (.lit (.int 0))) "bool"))) (.cons (.not (.val (.call 0 (.cons (.idx (.var 0) (.lit (.int 1))) (.cons (.var 1) .nil))))) .nil)))) (.cons (.ret (.lit (.bl false)))
  .nil) .nil)
  (.cons (.ret (.bi .all (.cons (.lc (.bo false (.cons (.cmp .Is (.var 3) (.lit .non)) (.cons (.call 1 (.cons (.var 3) (.cons (.var 2) .nil))) .nil))) (.name 3) (.of (.idx (.var 0) (.lit (.int 1)))) .nil [("state", 3)]) .nil)))
  .nil))
theorem k_is_shape_row (k0 k1 : Nat) (p0 p1 : SpD) : chkSs m_is_shape_row ⟨cf, ⟨[C_is_tuple_of k0 p0, C_is_index k1 p1], sub, fdOf cf⟩, N_is_shape_row, d_is_shape_row.scope, fun _ => true, false⟩ d_is_shape_row.body = true := by kernel_rfl
def N_is_shape : List Str := ["thing", "states", "row"]
def m_is_shape : MSs := (.cons (.ifS (.bo false (.cons (.not (.val (.call 1 (.cons (.var 0) (.cons (.lit (.int 2)) .nil))))) (.cons (.not (.val (.call 0 (.cons (.idx (.var 0) (.glb 2 (.int 0))) .nil)))) (.cons (.not (.val (.isi (.idx (.var 0) (.glb 3 (.int 1))) "tuple"))) .nil)))) (.cons (.ret (.lit (.bl false)))
  .nil) .nil)
  (.cons (.set (.name 1) (.bi .len (.cons (.idx (.var 0) (.glb 3 (.int 1))) .nil)))
  (.cons (.ret (.bo true (.cons (.chn .LtE .LtE (.lit (.int 1)) (.var 1) (.glb 1 (.int 30))) (.cons (.bi .all (.cons (.lc (.call 2 (.cons (.var 2) (.cons (.idx (.var 0) (.glb 2 (.int 0))) (.cons (.var 1) .nil)))) (.name 2) (.of (.idx (.var 0) (.glb 3 (.int 1)))) .nil [("row", 2)]) .nil)) .nil))))
  .nil)))
theorem k_is_shape (k0 k1 k2 : Nat) (p0 p1 p2 : SpD) : chkSs m_is_shape ⟨cf, ⟨[C_is_size k0 p0, C_is_tuple_of k1 p1, C_is_shape_row k2 p2], sub, fdOf cf⟩, N_is_shape, d_is_shape.scope, fun _ => true, false⟩ d_is_shape.body = true := by kernel_rfl
def N_way_of : List Str := ["shape", "text", "state", "found", "letter"]
def m_way_of : MSs := (.cons (.par2 2 3 (.lit (.int 0)) (.lst .nil))
  (.cons (.forS (.name 4) (.of (.var 1)) (.cons (.ex (.bm .append (.var 3) (.cons (.tup (.cons (.var 2) (.cons (.var 4) .nil))) .nil)))
  (.cons (.set (.name 2) (.idx (.idx (.idx (.idx (.var 0) (.glb 3 (.int 1))) (.var 2)) (.lit (.int 1))) (.var 4)))
  (.cons (.ifS (.cmp .Is (.var 2) (.lit .non)) (.cons (.ret (.lit .non))
  .nil) .nil)
  .nil))))
  (.cons (.ret (.ite (.val (.idx (.idx (.idx (.var 0) (.glb 3 (.int 1))) (.var 2)) (.lit (.int 0)))) (.bin .Add (.var 3) (.lst (.cons (.tup (.cons (.var 2) (.cons (.lit .non) .nil))) .nil))) (.lit .non)))
  .nil)))
theorem k_way_of : chkSs m_way_of ⟨cf, ⟨[], sub, fdOf cf⟩, N_way_of, d_way_of.scope, fun _ => true, false⟩ d_way_of.body = true := by kernel_rfl
def N_counted : List Str := ["shape", "texts", "text", "found", "way", "choice"]
def m_counted : MSs := (.cons (.ifS (.bo false (.cons (.not (.val (.isi (.var 1) "tuple"))) (.cons (.not (.val (.bi .all (.cons (.lc (.call 0 (.cons (.idx (.var 0) (.glb 2 (.int 0))) (.cons (.var 2) .nil))) (.name 2) (.of (.var 1)) .nil [("text", 2)]) .nil)))) .nil))) (.cons (.rse 1 .nil)
  .nil) .nil)
  (.cons (.set (.name 3) .dnew)
  (.cons (.forS (.name 2) (.of (.var 1)) (.cons (.set (.name 4) (.call 1 (.cons (.var 0) (.cons (.var 2) .nil))))
  (.cons (.ifS (.cmp .Is (.var 4) (.lit .non)) (.cons (.rse 1 .nil)
  .nil) .nil)
  (.cons (.forS (.name 5) (.of (.var 4)) (.cons (.setI (.var 3) (.var 5) (.bin .Add (.dget (.var 3) (.cons (.var 5) (.cons (.lit (.int 0)) .nil))) (.lit (.int 1))))
  .nil))
  .nil))))
  (.cons (.ret (.var 3))
  .nil))))
theorem k_counted (k0 k1 : Nat) (p0 p1 : SpD) : chkSs m_counted ⟨cf, ⟨[C_raw_is_text k0 p0, C_way_of k1 p1], sub, fdOf cf⟩, N_counted, d_counted.scope, fun _ => true, false⟩ d_counted.body = true := by kernel_rfl
def N_Sharing___init__ : List Str := ["self", "counts", "count", "room"]
def m_Sharing___init__ : MSs := (.cons (.setF 0 0 (.var 0) (.var 1))
  (.cons (.setF 0 1 (.var 0) (.lst (.cons (.bin .Mult (.lst (.cons (.lit (.int 0)) .nil)) (.bin .Add (.bin .LShift (.lit (.int 1)) (.glb 4 (.int 8))) (.lit (.int 1)))) .nil)))
  (.cons (.forS (.name 2) (.of (.rev (.var 1))) (.cons (.ex (.bm .insert (.fld 0 1 (.var 0)) (.cons (.lit (.int 0)) (.cons (.lc (.meth 0 (.var 0) (.cons (.var 2) (.cons (.var 3) .nil))) (.name 3) (.rng (.cons (.bin .Add (.bin .LShift (.lit (.int 1)) (.glb 4 (.int 8))) (.lit (.int 1))) .nil)) .nil [("room", 3)]) .nil))))
  .nil))
  .nil)))
theorem k_Sharing___init__ (k0 : Nat) (p0 : SpD) : chkSs m_Sharing___init__ ⟨cf, ⟨[C_Sharing_cheapest k0 p0], sub, fdOf cf⟩, N_Sharing___init__, d_Sharing___init__.scope, fun _ => true, false⟩ d_Sharing___init__.body = true := by kernel_rfl
def N_Sharing_cheapest : List Str := ["self", "count", "room", "found", "more", "left", "rest"]
def m_Sharing_cheapest : MSs := (.cons (.set (.name 3) (.lit .non))
  (.cons (.forS (.name 4) (.rng (.cons (.lit (.int 1)) (.cons (.bin .Add (.glb 4 (.int 8)) (.lit (.int 1))) .nil))) (.cons (.set (.name 5) (.bin .Sub (.var 2) (.bin .LShift (.lit (.int 1)) (.bin .Sub (.glb 4 (.int 8)) (.var 4)))))
  (.cons (.set (.name 6) (.ite (.cmp .GtE (.var 5) (.lit (.int 0))) (.idx (.idx (.fld 0 1 (.var 0)) (.lit (.int 0))) (.var 5)) (.lit .non)))
  (.cons (.ifS (.bo true (.cons (.cmp .IsNot (.var 6) (.lit .non)) (.cons (.bo false (.cons (.cmp .Is (.var 3) (.lit .non)) (.cons (.cmp .Lt (.bin .Add (.bin .Mult (.var 1) (.var 4)) (.var 6)) (.var 3)) .nil))) .nil))) (.cons (.set (.name 3) (.bin .Add (.bin .Mult (.var 1) (.var 4)) (.var 6)))
  .nil) .nil)
  .nil))))
  (.cons (.ret (.var 3))
  .nil)))
theorem k_Sharing_cheapest : chkSs m_Sharing_cheapest ⟨cf, ⟨[], sub, fdOf cf⟩, N_Sharing_cheapest, d_Sharing_cheapest.scope, fun _ => true, false⟩ d_Sharing_cheapest.body = true := by kernel_rfl
def N_Sharing_least : List Str := ["self", "found", "room", "at", "count", "more", "left", "rest"]
def m_Sharing_least : MSs := (.cons (.set (.name 1) (.lst .nil))
  (.cons (.set (.name 2) (.bin .LShift (.lit (.int 1)) (.glb 4 (.int 8))))
  (.cons (.forS (.tup (.cons (.name 3) (.cons (.name 4) .nil))) (.enu (.fld 0 0 (.var 0))) (.cons (.forS (.name 5) (.rng (.cons (.lit (.int 1)) (.cons (.bin .Add (.glb 4 (.int 8)) (.lit (.int 1))) .nil))) (.cons (.set (.name 6) (.bin .Sub (.var 2) (.bin .LShift (.lit (.int 1)) (.bin .Sub (.glb 4 (.int 8)) (.var 5)))))
  (.cons (.set (.name 7) (.ite (.cmp .GtE (.var 6) (.lit (.int 0))) (.idx (.idx (.fld 0 1 (.var 0)) (.bin .Add (.var 3) (.lit (.int 1)))) (.var 6)) (.lit .non)))
  (.cons (.ifS (.bo true (.cons (.cmp .IsNot (.var 7) (.lit .non)) (.cons (.cmp .Eq (.bin .Add (.bin .Mult (.var 4) (.var 5)) (.var 7)) (.idx (.idx (.fld 0 1 (.var 0)) (.var 3)) (.var 2))) .nil))) (.cons .brk
  .nil) .nil)
  .nil))))
  (.cons (.ex (.bm .append (.var 1) (.cons (.var 5) .nil)))
  (.cons (.set (.name 2) (.var 6))
  .nil))))
  (.cons (.ret (.var 1))
  .nil))))
theorem k_Sharing_least : chkSs m_Sharing_least ⟨cf, ⟨[], sub, fdOf cf⟩, N_Sharing_least, d_Sharing_least.scope, fun _ => true, false⟩ d_Sharing_least.body = true := by kernel_rfl
def N_lengths_of : List Str := ["choices", "counts"]
def m_lengths_of : MSs := (.cons (.ifS (.cmp .Eq (.bi .len (.cons (.var 0) .nil)) (.lit (.int 1))) (.cons (.ret (.lst (.cons (.ite (.cmp .Is (.idx (.var 0) (.lit (.int 0))) (.lit .non)) (.lit (.int 1)) (.lit (.int 0))) .nil)))
  .nil) .nil)
  (.cons (.ret (.meth 0 (.make 1 (.cons (.var 1) .nil)) .nil))
  .nil))
theorem k_lengths_of (k0 k1 : Nat) (p0 p1 : SpD) : chkSs m_lengths_of ⟨cf, ⟨[C_Sharing_least k0 p0, C_Sharing___init__ k1 p1], sub, fdOf cf⟩, N_lengths_of, d_lengths_of.scope, fun _ => true, false⟩ d_lengths_of.body = true := by kernel_rfl
def N_fitted : List Str := ["shape", "texts", "there", "rows", "state", "has_end", "steps", "choices", "letter", "later", "lengths", "one", "row"]
def m_fitted : MSs := (.cons (.ifS (.not (.val (.call 0 (.cons (.var 0) .nil)))) (.cons (.rse 2 .nil)
  .nil) .nil)
  (.cons (.set (.name 2) (.call 1 (.cons (.var 0) (.cons (.var 1) .nil))))
  (.cons (.set (.name 3) (.lst .nil))
  (.cons (.forS (.tup (.cons (.name 4) (.cons (.tup (.cons (.name 5) (.cons (.name 6) .nil))) .nil))) (.enu (.idx (.var 0) (.glb 3 (.int 1)))) (.cons (.set (.name 7) (.bin .Add (.lc (.var 8) (.tup (.cons (.name 8) (.cons (.name 9) .nil))) (.enu (.var 6)) (.cons (.cmp .IsNot (.var 9) (.lit .non)) .nil) [("letter", 8), ("later", 9)]) (.bin .Mult (.lst (.cons (.lit .non) .nil)) (.var 5))))
  (.cons (.set (.name 10) (.dzip (.var 7) (.call 2 (.cons (.var 7) (.cons (.lc (.dget (.var 2) (.cons (.tup (.cons (.var 4) (.cons (.var 11) .nil))) (.cons (.lit (.int 0)) .nil))) (.name 11) (.of (.var 7)) .nil [("one", 11)]) .nil)))))
  (.cons (.set (.name 12) (.lc (.ite (.cmp .Is (.var 9) (.lit .non)) (.lit .non) (.tup (.cons (.idx (.var 10) (.var 8)) (.cons (.var 9) .nil)))) (.tup (.cons (.name 8) (.cons (.name 9) .nil))) (.enu (.var 6)) .nil [("letter", 8), ("later", 9)]))
  (.cons (.ex (.bm .append (.var 3) (.cons (.tup (.cons (.dget (.var 10) (.cons (.lit .non) .nil)) (.cons (.bi .tuple (.cons (.var 12) .nil)) .nil))) .nil)))
  .nil)))))
  (.cons (.ret (.tup (.cons (.idx (.var 0) (.glb 2 (.int 0))) (.cons (.bi .tuple (.cons (.var 3) .nil)) .nil))))
  .nil)))))
theorem k_fitted (k0 k1 k2 : Nat) (p0 p1 p2 : SpD) : chkSs m_fitted ⟨cf, ⟨[C_is_shape k0 p0, C_counted k1 p1, C_lengths_of k2 p2], sub, fdOf cf⟩, N_fitted, d_fitted.scope, fun _ => true, false⟩ d_fitted.body = true := by kernel_rfl
def N__law_pot : List Str := ["_law_script", "_law_cells", "_law_cell"]
def m__law_pot : MSs := (.cons (.set (.name 1) (.lc (.bi .abs (.cons (.bi .int (.cons (.var 2) .nil)) .nil)) (.name 2) (.of (.slc (.var 0) .nil (.cons (.lit (.int 63)) .nil))) .nil [("_law_cell", 2)]))
  (.cons (.ret (.lst (.cons (.var 1) (.cons (.lit (.int 0)) (.cons (.lit (.int 0)) (.cons (.bin .Add (.lit (.int 1)) (.bi .len (.cons (.var 1) .nil))) (.cons (.lit (.int 0)) .nil)))))))
  .nil))
theorem k__law_pot : chkSs m__law_pot ⟨cf, ⟨[], sub, fdOf cf⟩, N__law_pot, d__law_pot.scope, fun _ => true, false⟩ d__law_pot.body = true := by kernel_rfl
def N__law_draw : List Str := ["_law_pot_here", "_law_many", "_law_cell", "_law_digit", "_law_number"]
def m__law_draw : MSs := (.cons (.ifS (.bo true (.cons (.cmp .Eq (.idx (.var 0) (.lit (.int 2))) (.lit (.int 0))) (.cons (.cmp .Lt (.idx (.var 0) (.lit (.int 1))) (.bi .len (.cons (.idx (.var 0) (.lit (.int 0))) .nil))) .nil))) (.cons (.set (.name 2) (.idx (.idx (.var 0) (.lit (.int 0))) (.idx (.var 0) (.lit (.int 1)))))
  (.cons (.setI (.var 0) (.lit (.int 1)) (.bin .Add (.idx (.var 0) (.lit (.int 1))) (.lit (.int 1))))
  (.cons (.setI (.var 0) (.lit (.int 3)) (.bin .Mod (.bi .int (.cons (.bin .Add (.bin .Add (.bin .Mult (.idx (.var 0) (.lit (.int 3))) (.lit (.int 69621))) (.var 2)) (.lit (.int 11))) .nil)) (.lit (.int 2147483629))))
  (.cons (.ifS (.cmp .GtE (.var 2) (.bin .Pow (.lit (.int 10)) (.lit (.int 18)))) (.cons (.setI (.var 0) (.lit (.int 2)) (.var 2))
  .nil) .nil)
  .nil)))) .nil)
  (.cons (.ifS (.cmp .Gt (.idx (.var 0) (.lit (.int 2))) (.lit (.int 0))) (.cons (.set (.name 3) (.bin .Mod (.bi .int (.cons (.idx (.var 0) (.lit (.int 2))) .nil)) (.var 1)))
  (.cons (.setI (.var 0) (.lit (.int 2)) (.bin .FloorDiv (.idx (.var 0) (.lit (.int 2))) (.var 1)))
  (.cons (.ret (.var 3))
  .nil))) .nil)
  (.cons (.setI (.var 0) (.lit (.int 4)) (.bin .Add (.idx (.var 0) (.lit (.int 4))) (.lit (.int 1))))
  (.cons (.set (.name 4) (.bin .Mod (.bi .int (.cons (.bin .Mult (.bi .int (.cons (.bin .Add (.idx (.var 0) (.lit (.int 3))) (.bin .Mult (.lit (.int 7919)) (.idx (.var 0) (.lit (.int 4))))) .nil)) (.lit (.int 48271))) .nil)) (.lit (.int 2147483647))))
  (.cons (.set (.name 4) (.bin .Mod (.bi .int (.cons (.bin .Mult (.var 4) (.bin .Add (.bin .FloorDiv (.var 4) (.lit (.int 1009))) (.lit (.int 69621)))) .nil)) (.lit (.int 2147483647))))
  (.cons (.set (.name 4) (.bin .Mod (.bi .int (.cons (.bin .Mult (.var 4) (.bin .Add (.bin .FloorDiv (.var 4) (.lit (.int 2003))) (.lit (.int 40692)))) .nil)) (.lit (.int 2147483399))))
  (.cons (.ret (.bin .Mod (.bi .int (.cons (.bin .FloorDiv (.var 4) (.lit (.int 16))) .nil)) (.var 1)))
  .nil)))))))
theorem k__law_draw : chkSs m__law_draw ⟨cf, ⟨[], sub, fdOf cf⟩, N__law_draw, d__law_draw.scope, fun _ => true, false⟩ d__law_draw.body = true := by kernel_rfl
def N__law_any : List Str := ["_law_pot_here", "_law_things"]
def m__law_any : MSs := (.cons (.ret (.idx (.var 1) (.call 0 (.cons (.var 0) (.cons (.bi .len (.cons (.var 1) .nil)) .nil)))))
  .nil)
theorem k__law_any (k0 : Nat) (p0 : SpD) : chkSs m__law_any ⟨cf, ⟨[C__law_draw k0 p0], sub, fdOf cf⟩, N__law_any, d__law_any.scope, fun _ => true, false⟩ d__law_any.body = true := by kernel_rfl
def N__law_mixed : List Str := ["_law_pot_here", "_law_things", "_law_left", "_law_turn"]
def m__law_mixed : MSs := (.cons (.set (.name 2) (.bi .list (.cons (.var 1) .nil)))
  (.cons (.ret (.lc (.bm .popAt (.var 2) (.cons (.call 0 (.cons (.var 0) (.cons (.bi .len (.cons (.var 2) .nil)) .nil))) .nil)) (.name 3) (.rng (.cons (.bi .len (.cons (.var 2) .nil)) .nil)) .nil [("_law_turn", 3)]))
  .nil))
theorem k__law_mixed (k0 : Nat) (p0 : SpD) : chkSs m__law_mixed ⟨cf, ⟨[C__law_draw k0 p0], sub, fdOf cf⟩, N__law_mixed, d__law_mixed.scope, fun _ => true, false⟩ d__law_mixed.body = true := by kernel_rfl
def N__law_is : List Str := ["_law_told", "_law_due", "_law_k"]
def m__law_is : MSs := (.cons (.ifS (.val (.isit (.var 1) ["tuple", "list"])) (.cons (.ifS (.bo false (.cons (.cmp .NotEq (.isi (.var 0) "tuple") (.isi (.var 1) "tuple")) (.cons (.cmp .NotEq (.isi (.var 0) "list") (.isi (.var 1) "list")) .nil))) (.cons (.ret (.lit (.bl false)))
  .nil) .nil)
  (.cons (.ret (.bo true (.cons (.cmp .Eq (.bi .len (.cons (.var 0) .nil)) (.bi .len (.cons (.var 1) .nil))) (.cons (.bi .all (.cons (.lc (.call 0 (.cons (.idx (.var 0) (.var 2)) (.cons (.idx (.var 1) (.var 2)) .nil))) (.name 2) (.rng (.cons (.bi .len (.cons (.var 1) .nil)) .nil)) .nil [("_law_k", 2)]) .nil)) .nil))))
  .nil)) .nil)
  (.cons (.ret (.bo true (.cons (.cmp .Eq (.isi (.var 0) "bool") (.isi (.var 1) "bool")) (.cons (.cmp .Eq (.var 0) (.var 1)) .nil))))
  .nil))
theorem k__law_is (k0 : Nat) (p0 : SpD) : chkSs m__law_is ⟨cf, ⟨[C__law_is k0 p0], sub, fdOf cf⟩, N__law_is, d__law_is.scope, fun _ => true, false⟩ d__law_is.body = true := by kernel_rfl
def N__law_shape : List Str := ["_law_pot_here", "_law_sizes", "_law_states", "_law_size", "_law_many", "_law_rows", "_law_state", "_law_steps", "_law_letter"]
def m__law_shape : MSs := (.cons (.set (.tup (.cons (.name 3) (.cons (.name 4) .nil))) (.tup (.cons (.call 0 (.cons (.var 0) (.cons (.var 1) .nil))) (.cons (.call 0 (.cons (.var 0) (.cons (.var 2) .nil))) .nil))))
  (.cons (.set (.name 5) (.lst .nil))
  (.cons (.forS (.name 6) (.rng (.cons (.var 4) .nil)) (.cons (.set (.name 7) (.lc (.ite (.cmp .Eq (.call 1 (.cons (.var 0) (.cons (.lit (.int 4)) .nil))) (.lit (.int 0))) (.lit .non) (.call 1 (.cons (.var 0) (.cons (.var 4) .nil)))) (.name 8) (.rng (.cons (.var 3) .nil)) .nil [("_law_letter", 8)]))
  (.cons (.ex (.bm .append (.var 5) (.cons (.tup (.cons (.cmp .Gt (.call 1 (.cons (.var 0) (.cons (.lit (.int 3)) .nil))) (.lit (.int 0))) (.cons (.bi .tuple (.cons (.var 7) .nil)) .nil))) .nil)))
  .nil)))
  (.cons (.ret (.tup (.cons (.var 3) (.cons (.bi .tuple (.cons (.var 5) .nil)) .nil))))
  .nil))))
theorem k__law_shape (k0 k1 : Nat) (p0 p1 : SpD) : chkSs m__law_shape ⟨cf, ⟨[C__law_any k0 p0, C__law_draw k1 p1], sub, fdOf cf⟩, N__law_shape, d__law_shape.scope, fun _ => true, false⟩ d__law_shape.body = true := by kernel_rfl
def N__law_text : List Str := ["_law_pot_here", "_law_shape_here", "_law_most", "_law_state", "_law_found", "_law_turn", "_law_end", "_law_steps", "_law_there", "_law_letter"]
def m__law_text : MSs := (.cons (.par2 3 4 (.lit (.int 0)) (.lst .nil))
  (.cons (.forS (.name 5) (.rng (.cons (.var 2) .nil)) (.cons (.set (.tup (.cons (.name 6) (.cons (.name 7) .nil))) (.idx (.idx (.var 1) (.lit (.int 1))) (.var 3)))
  (.cons (.set (.name 8) (.lc (.var 9) (.name 9) (.rng (.cons (.idx (.var 1) (.lit (.int 0))) .nil)) (.cons (.cmp .IsNot (.idx (.var 7) (.var 9)) (.lit .non)) .nil) [("_law_letter", 9)]))
  (.cons (.ifS (.bo true (.cons (.val (.var 6)) (.cons (.bo false (.cons (.cmp .Eq (.var 8) (.lst .nil)) (.cons (.cmp .Eq (.call 0 (.cons (.var 0) (.cons (.lit (.int 4)) .nil))) (.lit (.int 0))) .nil))) .nil))) (.cons (.ret (.bi .tuple (.cons (.var 4) .nil)))
  .nil) .nil)
  (.cons (.ifS (.cmp .Eq (.var 8) (.lst .nil)) (.cons (.ret (.lit .non))
  .nil) .nil)
  (.cons (.set (.name 9) (.ite (.cmp .Eq (.call 0 (.cons (.var 0) (.cons (.lit (.int 2)) .nil))) (.lit (.int 0))) (.idx (.var 8) (.lit (.int 0))) (.call 1 (.cons (.var 0) (.cons (.var 8) .nil)))))
  (.cons (.par2 4 3 (.bin .Add (.var 4) (.lst (.cons (.var 9) .nil))) (.idx (.var 7) (.var 9)))
  .nil)))))))
  (.cons (.ret (.ite (.val (.idx (.idx (.idx (.var 1) (.lit (.int 1))) (.var 3)) (.lit (.int 0)))) (.bi .tuple (.cons (.var 4) .nil)) (.lit .non)))
  .nil)))
theorem k__law_text (k0 k1 : Nat) (p0 p1 : SpD) : chkSs m__law_text ⟨cf, ⟨[C__law_draw k0 p0, C__law_any k1 p1], sub, fdOf cf⟩, N__law_text, d__law_text.scope, fun _ => true, false⟩ d__law_text.body = true := by kernel_rfl
def N__law_texts : List Str := ["_law_pot_here", "_law_shape_here", "_law_many", "_law_found", "_law_turn", "_law_text_here"]
def m__law_texts : MSs := (.cons (.set (.name 3) (.lc (.call 0 (.cons (.var 0) (.cons (.var 1) (.cons (.bin .Add (.lit (.int 1)) (.call 1 (.cons (.var 0) (.cons (.lit (.int 30)) .nil)))) .nil)))) (.name 4) (.rng (.cons (.var 2) .nil)) .nil [("_law_turn", 4)]))
  (.cons (.ret (.bi .tuple (.cons (.lc (.var 5) (.name 5) (.of (.var 3)) (.cons (.cmp .IsNot (.var 5) (.lit .non)) .nil) [("_law_text_here", 5)]) .nil)))
  .nil))
theorem k__law_texts (k0 k1 : Nat) (p0 p1 : SpD) : chkSs m__law_texts ⟨cf, ⟨[C__law_text k0 p0, C__law_draw k1 p1], sub, fdOf cf⟩, N__law_texts, d__law_texts.scope, fun _ => true, false⟩ d__law_texts.body = true := by kernel_rfl
def N__law_counts : List Str := ["_law_shape_here", "_law_texts_here", "_law_found", "_law_row", "_law_text_here", "_law_state", "_law_letter"]
def m__law_counts : MSs := (.cons (.set (.name 2) (.lc (.bin .Mult (.lst (.cons (.lit (.int 0)) .nil)) (.bin .Add (.idx (.var 0) (.lit (.int 0))) (.lit (.int 1)))) (.name 3) (.of (.idx (.var 0) (.lit (.int 1)))) .nil [("_law_row", 3)]))
  (.cons (.forS (.name 4) (.of (.var 1)) (.cons (.set (.name 5) (.lit (.int 0)))
  (.cons (.forS (.name 6) (.of (.var 4)) (.cons (.setI (.idx (.var 2) (.var 5)) (.var 6) (.bin .Add (.idx (.idx (.var 2) (.var 5)) (.var 6)) (.lit (.int 1))))
  (.cons (.set (.name 5) (.idx (.idx (.idx (.idx (.var 0) (.lit (.int 1))) (.var 5)) (.lit (.int 1))) (.var 6)))
  .nil)))
  (.cons (.setI (.idx (.var 2) (.var 5)) (.idx (.var 0) (.lit (.int 0))) (.bin .Add (.idx (.idx (.var 2) (.var 5)) (.idx (.var 0) (.lit (.int 0)))) (.lit (.int 1))))
  .nil))))
  (.cons (.ret (.var 2))
  .nil)))
theorem k__law_counts : chkSs m__law_counts ⟨cf, ⟨[], sub, fdOf cf⟩, N__law_counts, d__law_counts.scope, fun _ => true, false⟩ d__law_counts.body = true := by kernel_rfl
def N__law_choices : List Str := ["_law_shape_here", "_law_state", "_law_end", "_law_steps", "_law_letter"]
def m__law_choices : MSs := (.cons (.set (.tup (.cons (.name 2) (.cons (.name 3) .nil))) (.idx (.idx (.var 0) (.lit (.int 1))) (.var 1)))
  (.cons (.ret (.bin .Add (.lc (.var 4) (.name 4) (.rng (.cons (.idx (.var 0) (.lit (.int 0))) .nil)) (.cons (.cmp .IsNot (.idx (.var 3) (.var 4)) (.lit .non)) .nil) [("_law_letter", 4)]) (.ite (.val (.var 2)) (.lst (.cons (.idx (.var 0) (.lit (.int 0))) .nil)) (.lst .nil))))
  .nil))
theorem k__law_choices : chkSs m__law_choices ⟨cf, ⟨[], sub, fdOf cf⟩, N__law_choices, d__law_choices.scope, fun _ => true, false⟩ d__law_choices.body = true := by kernel_rfl
def N__law_cheapest : List Str := ["_law_counts_here", "_law_at", "_law_room", "_law_known", "_law_found", "_law_more", "_law_left", "_law_rest"]
def m__law_cheapest : MSs := (.cons (.ifS (.cmp .Eq (.var 1) (.bi .len (.cons (.var 0) .nil))) (.cons (.ret (.lit (.int 0)))
  .nil) .nil)
  (.cons (.ifS (.cmp .NotIn (.tup (.cons (.var 1) (.cons (.var 2) .nil))) (.var 3)) (.cons (.set (.name 4) (.lit .non))
  (.cons (.forS (.name 5) (.rng (.cons (.lit (.int 1)) (.cons (.lit (.int 11)) .nil))) (.cons (.set (.name 6) (.bin .Sub (.var 2) (.bin .RShift (.lit (.int 1024)) (.var 5))))
  (.cons (.set (.name 7) (.ite (.cmp .GtE (.var 6) (.bin .Sub (.bin .Sub (.bi .len (.cons (.var 0) .nil)) (.var 1)) (.lit (.int 1)))) (.call 0 (.cons (.var 0) (.cons (.bin .Add (.var 1) (.lit (.int 1))) (.cons (.var 6) (.cons (.var 3) .nil))))) (.lit .non)))
  (.cons (.ifS (.bo true (.cons (.cmp .IsNot (.var 7) (.lit .non)) (.cons (.bo false (.cons (.cmp .Is (.var 4) (.lit .non)) (.cons (.cmp .Lt (.bin .Add (.var 7) (.bin .Mult (.idx (.var 0) (.var 1)) (.var 5))) (.var 4)) .nil))) .nil))) (.cons (.set (.name 4) (.bin .Add (.var 7) (.bin .Mult (.idx (.var 0) (.var 1)) (.var 5))))
  .nil) .nil)
  .nil))))
  (.cons (.setI (.var 3) (.tup (.cons (.var 1) (.cons (.var 2) .nil))) (.var 4))
  .nil))) .nil)
  (.cons (.ret (.idx (.var 3) (.tup (.cons (.var 1) (.cons (.var 2) .nil)))))
  .nil)))
theorem k__law_cheapest (k0 : Nat) (p0 : SpD) : chkSs m__law_cheapest ⟨cf, ⟨[C__law_cheapest k0 p0], sub, fdOf cf⟩, N__law_cheapest, d__law_cheapest.scope, fun _ => true, false⟩ d__law_cheapest.body = true := by kernel_rfl
def N__law_least : List Str := ["_law_counts_here", "_law_is_end", "_law_known", "_law_room", "_law_found", "_law_at", "_law_due", "_law_more", "_law_left", "_law_rest"]
def m__law_least : MSs := (.cons (.ifS (.cmp .Lt (.bi .len (.cons (.var 0) .nil)) (.lit (.int 2))) (.cons (.ret (.bin .Mult (.lst (.cons (.bi .int (.cons (.var 1) .nil)) .nil)) (.bi .len (.cons (.var 0) .nil))))
  .nil) .nil)
  (.cons (.par3 2 3 4 .dnew (.lit (.int 1024)) (.lst .nil))
  (.cons (.forS (.name 5) (.rng (.cons (.bi .len (.cons (.var 0) .nil)) .nil)) (.cons (.set (.name 6) (.call 0 (.cons (.var 0) (.cons (.var 5) (.cons (.var 3) (.cons (.var 2) .nil))))))
  (.cons (.forS (.name 7) (.rng (.cons (.lit (.int 1)) (.cons (.lit (.int 11)) .nil))) (.cons (.set (.name 8) (.bin .Sub (.var 3) (.bin .RShift (.lit (.int 1024)) (.var 7))))
  (.cons (.set (.name 9) (.ite (.cmp .GtE (.var 8) (.bin .Sub (.bin .Sub (.bi .len (.cons (.var 0) .nil)) (.var 5)) (.lit (.int 1)))) (.call 0 (.cons (.var 0) (.cons (.bin .Add (.var 5) (.lit (.int 1))) (.cons (.var 8) (.cons (.var 2) .nil))))) (.lit .non)))
  (.cons (.ifS (.bo true (.cons (.cmp .IsNot (.var 9) (.lit .non)) (.cons (.cmp .Eq (.bin .Add (.var 9) (.bin .Mult (.idx (.var 0) (.var 5)) (.var 7))) (.var 6)) .nil))) (.cons .brk
  .nil) .nil)
  .nil))))
  (.cons (.ex (.bm .append (.var 4) (.cons (.var 7) .nil)))
  (.cons (.set (.name 3) (.bin .Sub (.var 3) (.bin .RShift (.lit (.int 1024)) (.var 7))))
  .nil)))))
  (.cons (.ret (.var 4))
  .nil))))
theorem k__law_least (k0 : Nat) (p0 : SpD) : chkSs m__law_least ⟨cf, ⟨[C__law_cheapest k0 p0], sub, fdOf cf⟩, N__law_least, d__law_least.scope, fun _ => true, false⟩ d__law_least.body = true := by kernel_rfl
def N__law_made : List Str := ["_law_shape_here", "_law_texts_here", "_law_counts_here", "_law_rows", "_law_state", "_law_there", "_law_told", "_law_one", "_law_lengths", "_law_steps", "_law_k"]
def m__law_made : MSs := (.cons (.set (.tup (.cons (.name 2) (.cons (.name 3) .nil))) (.tup (.cons (.call 0 (.cons (.var 0) (.cons (.var 1) .nil))) (.cons (.lst .nil) .nil))))
  (.cons (.forS (.name 4) (.rng (.cons (.bi .len (.cons (.idx (.var 0) (.lit (.int 1))) .nil)) .nil)) (.cons (.set (.name 5) (.call 1 (.cons (.var 0) (.cons (.var 4) .nil))))
  (.cons (.set (.name 6) (.call 2 (.cons (.lc (.idx (.idx (.var 2) (.var 4)) (.var 7)) (.name 7) (.of (.var 5)) .nil [("_law_one", 7)]) (.cons (.cmp .Eq (.var 5) (.lst (.cons (.idx (.var 0) (.lit (.int 0))) .nil))) .nil))))
  (.cons (.set (.name 8) (.dzip (.var 5) (.var 6)))
  (.cons (.set (.name 9) (.lc (.ite (.cmp .Is (.idx (.idx (.idx (.idx (.var 0) (.lit (.int 1))) (.var 4)) (.lit (.int 1))) (.var 10)) (.lit .non)) (.lit .non) (.tup (.cons (.idx (.var 8) (.var 10)) (.cons (.idx (.idx (.idx (.idx (.var 0) (.lit (.int 1))) (.var 4)) (.lit (.int 1))) (.var 10)) .nil)))) (.name 10) (.rng (.cons (.idx (.var 0) (.lit (.int 0))) .nil)) .nil [("_law_k", 10)]))
  (.cons (.ex (.bm .append (.var 3) (.cons (.tup (.cons (.dget (.var 8) (.cons (.idx (.var 0) (.lit (.int 0))) (.cons (.lit .non) .nil))) (.cons (.bi .tuple (.cons (.var 9) .nil)) .nil))) .nil)))
  .nil))))))
  (.cons (.ret (.tup (.cons (.idx (.var 0) (.lit (.int 0))) (.cons (.bi .tuple (.cons (.var 3) .nil)) .nil))))
  .nil)))
theorem k__law_made (k0 k1 k2 : Nat) (p0 p1 p2 : SpD) : chkSs m__law_made ⟨cf, ⟨[C__law_counts k0 p0, C__law_choices k1 p1, C__law_least k2 p2], sub, fdOf cf⟩, N__law_made, d__law_made.scope, fun _ => true, false⟩ d__law_made.body = true := by kernel_rfl
def N__law_great : List Str := ["_law_pot_here", "_law_shape_here", "_law_order", "_law_much", "_law_found", "_law_by", "_law_letter"]
def m__law_great : MSs := (.cons (.par3 2 3 4 (.call 0 (.cons (.var 0) (.cons (.lrng (.cons (.idx (.var 1) (.lit (.int 0))) .nil)) .nil))) (.lit (.int 1)) (.lst .nil))
  (.cons (.set (.name 5) (.call 1 (.cons (.var 0) (.cons (.lst (.cons (.lit (.int 1)) (.cons (.lit (.int 2)) (.cons (.lit (.int 3)) .nil)))) .nil))))
  (.cons (.forS (.name 6) (.of (.var 2)) (.cons (.ifS (.cmp .LtE (.bin .Add (.bi .len (.cons (.var 4) .nil)) (.var 3)) (.lit (.int 380))) (.cons (.ex (.bm .extend (.var 4) (.cons (.bin .Mult (.lst (.cons (.tup (.cons (.var 6) .nil)) .nil)) (.var 3)) .nil)))
  .nil) .nil)
  (.cons (.set (.name 3) (.bin .Add (.bin .Mult (.var 3) (.var 5)) (.call 2 (.cons (.var 0) (.cons (.lit (.int 2)) .nil)))))
  .nil)))
  (.cons (.ret (.bi .tuple (.cons (.var 4) .nil)))
  .nil))))
theorem k__law_great (k0 k1 k2 : Nat) (p0 p1 p2 : SpD) : chkSs m__law_great ⟨cf, ⟨[C__law_mixed k0 p0, C__law_any k1 p1, C__law_draw k2 p2], sub, fdOf cf⟩, N__law_great, d__law_great.scope, fun _ => true, false⟩ d__law_great.body = true := by kernel_rfl
def N__law_long : List Str := ["_law_pot_here", "_law_shape_here", "_law_found", "_law_turn", "_law_state", "_law_text_here", "_law_last", "_law_seldom", "_law_again", "_law_there", "_law_letter"]
def m__law_long : MSs := (.cons (.set (.name 2) (.lst .nil))
  (.cons (.forS (.name 3) (.rng (.cons (.bin .Add (.lit (.int 1)) (.call 0 (.cons (.var 0) (.cons (.lit (.int 2)) .nil)))) .nil)) (.cons (.set (.tup (.cons (.name 4) (.cons (.name 5) (.cons (.name 6) (.cons (.name 7) .nil))))) (.tup (.cons (.lit (.int 0)) (.cons (.lst .nil) (.cons (.lit (.int 0)) (.cons (.bin .Add (.lit (.int 2)) (.call 0 (.cons (.var 0) (.cons (.lit (.int 9)) .nil)))) .nil))))))
  (.cons (.forS (.name 8) (.rng (.cons (.bin .Add (.lit (.int 1000)) (.call 0 (.cons (.var 0) (.cons (.lit (.int 1500)) .nil)))) .nil)) (.cons (.set (.name 9) (.lc (.var 10) (.name 10) (.rng (.cons (.idx (.var 1) (.lit (.int 0))) .nil)) (.cons (.cmp .IsNot (.idx (.idx (.idx (.idx (.var 1) (.lit (.int 1))) (.var 4)) (.lit (.int 1))) (.var 10)) (.lit .non)) .nil) [("_law_letter", 10)]))
  (.cons (.ifS (.cmp .Eq (.var 9) (.lst .nil)) (.cons .brk
  .nil) .nil)
  (.cons (.set (.name 10) (.ite (.cmp .Gt (.call 0 (.cons (.var 0) (.cons (.var 7) .nil))) (.lit (.int 0))) (.idx (.var 9) (.lit (.int 0))) (.call 1 (.cons (.var 0) (.cons (.var 9) .nil)))))
  (.cons (.ex (.bm .append (.var 5) (.cons (.var 10) .nil)))
  (.cons (.set (.name 4) (.idx (.idx (.idx (.idx (.var 1) (.lit (.int 1))) (.var 4)) (.lit (.int 1))) (.var 10)))
  (.cons (.set (.name 6) (.ite (.val (.idx (.idx (.idx (.var 1) (.lit (.int 1))) (.var 4)) (.lit (.int 0)))) (.bi .len (.cons (.var 5) .nil)) (.var 6)))
  .nil)))))))
  (.cons (.ifS (.bo false (.cons (.cmp .Gt (.var 6) (.lit (.int 0))) (.cons (.val (.idx (.idx (.idx (.var 1) (.lit (.int 1))) (.lit (.int 0))) (.lit (.int 0)))) .nil))) (.cons (.ex (.bm .append (.var 2) (.cons (.bi .tuple (.cons (.slc (.var 5) .nil (.cons (.var 6) .nil)) .nil)) .nil)))
  .nil) .nil)
  .nil))))
  (.cons (.ret (.bi .tuple (.cons (.var 2) .nil)))
  .nil)))
theorem k__law_long (k0 k1 : Nat) (p0 p1 : SpD) : chkSs m__law_long ⟨cf, ⟨[C__law_draw k0 p0, C__law_any k1 p1], sub, fdOf cf⟩, N__law_long, d__law_long.scope, fun _ => true, false⟩ d__law_long.body = true := by kernel_rfl
def N_law : List Str := ["_law_script", "_law_pot_here", "_law_turn", "_law_shape_here", "_law_texts_here"]
def m_law : MSs := (.cons (.set (.name 1) (.call 0 (.cons (.var 0) .nil)))
  (.cons (.forS (.name 2) (.rng (.cons (.lit (.int 3)) .nil)) (.cons (.set (.name 3) (.call 1 (.cons (.var 1) (.cons (.lst (.cons (.lit (.int 3)) (.cons (.lit (.int 4)) (.cons (.lit (.int 5)) (.cons (.lit (.int 6)) (.cons (.lit (.int 8)) .nil)))))) (.cons (.lst (.cons (.lit (.int 1)) (.cons (.lit (.int 1)) (.cons (.lit (.int 2)) (.cons (.lit (.int 3)) .nil))))) .nil)))))
  (.cons (.set (.name 4) (.call 2 (.cons (.var 1) (.cons (.var 3) (.cons (.call 3 (.cons (.var 1) (.cons (.lst (.cons (.lit (.int 0)) (.cons (.lit (.int 1)) (.cons (.lit (.int 8)) (.cons (.lit (.int 40)) (.cons (.lit (.int 100)) .nil)))))) .nil))) .nil)))))
  (.cons (.ifS (.cmp .Eq (.call 4 (.cons (.var 1) (.cons (.lit (.int 24)) .nil))) (.lit (.int 0))) (.cons (.set (.name 3) (.call 1 (.cons (.var 1) (.cons (.lst (.cons (.lit (.int 2)) (.cons (.lit (.int 3)) (.cons (.lit (.int 6)) .nil)))) (.cons (.lst (.cons (.lit (.int 1)) (.cons (.lit (.int 2)) (.cons (.lit (.int 8)) (.cons (.lit (.int 30)) .nil))))) .nil)))))
  (.cons (.set (.name 4) (.call 5 (.cons (.var 1) (.cons (.var 3) .nil))))
  .nil)) (.cons (.ifS (.cmp .Eq (.call 4 (.cons (.var 1) (.cons (.lit (.int 3)) .nil))) (.lit (.int 0))) (.cons (.set (.name 3) (.tup (.cons (.idx (.var 3) (.lit (.int 0))) (.cons (.tup (.cons (.tup (.cons (.lit (.bl true)) (.cons (.bin .Mult (.tup (.cons (.lit (.int 0)) .nil)) (.idx (.var 3) (.lit (.int 0)))) .nil))) .nil)) .nil))))
  (.cons (.set (.name 4) (.call 6 (.cons (.var 1) (.cons (.var 3) .nil))))
  .nil)) .nil)
  .nil))
  (.cons (.ifS (.not (.val (.call 7 (.cons (.call 9 (.cons (.var 3) (.cons (.var 4) .nil))) (.cons (.call 8 (.cons (.var 3) (.cons (.var 4) .nil))) .nil))))) (.cons (.ret (.lit (.bl false)))
  .nil) .nil)
  .nil)))))
  (.cons (.ret (.lit (.bl true)))
  .nil)))
theorem k_law (k0 k1 k2 k3 k4 k5 k6 k7 k8 k9 : Nat) (p0 p1 p2 p3 p4 p5 p6 p7 p8 p9 : SpD) : chkSs m_law ⟨cf, ⟨[C__law_pot k0 p0, C__law_shape k1 p1, C__law_texts k2 p2, C__law_any k3 p3, C__law_draw k4 p4, C__law_long k5 p5, C__law_great k6 p6, C__law_is k7 p7, C__law_made k8 p8, C_fitted k9 p9], sub, fdOf cf⟩, N_law, d_law.scope, fun _ => true, false⟩ d_law.body = true := by kernel_rfl
end H41
set_option Elab.async false
set_option linter.all false
set_option maxRecDepth 100000
set_option maxHeartbeats 1000000
namespace H41
open PySem PySem.Spec PyProof.Rows L2 DL
def sp_is_integer : SpD := fun ds M Q _ => match ds with
  | [d] => kn M d = true ∧ Q (.bl (isI d)) M
  | _ => False
theorem h_is_integer : ∀ ds M Q0 E0, sp_is_integer ds M Q0 E0 → ds.length = 1 ∧ wpSs ⟨[], sub, fdOf cf⟩ (wF E0) none m_is_integer (endsF Q0) (startD N_is_integer.length ds) M := by
  intro ds M Q0 E0 h
  unfold sp_is_integer at h
  split at h
  · rename_i d
    obtain ⟨hT, hq⟩ := h
    refine ⟨rfl, ?_⟩
    unfold m_is_integer
    refine wp_last ?_
    show DL.wpS _ _ _ _ _ [some d] M
    simp only [DL.wpS, DL.wpE, wpBo, List.getElem?_cons_zero, isi_int hT, isi_bool hT, vTru]
    have := rt_of hq Sub.rfl'
    cases d <;> simpa [isI, isB] using this
  · exact h.elim
def btw (l m : Int) : D → Bool | .int i => decide (l ≤ i) && decide (i ≤ m) | _ => false
def sp_is_between : SpD := fun ds M Q _ => match ds with
  | [d, .int l, .int m] => kn M d = true ∧ Q (.bl (btw l m d)) M
  | _ => False
theorem h_is_between (k : Nat) : ∀ ds M Q0 E0, sp_is_between ds M Q0 E0 → ds.length = 3 ∧ wpSs ⟨[C_is_integer k sp_is_integer], sub, fdOf cf⟩ (wF E0) none m_is_between (endsF Q0) (startD N_is_between.length ds) M := by
  intro ds M Q0 E0 h
  unfold sp_is_between at h
  split at h
  · rename_i d l m
    obtain ⟨hT, hq⟩ := h
    refine ⟨rfl, ?_⟩
    unfold m_is_between
    refine wp_last ?_
    show DL.wpS _ _ _ _ _ [some d, some (.int l), some (.int m)] M
    have := rt_of hq Sub.rfl'
    simp only [DL.wpS, DL.wpE, wpBo, DL.wpA, List.getElem?_cons_zero, List.getElem?_cons_succ, sp_is_integer, hT, vTru, true_and]
    cases d <;> simp [isI, cmpS, vOrd, btw] at this ⊢
    · exact this
    · exact this
    · rename_i i
      by_cases h1 : l ≤ i <;> simp [h1] at this ⊢ <;> exact this
    · exact this
    · exact this
    · exact this
  · exact h.elim
def sp_is_index : SpD := fun ds M Q _ => match ds with
  | [d, .int n] => kn M d = true ∧ Q (.bl (btw 0 (n - 1) d)) M
  | _ => False
theorem h_is_index (k : Nat) : ∀ ds M Q0 E0, sp_is_index ds M Q0 E0 → ds.length = 2 ∧ wpSs ⟨[C_is_between k sp_is_between], sub, fdOf cf⟩ (wF E0) none m_is_index (endsF Q0) (startD N_is_index.length ds) M := by
  intro ds M Q0 E0 h
  unfold sp_is_index at h
  split at h
  · rename_i d n
    obtain ⟨hT, hq⟩ := h
    refine ⟨rfl, ?_⟩
    unfold m_is_index
    refine wp_last ?_
    show DL.wpS _ _ _ _ _ [some d, some (.int n)] M
    simp only [DL.wpS, DL.wpE, DL.wpA, List.getElem?_cons_zero, List.getElem?_cons_succ, binS, vSub, vI, sp_is_between, hT, true_and]
    exact rt_of hq Sub.rfl'
  · exact h.elim
def tupOf (n : Int) : D → Bool | .tup xs => decide ((xs.length : Int) = n) | _ => false
def sp_is_tuple_of : SpD := fun ds M Q _ => match ds with
  | [d, .int n] => kn M d = true ∧ Q (.bl (tupOf n d)) M
  | _ => False
theorem h_is_tuple_of : ∀ ds M Q0 E0, sp_is_tuple_of ds M Q0 E0 → ds.length = 2 ∧ wpSs ⟨[], sub, fdOf cf⟩ (wF E0) none m_is_tuple_of (endsF Q0) (startD N_is_tuple_of.length ds) M := by
  intro ds M Q0 E0 h
  unfold sp_is_tuple_of at h
  split at h
  · rename_i d n
    obtain ⟨hT, hq⟩ := h
    refine ⟨rfl, ?_⟩
    unfold m_is_tuple_of
    refine wp_last ?_
    show DL.wpS _ _ _ _ _ [some d, some (.int n)] M
    have := rt_of hq Sub.rfl'
    simp only [DL.wpS, DL.wpE, wpBo, DL.wpA, List.getElem?_cons_zero, List.getElem?_cons_succ, isi_tup hT, vTru]
    cases d <;> simp [isTp, tupOf] at this ⊢
    case tup xs => simpa [biS, rdS, cmpS, vEqK] using this
    all_goals exact this
  · exact h.elim
def sp_is_size : SpD := fun ds M Q _ => match ds with
  | [d] => kn M d = true ∧ Q (.bl (btw 1 8 d)) M
  | _ => False
theorem h_is_size (k : Nat) : ∀ ds M Q0 E0, sp_is_size ds M Q0 E0 → ds.length = 1 ∧ wpSs ⟨[C_is_between k sp_is_between], sub, fdOf cf⟩ (wF E0) none m_is_size (endsF Q0) (startD N_is_size.length ds) M := by
  intro ds M Q0 E0 h
  unfold sp_is_size at h
  split at h
  · rename_i d
    obtain ⟨hT, hq⟩ := h
    refine ⟨rfl, ?_⟩
    unfold m_is_size
    refine wp_last ?_
    show DL.wpS _ _ _ _ _ [some d] M
    simp only [DL.wpS, DL.wpE, DL.wpA, List.getElem?_cons_zero, sp_is_between, hT, true_and]
    exact rt_of hq Sub.rfl'
  · exact h.elim
/-- a text's letters -/
def textOk (n : Int) : D → Bool | .tup xs => xs.all (btw 0 (n - 1)) | _ => false
def sp_raw_is_text : SpD := fun ds M Q _ => match ds with
  | [.int n, d] => Kw M d ∧ Q (.bl (textOk n d)) M
  | _ => False
theorem h_raw_is_text (k : Nat) : ∀ ds M Q0 E0, sp_raw_is_text ds M Q0 E0 → ds.length = 2 ∧ wpSs ⟨[C_is_index k sp_is_index], sub, fdOf cf⟩ (wF E0) none m_raw_is_text (endsF Q0) (startD N_raw_is_text.length ds) M := by
  intro ds M Q0 E0 h
  unfold sp_raw_is_text at h
  split at h
  · rename_i n d
    obtain ⟨hT, hq⟩ := h
    refine ⟨rfl, ?_⟩
    unfold m_raw_is_text
    refine wp_last ?_
    show DL.wpS _ _ _ _ _ [some (.int n), some d, none] M
    have := rt_of hq Sub.rfl'
    simp only [DL.wpS, DL.wpE, wpBo, DL.wpA, List.getElem?_cons_zero, List.getElem?_cons_succ, isi_tup hT.kn, vTru]
    cases d
    case tup xs =>
      obtain ⟨hl, hk⟩ := hT.tup'
      simp only [isTp, if_true, DL.wpI, DL.wpE, List.getElem?_cons_zero, List.getElem?_cons_succ, itsOf, wpIf]
      refine lc_map (fun x => .bl (btw 0 (n - 1) x)) trivial xs _ (Nat.le_trans hl (by decide)) (fun d hd K1 h1 => ?_) fun p hp => ?_
      · simp only [wpTg, wipeD, List.map_cons, List.map_nil, List.set_cons_succ, List.set_cons_zero, DL.wpE, DL.wpA, List.getElem?_cons_zero, List.getElem?_cons_succ, sp_is_index]
        exact ⟨(hk d hd).kn, h1⟩
      · simp only [biS, rdL_new, mapM_asBl]
        refine rt_of (M' := M) ?_ (Sub.new hp)
        have e : ((xs.map (btw 0 (n - 1))).all id) = textOk n (.tup xs) := by simp [textOk, List.all_map]
        rw [e]; exact hq
    all_goals (simp only [isTp, textOk, Bool.false_eq_true, if_false] at this ⊢; exact this)
  · exact h.elim

end H41
set_option Elab.async false
set_option linter.all false
set_option maxRecDepth 100000
set_option maxHeartbeats 1000000
namespace H41
open PySem PySem.Spec PyProof.Rows L2 DL
def stepOk (states : Int) (s : D) : Bool := DL.isNon s || btw 0 (states - 1) s
def rowOk (size states : Int) : D → Bool | .tup [.bl _, .tup ss] => decide ((ss.length : Int) = size) && ss.all (stepOk states) | _ => false
theorem tupOf2 {xs : List D} : tupOf 2 (.tup xs) = true ↔ ∃ a b, xs = [a, b] := by
  unfold tupOf
  rw [decide_eq_true_eq]
  constructor
  · intro h
    match xs, h with
    | [a, b], _ => exact ⟨a, b, rfl⟩
    | [], h => simp at h
    | [a], h => simp at h
    | a :: b :: c :: r, h => simp at h; omega
  · rintro ⟨a, b, rfl⟩; rfl
def sp_is_shape_row : SpD := fun ds M Q _ => match ds with
  | [d, .int n, .int m] => Kw M d ∧ Q (.bl (rowOk n m d)) M
  | _ => False
theorem h_is_shape_row (k k2 : Nat) : ∀ ds M Q0 E0, sp_is_shape_row ds M Q0 E0 → ds.length = 3 ∧ wpSs ⟨[C_is_tuple_of k sp_is_tuple_of, C_is_index k2 sp_is_index], sub, fdOf cf⟩ (wF E0) none m_is_shape_row (endsF Q0) (startD N_is_shape_row.length ds) M := by
  intro ds M Q0 E0 h
  unfold sp_is_shape_row at h
  split at h
  · rename_i d n m
    obtain ⟨hT, hq⟩ := h
    refine ⟨rfl, ?_⟩
    unfold m_is_shape_row
    refine wp_cons ?_
    show DL.wpS _ _ _ _ _ [some d, some (.int n), some (.int m), none] M
    have bad : rowOk n m d = false → (endsF Q0).rt (.bl false) M := fun e => by rw [e] at hq; exact rt_of hq Sub.rfl'
    simp only [DL.wpS, wpT, wpTs, DL.wpE, DL.wpA, List.getElem?_cons_zero, List.getElem?_cons_succ, sp_is_tuple_of, hT.kn, true_and, vTru]
    by_cases ht : tupOf 2 d = true
    · simp only [ht, Bool.not_true, if_true]
      cases d
      case tup xs =>
        obtain ⟨a, b, rfl⟩ := tupOf2.mp ht
        obtain ⟨hlen0, hk⟩ := hT.tup'
        have ka := hk a (by simp)
        have kb := hk b (by simp)
        simp only [vGet_0, vGet_1, isi_bool ka.kn, kb.kn, true_and, vTru]
        cases hb : isB a with
        | false =>
          simp only [Bool.not_false, Bool.true_eq_false, if_false, if_true]
          refine wp_last ?_
          simp only [DL.wpS, DL.wpE]
          exact bad (by cases a <;> first | rfl | cases hb)
        | true =>
          simp only [Bool.not_true, if_true]
          cases b
          case tup ss =>
            cases a <;> first | cases hb | skip
            rename_i z
            obtain ⟨hl, hks⟩ := kb.tup'
            cases hn : tupOf n (.tup ss) with
            | false =>
              simp only [Bool.not_false, if_true]
              refine wp_last ?_
              simp only [DL.wpS, DL.wpE]
              refine bad ?_
              simp [tupOf] at hn
              simp [rowOk, hn]
            | true =>
              simp only [Bool.not_true, Bool.false_eq_true, if_false]
              refine wp_nil ?_
              refine wp_last ?_
              simp only [DL.wpS, DL.wpE, DL.wpA, DL.wpI, List.getElem?_cons_zero, vGet_1, itsOf, wpIf]
              refine lc_map (fun x => .bl (stepOk m x)) trivial ss _ (Nat.le_trans hl (by decide)) (fun d hd K1 h1 => ?_) fun p hp => ?_
              · simp only [wpTg, wipeD, List.map_cons, List.map_nil, List.set_cons_succ, List.set_cons_zero, DL.wpE, DL.wpA, wpBo, List.getElem?_cons_zero, List.getElem?_cons_succ, sp_is_index, (hks d hd).kn, true_and, cmpS, vIsK]
                unfold stepOk at h1
                have hkd := (hks d hd).kn
                cases d <;> simp [DL.isNon, vTru, hkd] at h1 ⊢ <;> exact h1
              · simp only [biS, rdL_new, mapM_asBl]
                refine rt_of (M' := M) ?_ (Sub.new hp)
                have e : ((ss.map (stepOk m)).all id) = rowOk n m (.tup [.bl z, .tup ss]) := by
                  simp [tupOf] at hn
                  simp [rowOk, List.all_map, hn]
                rw [e]; exact hq
          all_goals
            (simp only [tupOf, Bool.not_false, if_true]
             refine wp_last ?_
             simp only [DL.wpS, DL.wpE]
             exact bad (by cases a <;> rfl))
      all_goals cases ht
    · rw [Bool.not_eq_true] at ht
      simp only [ht, Bool.not_false, Bool.true_eq_false, if_false, if_true]
      refine wp_last ?_
      simp only [DL.wpS, DL.wpE]
      refine bad ?_
      cases d
      case tup xs =>
        match xs, ht with
        | [], _ => rfl
        | [a], _ => cases a <;> rfl
        | [a, b], h => cases h
        | a :: b :: c :: r, _ => cases a <;> cases b <;> rfl
      all_goals rfl
  · exact h.elim

def shapeOk : D → Bool
  | .tup [.int n, .tup rows] => btw 1 8 (.int n) && (decide (1 ≤ (rows.length : Int)) && decide ((rows.length : Int) ≤ 30)) && rows.all (rowOk n rows.length)
  | _ => false
def sp_is_shape : SpD := fun ds M Q _ => match ds with
  | [d] => Kw M d ∧ Q (.bl (shapeOk d)) M
  | _ => False
theorem h_is_shape (k k2 k3 : Nat) : ∀ ds M Q0 E0, sp_is_shape ds M Q0 E0 → ds.length = 1 ∧ wpSs ⟨[C_is_size k sp_is_size, C_is_tuple_of k2 sp_is_tuple_of, C_is_shape_row k3 sp_is_shape_row], sub, fdOf cf⟩ (wF E0) none m_is_shape (endsF Q0) (startD N_is_shape.length ds) M := by
  intro ds M Q0 E0 h
  unfold sp_is_shape at h
  split at h
  · rename_i d
    obtain ⟨hT, hq⟩ := h
    refine ⟨rfl, ?_⟩
    unfold m_is_shape
    refine wp_cons ?_
    show DL.wpS _ _ _ _ _ [some d, none, none] M
    have bad : shapeOk d = false → (endsF Q0).rt (.bl false) M := fun e => by rw [e] at hq; exact rt_of hq Sub.rfl'
    simp only [DL.wpS, wpT, wpTs, DL.wpE, DL.wpA, List.getElem?_cons_zero, List.getElem?_cons_succ, sp_is_tuple_of, hT.kn, true_and, vTru]
    by_cases ht : tupOf 2 d = true
    · simp only [ht, Bool.not_true, if_true]
      cases d
      case tup xs =>
        obtain ⟨a, b, rfl⟩ := tupOf2.mp ht
        obtain ⟨hlen0, hk⟩ := hT.tup'
        have ka := hk a (by simp)
        have kb := hk b (by simp)
        simp only [vGet_0, vGet_1, sp_is_size, isi_tup kb.kn, ka.kn, true_and, vTru]
        cases hb : btw 1 8 a with
        | false =>
          simp only [Bool.not_false, Bool.true_eq_false, if_false, if_true]
          refine wp_last ?_
          simp only [DL.wpS, DL.wpE]
          exact bad (by cases a <;> cases b <;> first | rfl | simp [shapeOk, hb])
        | true =>
          cases a <;> first | cases hb | skip
          rename_i n
          simp only [Bool.not_true, if_true]
          cases b
          case tup ss =>
            obtain ⟨hl, hks⟩ := kb.tup'
            simp only [isTp, Bool.not_true, Bool.false_eq_true, if_false]
            refine wp_nil ?_
            refine wp_cons ?_
            simp only [DL.wpS, DL.wpE, DL.wpA, List.getElem?_cons_zero, vGet_1, biS, rdS, wpTg, List.set_cons_succ, List.set_cons_zero]
            refine wp_last ?_
            simp only [DL.wpS, DL.wpE, wpBo, List.getElem?_cons_zero, List.getElem?_cons_succ, cmpS, vOrd]
            by_cases h1 : (1 : Int) ≤ (ss.length : Int)
            · by_cases h2 : (ss.length : Int) ≤ 30
              · simp only [h1, h2, decide_true, if_true, vTru, DL.wpI, DL.wpE, DL.wpA, List.getElem?_cons_zero, vGet_1, itsOf, wpIf]
                refine lc_map (fun x => .bl (rowOk n ss.length x)) trivial ss _ (Nat.le_trans hl (by decide)) (fun d hd K1 h1 => ?_) fun p hp => ?_
                · simp only [wpTg, wipeD, List.map_cons, List.map_nil, List.set_cons_succ, List.set_cons_zero, DL.wpE, DL.wpA, List.getElem?_cons_zero, List.getElem?_cons_succ, vGet_0, sp_is_shape_row]
                  exact ⟨hks d hd, h1⟩
                · simp only [biS, rdL_new, mapM_asBl]
                  refine rt_of (M' := M) ?_ (Sub.new hp)
                  have e : ((ss.map (rowOk n ss.length)).all id) = shapeOk (.tup [.int n, .tup ss]) := by
                    simp [shapeOk, List.all_map, h1, h2, hb]
                  rw [e]; exact hq
              · simp only [h1, h2, decide_true, decide_false, vTru, Bool.false_eq_true, if_false]
                exact bad (by simp [shapeOk, h2])
            · simp only [h1, decide_false, vTru, Bool.false_eq_true, if_false]
              exact bad (by simp [shapeOk, h1])
          all_goals
            (simp only [isTp, Bool.not_false, if_true]
             refine wp_last ?_
             simp only [DL.wpS, DL.wpE]
             exact bad rfl)
      all_goals cases ht
    · rw [Bool.not_eq_true] at ht
      simp only [ht, Bool.not_false, Bool.true_eq_false, if_false, if_true]
      refine wp_last ?_
      simp only [DL.wpS, DL.wpE]
      refine bad ?_
      cases d
      case tup xs =>
        match xs, ht with
        | [], _ => rfl
        | [a], _ => cases a <;> rfl
        | [a, b], h => cases h
        | a :: b :: c :: r, _ => cases a <;> cases b <;> rfl
      all_goals rfl
  · exact h.elim
end H41
set_option Elab.async false
set_option linter.all false
set_option maxRecDepth 100000
set_option maxHeartbeats 1000000
namespace H41
open PySem PySem.Spec PyProof.Rows L2 DL
/-! ### shapes as data of Lean -/
abbrev Row := Bool × List (Option Nat)
def encStep : Option Nat → D | none => .non | some k => .int (k : Nat)
def encRow (r : Row) : D := .tup [.bl r.1, .tup (r.2.map encStep)]
def encRows (rs : List Row) : List D := rs.map encRow
def encShape (n : Nat) (rs : List Row) : D := .tup [.int (n : Nat), .tup (encRows rs)]
structure ShOk (n : Nat) (rs : List Row) : Prop where
  n1 : 1 ≤ n
  n8 : n ≤ 8
  r1 : 1 ≤ rs.length
  r30 : rs.length ≤ 30
  len : ∀ r ∈ rs, r.2.length = n
  to : ∀ r ∈ rs, ∀ k, some k ∈ r.2 → k < rs.length
theorem stepOk_enc {m : Nat} {s : D} (h : stepOk m s = true) : ∃ o : Option Nat, s = encStep o ∧ ∀ k, o = some k → k < m := by
  unfold stepOk at h
  cases s with
  | non => exact ⟨none, rfl, fun k e => nomatch e⟩
  | int i =>
    simp [DL.isNon, btw] at h
    refine ⟨some i.toNat, ?_, fun k e => ?_⟩
    · unfold encStep; congr 1; omega
    · cases e; omega
  | _ => simp [DL.isNon, btw] at h
theorem steps_enc {m : Nat} : ∀ {ss : List D}, ss.all (stepOk m) = true → ∃ os : List (Option Nat), ss = os.map encStep ∧ ∀ k, some k ∈ os → k < m
  | [], _ => ⟨[], rfl, fun k h => nomatch h⟩
  | s :: ss, h => by
    rw [List.all_cons, Bool.and_eq_true] at h
    obtain ⟨o, e1, e2⟩ := stepOk_enc h.1
    obtain ⟨os, e3, e4⟩ := steps_enc h.2
    refine ⟨o :: os, by rw [e1, e3]; rfl, fun k hk => ?_⟩
    rcases List.mem_cons.mp hk with q | q
    · exact e2 k q.symm
    · exact e4 k q
theorem rowOk_enc {n m : Nat} {d : D} (h : rowOk n m d = true) : ∃ r : Row, d = encRow r ∧ r.2.length = n ∧ ∀ k, some k ∈ r.2 → k < m := by
  unfold rowOk at h
  split at h
  · rename_i b ss
    rw [Bool.and_eq_true, decide_eq_true_eq] at h
    obtain ⟨os, e1, e2⟩ := steps_enc h.2
    refine ⟨(b, os), by rw [e1]; rfl, ?_, e2⟩
    have := h.1
    rw [e1, List.length_map] at this
    show os.length = n
    omega
  · cases h
theorem rows_enc {n m : Nat} : ∀ {ds : List D}, ds.all (rowOk n m) = true → ∃ rs : List Row, ds = encRows rs ∧ (∀ r ∈ rs, r.2.length = n) ∧ ∀ r ∈ rs, ∀ k, some k ∈ r.2 → k < m
  | [], _ => ⟨[], rfl, fun r h => (nomatch h), fun r h => (nomatch h)⟩
  | d :: ds, h => by
    rw [List.all_cons, Bool.and_eq_true] at h
    obtain ⟨r, e1, e2, e3⟩ := rowOk_enc h.1
    obtain ⟨rs, e4, e5, e6⟩ := rows_enc h.2
    refine ⟨r :: rs, by rw [e1, e4]; rfl, fun r' hr => ?_, fun r' hr => ?_⟩
    · rcases List.mem_cons.mp hr with rfl | q
      · exact e2
      · exact e5 r' q
    · rcases List.mem_cons.mp hr with rfl | q
      · exact e3
      · exact e6 r' q
theorem shape_enc {d : D} (h : shapeOk d = true) : ∃ n rs, d = encShape n rs ∧ ShOk n rs := by
  unfold shapeOk at h
  split at h
  · rename_i i rows
    simp [btw] at h
    obtain ⟨⟨⟨h1, h2⟩, h3, h4⟩, h5⟩ := h
    obtain ⟨n, rfl⟩ : ∃ n : Nat, i = n := ⟨i.toNat, by omega⟩
    obtain ⟨rs, e1, e2, e3⟩ := rows_enc (n := n) (m := rows.length) (ds := rows) (List.all_eq_true.mpr h5)
    have hl : rows.length = rs.length := by rw [e1]; simp [encRows]
    refine ⟨n, rs, by rw [e1]; rfl, by omega, by omega, by omega, by omega, e2, fun r hr k hk => by rw [← hl]; exact e3 r hr k hk⟩
  · cases h
theorem text_enc {n : Nat} {d : D} (h : textOk n d = true) : ∃ ls : List Nat, d = .tup (ls.map fun k : Nat => D.int (k : Nat)) ∧ ∀ k ∈ ls, k < n := by
  unfold textOk at h
  split at h
  · rename_i xs
    have : ∀ {xs : List D}, xs.all (btw 0 ((n : Int) - 1)) = true → ∃ ls : List Nat, xs = ls.map (fun k : Nat => D.int (k : Nat)) ∧ ∀ k ∈ ls, k < n := by
      intro xs
      induction xs with
      | nil => exact fun _ => ⟨[], rfl, fun k h => nomatch h⟩
      | cons x xs ih =>
        intro h
        rw [List.all_cons, Bool.and_eq_true] at h
        obtain ⟨ls, e1, e2⟩ := ih h.2
        have h1 := h.1
        cases x with
        | int i =>
          simp [btw] at h1
          refine ⟨i.toNat :: ls, by rw [e1, List.map_cons]; congr 2; omega, fun k hk => ?_⟩
          rcases List.mem_cons.mp hk with rfl | q
          · omega
          · exact e2 k q
        | _ => simp [btw] at h1
    obtain ⟨ls, e1, e2⟩ := this h
    exact ⟨ls, by rw [e1], e2⟩
  · cases h
/-- the way of a text: state by state -/
def way (rs : List Row) : Nat → List Nat → Option (List (Nat × Option Nat))
  | st, [] => match rs[st]? with
    | some r => if r.1 = true then some [(st, none)] else none
    | none => none
  | st, l :: ls => match rs[st]? with
    | some r => match r.2[l]? with
      | some (some s') => (way rs s' ls).map ((st, some l) :: ·)
      | _ => none
    | none => none
def encCh (c : Nat × Option Nat) : D := .tup [.int (c.1 : Nat), encStep c.2]
def sp_way_of : SpD := fun ds M Q _ => match ds with
  | [s, .tup t] => ∃ n rs ls, s = encShape n rs ∧ ShOk n rs ∧ t = (ls.map fun k : Nat => D.int (k : Nat)) ∧ (∀ k ∈ ls, k < n) ∧ ls.length ≤ 1048576 ∧ (match way rs 0 ls with
    | none => Q .non M
    | some w => ∀ p, M p = none → Q (.obj p) (mup M p (.lst (w.map encCh))))
  | _ => False
theorem Sub.of_new {M : Mem} {p : Addr} {o : MO} (h : M p = none) : Sub M (mup M p o) := Sub.new h
theorem rdL_same {M : Mem} {p : Addr} {xs : List D} : rdL (mup M p (.lst xs)) p = some xs := rdL_new
theorem mup_mup {M : Mem} {p : Addr} {a b : MO} : mup (mup M p a) p b = mup M p b := by
  funext x; unfold mup; split <;> rfl
theorem way_lt {rs : List Row} {n : Nat} (h : ShOk n rs) {st l : Nat} (h1 : st < rs.length) (h2 : l < n) : ∃ r o, rs[st]? = some r ∧ r.2[l]? = some o ∧ (∀ k, o = some k → k < rs.length) := by
  have e1 : rs[st]? = some rs[st] := List.getElem?_eq_getElem h1
  have m : rs[st] ∈ rs := List.getElem_mem h1
  have hl := h.len _ m
  have e2 : rs[st].2[l]? = some (rs[st].2[l]'(by omega)) := List.getElem?_eq_getElem (by omega)
  refine ⟨rs[st], _, e1, e2, fun k hk => h.to _ m k ?_⟩
  rw [← hk]; exact List.getElem_mem _
theorem enc_row {rs : List Row} {st : Nat} {r : Row} (h : rs[st]? = some r) : (encRows rs)[st]? = some (encRow r) := by
  unfold encRows; rw [List.getElem?_map, h]; rfl
theorem enc_step {r : Row} {l : Nat} {o : Option Nat} (h : r.2[l]? = some o) : (r.2.map encStep)[l]? = some (encStep o) := by
  rw [List.getElem?_map, h]; rfl
theorem sub_mup {M M' : Mem} {p : Addr} {o : MO} (h : Sub M M') : Sub (mup M p o) (mup M' p o) := fun a u e => by
  unfold mup at e ⊢
  split
  · rename_i q; rw [if_pos q] at e; exact e
  · rename_i q; rw [if_neg q] at e; exact h a u e
theorem h_way_of : ∀ ds M Q0 E0, sp_way_of ds M Q0 E0 → ds.length = 2 ∧ wpSs ⟨[], sub, fdOf cf⟩ (wF E0) none m_way_of (endsF Q0) (startD N_way_of.length ds) M := by
  intro ds M Q0 E0 h
  unfold sp_way_of at h
  split at h
  · rename_i s t
    obtain ⟨n, rs, ls, rfl, hS, rfl, hls, hlen, hq⟩ := h
    refine ⟨rfl, ?_⟩
    unfold m_way_of
    refine wp_cons ?_
    show DL.wpS _ _ _ _ _ [some (encShape n rs), some (.tup (ls.map fun k : Nat => D.int (k : Nat))), none, none, none] M
    simp only [DL.wpS, DL.wpE, DL.wpA, List.set_cons_succ, List.set_cons_zero]
    intro p hp
    refine wp_cons ?_
    simp only [DL.wpS, DL.wpI, DL.wpE, List.getElem?_cons_zero, List.getElem?_cons_succ, itsOf]
    refine ⟨fun i ρ M' => ∃ (st : Nat) (pre : List (Nat × Option Nat)) (x : Option D), ρ = [some (encShape n rs), some (.tup (ls.map fun k : Nat => D.int (k : Nat))), some (.int (st : Nat)), some (.obj p), x] ∧ M' = mup M p (.lst (pre.map encCh)) ∧ pre.length = i ∧ i ≤ ls.length ∧ st < rs.length ∧ way rs 0 ls = (way rs st (ls.drop i)).map (pre ++ ·), ⟨0, [], none, rfl, rfl, rfl, Nat.zero_le _, hS.r1, by simp⟩, ?_⟩
    rintro i ρ M' ⟨st, pre, x, rfl, rfl, hi, hle, hst, hw⟩
    refine ⟨trivial, ?_⟩
    have e1 : rs[st]? = some rs[st] := List.getElem?_eq_getElem hst
    cases hx : ls[i]? with
    | none =>
      have hil : i = ls.length := by
        have := List.getElem?_eq_none_iff.mp hx
        omega
      rw [List.getElem?_map, hx]
      simp only [Option.map_none]
      refine wp_last ?_
      simp only [DL.wpS, DL.wpE, DL.wpA, wpT, List.getElem?_cons_zero, List.getElem?_cons_succ, encShape, vGet_1, vGet_0, vGet_tup (enc_row e1), encRow, vTru]
      rw [hil, List.drop_length] at hw
      simp only [way, e1] at hw
      cases hb : rs[st].1 with
      | true =>
        simp only [hb, if_true, Option.map_some] at hw ⊢
        intro p1 hp1
        have hpp : p ≠ p1 := fun e => by subst e; rw [mup_same] at hp1; cases hp1
        have hM1 : M p1 = none := by rw [mup_ne (Ne.symm hpp)] at hp1; exact hp1
        unfold binS vAdd
        simp only [mup_ne hpp, mup_same]
        refine ⟨?_, fun p2 hp2 => ?_⟩
        · rw [List.length_map, List.length_singleton, hi]
          exact Nat.le_trans (Nat.succ_le_succ (Nat.le_trans hle hlen)) (by decide)
        · have h21 : p2 ≠ p1 := fun e => by subst e; rw [mup_same] at hp2; cases hp2
          rw [mup_ne h21] at hp2
          have h2p : p2 ≠ p := fun e => by subst e; rw [mup_same] at hp2; cases hp2
          rw [mup_ne h2p] at hp2
          rw [hw] at hq
          have := hq p2 hp2
          refine rt_of this ?_
          rw [List.map_append]
          refine sub_mup ?_
          exact Sub.trans (Sub.new hp) (Sub.new (by rw [mup_ne (Ne.symm hpp)]; exact hM1))
      | false =>
        simp only [hb, Bool.false_eq_true, if_false, Option.map_none] at hw ⊢
        rw [hw] at hq
        exact rt_of hq (Sub.new hp)
    | some l =>
      have hl : l < n := hls l (List.mem_of_getElem? hx)
      obtain ⟨r, o, e2, e3, ho⟩ := way_lt hS hst hl
      rw [List.getElem?_map, hx]
      simp only [Option.map_some, wpTg, List.set_cons_succ, List.set_cons_zero]
      have hil : i < ls.length := (List.getElem?_eq_some_iff.mp hx).1
      have hdr : ls.drop i = l :: ls.drop (i + 1) := by
        rw [List.drop_eq_getElem_cons hil]
        congr 1
        exact (List.getElem?_eq_some_iff.mp hx).2
      rw [hdr] at hw
      simp only [way, e2, e3] at hw
      refine wp_cons ?_
      simp only [DL.wpS, DL.wpE, DL.wpA, recv, bmS, BM.ty, List.getElem?_cons_zero, List.getElem?_cons_succ, rdL_new, mup_same, mup_mup]
      refine ⟨⟨trivial, rfl⟩, by rw [List.length_map, hi]; exact Nat.lt_of_lt_of_le hil (Nat.le_trans hlen (by decide)), ?_⟩
      refine wp_cons ?_
      simp only [DL.wpS, DL.wpE, DL.wpA, List.getElem?_cons_zero, List.getElem?_cons_succ, encShape, vGet_1, vGet_tup (enc_row e2), encRow, vGet_tup (enc_step e3), wpTg, List.set_cons_succ, List.set_cons_zero]
      refine wp_last ?_
      cases o with
      | none =>
        simp only [DL.wpS, DL.wpE, wpT, encStep, List.getElem?_cons_zero, List.getElem?_cons_succ, cmpS, vIsK, DL.isNon, vTru, if_true]
        refine wp_last ?_
        simp only [DL.wpS, DL.wpE]
        rw [hw] at hq
        exact rt_of hq (Sub.new hp)
      | some k =>
        simp only [DL.wpS, DL.wpE, wpT, encStep, List.getElem?_cons_zero, List.getElem?_cons_succ, cmpS, vIsK, DL.isNon, vTru, Bool.false_eq_true, if_false]
        refine wp_nil ?_
        refine ⟨_, Sub.rfl', k, pre ++ [(st, some l)], some (.int (l : Nat)), rfl, ?_, by simp [hi], hil, ho k rfl, ?_⟩
        · rw [List.map_append]; rfl
        · rw [hw]
          simp [Option.map_map, Function.comp_def]
  · exact h.elim
end H41
set_option Elab.async false
set_option linter.all false
set_option maxRecDepth 100000
set_option maxHeartbeats 1000000
namespace H41
open PySem PySem.Spec PyProof.Rows L2 DL
/-! ### tallies -/
theorem encStep_inj {a b : Option Nat} (h : encStep a = encStep b) : a = b := by
  cases a <;> cases b <;> simp [encStep] at h <;> first | rfl | (subst h; rfl) | (congr 1; omega)
theorem encCh_inj {a b : Nat × Option Nat} (h : encCh a = encCh b) : a = b := by
  unfold encCh at h
  have h1 : a.1 = b.1 := by
    have := h
    simp at this
    omega
  have h2 : encStep a.2 = encStep b.2 := by
    have := h
    simp at this
    exact this.2
  exact Prod.ext h1 (encStep_inj h2)
def cntOf (kvs : List (D × D)) (c : Nat × Option Nat) : Int := match dlook kvs (encCh c) with | some (.int i) => i | _ => 0
def tick (kvs : List (D × D)) (c : Nat × Option Nat) : List (D × D) := dput kvs (encCh c) (.int (cntOf kvs c + 1))
def tally (kvs : List (D × D)) (cs : List (Nat × Option Nat)) : List (D × D) := cs.foldl tick kvs
def smallC (c : Nat × Option Nat) : Prop := c.1 < 30 ∧ ∀ l, c.2 = some l → l < 8
structure GoodD (kvs : List (D × D)) : Prop where
  nd : (kvs.map (·.1)).Nodup
  ok : ∀ e ∈ kvs, ∃ c i, e = (encCh c, .int i) ∧ smallC c
theorem GoodD.nil : GoodD [] := ⟨by simp, fun _ h => nomatch h⟩
theorem dput_keys (kvs : List (D × D)) (k v : D) : (dput kvs k v).map (·.1) = if kvs.any (fun p => eqD p.1 k) then kvs.map (·.1) else kvs.map (·.1) ++ [k] := by
  unfold dput
  split
  · rw [List.map_map]
    refine List.map_congr_left fun p _ => ?_
    show (if eqD p.1 k = true then (p.1, v) else p).1 = p.1
    split <;> rfl
  · simp
theorem GoodD.tick {kvs : List (D × D)} (g : GoodD kvs) {c : Nat × Option Nat} (hc : smallC c) : GoodD (tick kvs c) := by
  constructor
  · unfold H41.tick
    rw [dput_keys]
    split
    · exact g.nd
    · rename_i h
      rw [List.nodup_append]
      refine ⟨g.nd, by simp, fun a ha b hb => ?_⟩
      rw [List.mem_singleton] at hb
      subst hb
      rintro rfl
      obtain ⟨p, hp, e⟩ := List.mem_map.mp ha
      exact h (List.any_eq_true.mpr ⟨p, hp, eqD_iff.mpr e⟩)
  · intro e he
    unfold H41.tick dput at he
    split at he
    · obtain ⟨p, hp, e1⟩ := List.mem_map.mp he
      split at e1
      · rename_i h
        rw [eqD_iff] at h
        exact ⟨c, _, by rw [← e1, h], hc⟩
      · rw [← e1]; exact g.ok p hp
    · rcases List.mem_append.mp he with h | h
      · exact g.ok e h
      · rw [List.mem_singleton] at h
        exact ⟨c, _, h, hc⟩
theorem GoodD.tally {kvs : List (D × D)} (g : GoodD kvs) : ∀ {cs : List (Nat × Option Nat)}, (∀ c ∈ cs, smallC c) → GoodD (tally kvs cs) := by
  intro cs
  induction cs generalizing kvs with
  | nil => exact fun _ => g
  | cons c cs ih => exact fun h => ih (g.tick (h c (List.mem_cons_self ..))) fun c' hc => h c' (List.mem_cons_of_mem _ hc)
theorem tally_app (kvs : List (D × D)) (a b : List (Nat × Option Nat)) : tally kvs (a ++ b) = tally (tally kvs a) b := List.foldl_append ..
theorem tally_snoc (kvs : List (D × D)) (a : List (Nat × Option Nat)) (c : Nat × Option Nat) : tally kvs (a ++ [c]) = tick (tally kvs a) c := by rw [tally_app]; rfl
theorem GoodD.look {kvs : List (D × D)} (g : GoodD kvs) {k v : D} (h : dlook kvs k = some v) : ∃ i, v = .int i := by
  unfold dlook at h
  cases e : kvs.find? (fun p => eqD p.1 k) with
  | none => rw [e] at h; cases h
  | some p =>
    rw [e] at h
    cases h
    obtain ⟨c, i, e1, _⟩ := g.ok p (List.mem_of_find?_eq_some e)
    exact ⟨i, by rw [e1]⟩
theorem GoodD.get {kvs : List (D × D)} (g : GoodD kvs) (c : Nat × Option Nat) : (dlook kvs (encCh c)).getD (.int 0) = .int (cntOf kvs c) := by
  unfold cntOf
  cases e : dlook kvs (encCh c) with
  | none => rfl
  | some v => obtain ⟨i, rfl⟩ := g.look e; rfl
theorem nkey_encCh (c : Nat × Option Nat) : ∃ q, nkey (encCh c) = some q ∧ q.depth ≤ 8 := by
  obtain ⟨s, o⟩ := c
  cases o with
  | none => exact ⟨_, rfl, by simp [NestedKey.depth, NestedKey.depthAll]⟩
  | some l => exact ⟨_, rfl, by simp [NestedKey.depth, NestedKey.depthAll]⟩
theorem GoodD.key {kvs : List (D × D)} (g : GoodD kvs) (c : Nat × Option Nat) : keyOk kvs (encCh c) = true := by
  unfold keyOk
  obtain ⟨q, e1, e2⟩ := nkey_encCh c
  rw [e1]
  have h : (kvs.all fun p => isTup p.1) = true := List.all_eq_true.mpr fun p hp => by
    obtain ⟨c', i, e, _⟩ := g.ok p hp
    rw [e]; rfl
  rw [h]
  simp [isTup, encCh, e2]
/-- so many numbers below n -/
theorem nodup_lt : ∀ (n : Nat) (l : List Nat), l.Nodup → (∀ x ∈ l, x < n) → l.length ≤ n
  | 0, l, _, h => by
    cases l with
    | nil => exact Nat.le_refl _
    | cons a l => exact absurd (h a (List.mem_cons_self ..)) (Nat.not_lt_zero _)
  | n + 1, l, nd, h => by
    have h1 := nodup_lt n (l.erase n) (nd.erase n) fun x hx => by
      have := (nd.mem_erase_iff).mp hx
      have := h x this.2
      omega
    have h2 := List.length_erase_le (a := n) (l := l)
    by_cases hm : n ∈ l
    · have := List.length_erase_of_mem hm
      omega
    · rw [List.erase_of_not_mem hm] at h1
      omega
def codeC (c : Nat × Option Nat) : Nat := c.1 * 9 + (match c.2 with | none => 8 | some l => l)
theorem GoodD.len {kvs : List (D × D)} (g : GoodD kvs) : kvs.length ≤ 270 := by
  obtain ⟨cs, e, hs⟩ : ∃ cs : List (Nat × Option Nat), kvs.map (·.1) = cs.map encCh ∧ ∀ c ∈ cs, smallC c := by
    have := g.ok
    clear g
    induction kvs with
    | nil => exact ⟨[], rfl, fun _ h => nomatch h⟩
    | cons p kvs ih =>
      obtain ⟨cs, e, h⟩ := ih fun e he => this e (List.mem_cons_of_mem _ he)
      obtain ⟨c, i, e1, hc⟩ := this p (List.mem_cons_self ..)
      refine ⟨c :: cs, by rw [List.map_cons, List.map_cons, e, e1], fun c' hc' => ?_⟩
      rcases List.mem_cons.mp hc' with rfl | q
      · exact hc
      · exact h c' q
  have nd := g.nd
  rw [e] at nd
  have l1 : kvs.length = cs.length := by
    have := congrArg List.length e
    simpa using this
  have nd2 : (cs.map codeC).Nodup := by
    rw [List.Nodup, List.pairwise_map] at nd ⊢
    refine List.Pairwise.imp_of_mem (fun {a b} ha hb hab hc => ?_) nd
    apply hab
    have h1 := hs a ha
    have h2 := hs b hb
    obtain ⟨a1, a2⟩ := a
    obtain ⟨b1, b2⟩ := b
    unfold codeC at hc
    unfold smallC at h1 h2
    cases a2 with
    | none =>
      cases b2 with
      | none => simp at hc; rw [show a1 = b1 by omega]
      | some l => have := h2.2 l rfl; simp at hc; omega
    | some k =>
      have := h1.2 k rfl
      cases b2 with
      | none => simp at hc; omega
      | some l => have := h2.2 l rfl; simp at hc; rw [show a1 = b1 by omega, show k = l by omega]
  have := nodup_lt 270 _ nd2 fun x hx => by
    obtain ⟨c, hc, rfl⟩ := List.mem_map.mp hx
    have h1 := hs c hc
    unfold smallC at h1
    unfold codeC
    cases e2 : c.2 with
    | none => simp; omega
    | some l => have := h1.2 l e2; simp; omega
  rw [List.length_map] at this
  omega
/-! ### texts -/
def encText (ls : List Nat) : D := .tup (ls.map fun k : Nat => D.int (k : Nat))
def letD : D → Nat | .int i => i.toNat | _ => 0
def lets : D → List Nat | .tup xs => xs.map letD | _ => []
theorem lets_enc (ls : List Nat) : lets (encText ls) = ls := by
  simp [lets, encText, Function.comp_def, letD]
def areTexts (n : Nat) (rs : List Row) : D → Bool
  | .tup ts => ts.all fun t => textOk n t && (way rs 0 (lets t)).isSome
  | _ => false
/-- the choices of all texts -/
def taken (rs : List Row) : D → List (Nat × Option Nat)
  | .tup ts => (ts.map fun t => (way rs 0 (lets t)).getD []).flatten
  | _ => []
theorem way_small {n : Nat} {rs : List Row} (hS : ShOk n rs) : ∀ (ls : List Nat) (st : Nat) (w : List (Nat × Option Nat)), (∀ k ∈ ls, k < n) → st < rs.length → way rs st ls = some w → ∀ c ∈ w, smallC c
  | [], st, w, _, hst, h, c, hc => by
    unfold way at h
    split at h
    · split at h
      · cases h
        rw [List.mem_singleton] at hc
        subst hc
        exact ⟨Nat.lt_of_lt_of_le hst hS.r30, fun l e => nomatch e⟩
      · cases h
    · cases h
  | l :: ls, st, w, hl, hst, h, c, hc => by
    obtain ⟨r, o, e1, e2, e3⟩ := way_lt hS hst (hl l (List.mem_cons_self ..))
    simp only [way, e1, e2] at h
    cases o with
    | none => cases h
    | some k =>
      simp only at h
      cases e : way rs k ls with
      | none => rw [e] at h; cases h
      | some w' =>
        rw [e] at h
        cases h
        rcases List.mem_cons.mp hc with rfl | q
        · refine ⟨Nat.lt_of_lt_of_le hst hS.r30, fun l' e' => ?_⟩
          cases e'
          exact Nat.lt_of_lt_of_le (hl l (List.mem_cons_self ..)) hS.n8
        · exact way_small hS ls k w' (fun k' hk => hl k' (List.mem_cons_of_mem _ hk)) (e3 k rfl) e c q
end H41
set_option Elab.async false
set_option linter.all false
set_option maxRecDepth 100000
set_option maxHeartbeats 1000000
namespace H41
open PySem PySem.Spec PyProof.Rows L2 DL
def takenL (rs : List Row) (ts : List D) : List (Nat × Option Nat) := (ts.map fun t => (way rs 0 (lets t)).getD []).flatten
theorem takenL_snoc (rs : List Row) (ts : List D) (t : D) : takenL rs (ts ++ [t]) = takenL rs ts ++ (way rs 0 (lets t)).getD [] := by simp [takenL]
def sp_counted : SpD := fun ds M Q E => match ds with
  | [s, d] => ∃ n rs, s = encShape n rs ∧ ShOk n rs ∧ Kw M d ∧ (if areTexts n rs d = true then ∀ p, M p = none → Q (.obj p) (mup M p (.dct (tally [] (taken rs d)))) else E ⟨1, []⟩ M)
  | _ => False
theorem text_lets {n : Nat} {d : D} (h : textOk n d = true) : d = encText (lets d) ∧ ∀ k ∈ lets d, k < n := by
  obtain ⟨ls, rfl, hl⟩ := text_enc h
  have := lets_enc ls
  unfold encText at this
  rw [this]
  exact ⟨rfl, hl⟩
theorem take_snoc {α : Type} {xs : List α} {i : Nat} {d : α} (h : xs[i]? = some d) : xs.take (i + 1) = xs.take i ++ [d] := by
  rw [List.take_add_one, h]; rfl
theorem use_way {n : Nat} {rs : List Row} (hS : ShOk n rs) {t : D} (e1 : t = encText (lets t)) (e2 : ∀ k ∈ lets t, k < n) (kl : (lets t).length ≤ 1048576) {M : Mem} {Q : DK} {E : Ex → Mem → Prop} (h : match way rs 0 (lets t) with
    | none => Q .non M
    | some w => ∀ p, M p = none → Q (.obj p) (mup M p (.lst (w.map encCh)))) : sp_way_of [encShape n rs, t] M Q E := by
  rw [e1]
  exact ⟨n, rs, lets t, rfl, hS, rfl, e2, kl, h⟩
theorem h_counted (k k2 : Nat) : ∀ ds M Q0 E0, sp_counted ds M Q0 E0 → ds.length = 2 ∧ wpSs ⟨[C_raw_is_text k sp_raw_is_text, C_way_of k2 sp_way_of], sub, fdOf cf⟩ (wF E0) none m_counted (endsF Q0) (startD N_counted.length ds) M := by
  intro ds M Q0 E0 h
  unfold sp_counted at h
  split at h
  · rename_i s d
    obtain ⟨n, rs, rfl, hS, hT, hq⟩ := h
    refine ⟨rfl, ?_⟩
    unfold m_counted
    have bad : areTexts n rs d = false → ∀ ρ M', Sub M M' → wF E0 ⟨1, []⟩ ρ M' := fun e ρ M' s => by
      rw [e] at hq; exact ⟨M, s, by simpa using hq⟩
    refine wp_cut (fun ρ' M' => ρ' = [some (encShape n rs), some d, none, none, none, none] ∧ Sub M M' ∧ ∃ ts, d = .tup ts ∧ ts.all (textOk n) = true) ?_ ?_
    · show DL.wpS _ _ _ _ _ [some (encShape n rs), some d, none, none, none, none] M
      simp only [DL.wpS, wpT, wpTs, DL.wpE, DL.wpA, List.getElem?_cons_zero, List.getElem?_cons_succ, isi_tup hT.kn, vTru]
      cases d
      case tup ts =>
        obtain ⟨hl, hk⟩ := hT.tup'
        simp only [isTp, Bool.not_true, Bool.false_eq_true, if_false, DL.wpI, DL.wpE, List.getElem?_cons_zero, List.getElem?_cons_succ, itsOf, wpIf]
        refine lc_map (fun x => .bl (textOk n x)) trivial ts _ (Nat.le_trans hl (by decide)) (fun d hd K1 h1 => ?_) fun p hp => ?_
        · simp only [wpTg, wipeD, List.map_cons, List.map_nil, List.set_cons_succ, List.set_cons_zero, DL.wpE, DL.wpA, List.getElem?_cons_zero, List.getElem?_cons_succ, encShape, vGet_0, sp_raw_is_text]
          exact ⟨hk d hd, h1⟩
        · simp only [biS, rdL_new, mapM_asBl, vTru]
          have e : ((ts.map (textOk n)).all id) = ts.all (textOk n) := by simp [List.all_map]
          rw [e]
          cases ha : ts.all (textOk n) with
          | true =>
            simp only [Bool.not_true, Bool.false_eq_true, if_false]
            exact wp_nil ⟨rfl, Sub.new hp, ts, rfl, ha⟩
          | false =>
            simp only [Bool.not_false, if_true]
            refine wp_last ?_
            simp only [DL.wpS, DL.wpA]
            refine bad ?_ _ _ (Sub.new hp)
            obtain ⟨t, ht, e2⟩ := List.all_eq_false.mp ha
            unfold areTexts
            refine List.all_eq_false.mpr ⟨t, ht, ?_⟩
            rw [Bool.not_eq_true] at e2
            rw [e2]; simp
      all_goals
        (simp only [isTp, Bool.not_false, if_true]
         refine wp_last ?_
         simp only [DL.wpS, DL.wpA]
         exact bad rfl _ _ Sub.rfl')
    · rintro ρ' M' ⟨rfl, hsub, ts, rfl, ha⟩
      obtain ⟨hl, hk⟩ := hT.tup'
      refine ⟨M, hsub, ?_⟩
      refine wp_cons ?_
      simp only [DL.wpS, DL.wpE, wpTg, List.set_cons_succ, List.set_cons_zero]
      intro q hqn
      refine wp_cons ?_
      simp only [DL.wpS, DL.wpI, DL.wpE, List.getElem?_cons_zero, List.getElem?_cons_succ, itsOf]
      refine ⟨fun i ρ M' => ∃ x2 x4 x5, ρ = [some (encShape n rs), some (.tup ts), x2, some (.obj q), x4, x5] ∧ M' = mup M q (.dct (tally [] (takenL rs (ts.take i)))) ∧ i ≤ ts.length ∧ ∀ t ∈ ts.take i, (way rs 0 (lets t)).isSome = true, ⟨none, none, none, rfl, rfl, Nat.zero_le _, fun t ht => by simp at ht⟩, ?_⟩
      rintro i ρ M' ⟨x2, x4, x5, rfl, rfl, hle, hw⟩
      refine ⟨trivial, ?_⟩
      have small : ∀ t ∈ ts, ∀ c ∈ (way rs 0 (lets t)).getD [], smallC c := fun t ht c hc => by
        have := text_lets (List.all_eq_true.mp ha t ht)
        cases e : way rs 0 (lets t) with
        | none => rw [e] at hc; cases hc
        | some w => rw [e] at hc; exact way_small hS _ 0 w this.2 hS.r1 e c hc
      have smallL : ∀ c ∈ takenL rs (ts.take i), smallC c := fun c hc => by
        unfold takenL at hc
        obtain ⟨l, hl', hc'⟩ := List.mem_flatten.mp hc
        obtain ⟨t, ht, rfl⟩ := List.mem_map.mp hl'
        exact small t (List.mem_of_mem_take ht) c hc'
      cases hx : ts[i]? with
      | none =>
        have hil : i = ts.length := by
          have := List.getElem?_eq_none_iff.mp hx
          omega
        simp only []
        refine wp_last ?_
        simp only [DL.wpS, DL.wpE, List.getElem?_cons_zero, List.getElem?_cons_succ]
        rw [hil, List.take_length] at hw ⊢
        have e : areTexts n rs (.tup ts) = true := by
          unfold areTexts
          refine List.all_eq_true.mpr fun t ht => ?_
          rw [List.all_eq_true.mp ha t ht, hw t ht]; rfl
        rw [e, if_pos rfl] at hq
        exact rt_of (hq q hqn) Sub.rfl'
      | some t =>
        have ht : t ∈ ts := List.mem_of_getElem? hx
        have hil : i < ts.length := (List.getElem?_eq_some_iff.mp hx).1
        obtain ⟨e1, e2⟩ := text_lets (List.all_eq_true.mp ha t ht)
        have klen : (lets t).length ≤ 1048576 := by
          have := hk t ht
          rw [e1] at this
          have := this.tup'.1
          simpa using this
        simp only [wpTg, List.set_cons_succ, List.set_cons_zero]
        refine wp_cut (fun ρ' M' => match way rs 0 (lets t) with
          | none => ρ' = [some (encShape n rs), some (.tup ts), some t, some (.obj q), some .non, x5] ∧ Sub M M'
          | some w => ∃ p, p ≠ q ∧ M p = none ∧ ρ' = [some (encShape n rs), some (.tup ts), some t, some (.obj q), some (.obj p), x5] ∧ M' = mup (mup M q (.dct (tally [] (takenL rs (ts.take i))))) p (.lst (w.map encCh))) ?_ ?_
        · simp only [DL.wpS, DL.wpE, DL.wpA, List.getElem?_cons_zero, List.getElem?_cons_succ, wpTg, List.set_cons_succ, List.set_cons_zero]
          refine use_way hS e1 e2 klen ?_
          cases e : way rs 0 (lets t) with
          | none => exact ⟨rfl, Sub.new hqn⟩
          | some w =>
            intro p hp
            have hpq : p ≠ q := fun z => by subst z; rw [mup_same] at hp; cases hp
            rw [mup_ne hpq] at hp
            exact ⟨p, hpq, hp, rfl, rfl⟩
        · intro ρ' M' hm
          cases e : way rs 0 (lets t) with
          | none =>
            rw [e] at hm
            obtain ⟨rfl, hs⟩ := hm
            refine ⟨M', Sub.rfl', wp_cons ?_⟩
            simp only [DL.wpS, DL.wpE, wpT, List.getElem?_cons_zero, List.getElem?_cons_succ, cmpS, vIsK, DL.isNon, vTru, Bool.false_eq_true, if_false, if_true]
            refine wp_last ?_
            simp only [DL.wpS, DL.wpA]
            refine bad ?_ _ _ hs
            unfold areTexts
            refine List.all_eq_false.mpr ⟨t, ht, ?_⟩
            rw [e]; simp
          | some w =>
            rw [e] at hm
            obtain ⟨p, hpq, hp, rfl, rfl⟩ := hm
            refine ⟨_, Sub.rfl', wp_cons ?_⟩
            simp only [DL.wpS, DL.wpE, wpT, List.getElem?_cons_zero, List.getElem?_cons_succ, cmpS, vIsK, DL.isNon, vTru, Bool.false_eq_true, if_false, if_true]
            refine wp_nil ?_
            refine wp_last ?_
            simp only [DL.wpS, DL.wpI, DL.wpE, List.getElem?_cons_zero, List.getElem?_cons_succ, itsOf, rdL_new]
            refine ⟨fun j ρ M' => ∃ x5, ρ = [some (encShape n rs), some (.tup ts), some t, some (.obj q), some (.obj p), x5] ∧ M' = mup (mup M q (.dct (tally [] (takenL rs (ts.take i) ++ w.take j)))) p (.lst (w.map encCh)) ∧ j ≤ w.length, ⟨x5, rfl, by simp, Nat.zero_le _⟩, ?_⟩
            rintro j ρ M' ⟨y5, rfl, rfl, hj⟩
            refine ⟨rdL_new, ?_⟩
            cases hy : w[j]? with
            | none =>
              have hjl : j = w.length := by
                have := List.getElem?_eq_none_iff.mp hy
                omega
              rw [List.getElem?_map, hy]
              simp only [Option.map_none]
              refine ⟨mup M q (.dct (tally [] (takenL rs (ts.take (i + 1))))), ?_, some t, some (.obj p), y5, rfl, rfl, hil, fun t' ht' => ?_⟩
              · rw [take_snoc hx, takenL_snoc, e, hjl, List.take_length]
                exact Sub.new (by rw [mup_ne hpq]; exact hp)
              · rw [take_snoc hx] at ht'
                rcases List.mem_append.mp ht' with z | z
                · exact hw t' z
                · rw [List.mem_singleton] at z; rw [z, e]; rfl
            | some c =>
              have hjl : j < w.length := (List.getElem?_eq_some_iff.mp hy).1
              rw [List.getElem?_map, hy]
              have sm : ∀ c ∈ w, smallC c := fun c hc => small t ht c (by rw [e]; exact hc)
              have gd : GoodD (tally [] (takenL rs (ts.take i) ++ w.take j)) := GoodD.nil.tally fun c hc => by
                rcases List.mem_append.mp hc with z | z
                · exact smallL c z
                · exact sm c (List.mem_of_mem_take z)
              simp only [Option.map_some, wpTg, List.set_cons_succ, List.set_cons_zero]
              refine wp_last ?_
              have eq1 : ∀ o, (mup (mup M q o) p (.lst (w.map encCh))) q = some o := fun o => by rw [mup_ne (Ne.symm hpq), mup_same]
              simp only [DL.wpS, DL.wpE, DL.wpA, List.getElem?_cons_zero, List.getElem?_cons_succ, isDct, eq1, vDGet, gd.key, gd.get, true_and, binS, vAdd, vSetG, if_true, vDSet]
              refine ⟨Nat.lt_of_le_of_lt gd.len (by decide), ?_⟩
              refine ⟨mup (mup M q (.dct (tally [] (takenL rs (ts.take i) ++ w.take (j + 1))))) p (.lst (w.map encCh)), ?_, some (encCh c), rfl, rfl, hjl⟩
              rw [take_snoc hy, ← List.append_assoc, tally_snoc]
              intro a u ha'
              unfold tick at ha'
              unfold mup at ha' ⊢
              by_cases h1 : a = p
              · have h2 : a ≠ q := fun z => hpq (h1.symm.trans z)
                simp only [h1, if_true, if_neg hpq] at ha' ⊢
                exact ha'
              · by_cases h2 : a = q
                · simp only [h2, if_true, if_neg (Ne.symm hpq)] at ha' ⊢
                  exact ha'
                · simp only [if_neg h1, if_neg h2] at ha' ⊢
                  exact ha'
  · exact h.elim
end H41
set_option Elab.async false
set_option linter.all false
set_option maxRecDepth 100000
set_option maxHeartbeats 1000000
namespace H41
open PySem PySem.Spec PyProof.Rows L2 DL
/-! ### sharing -/
def encO : Option Int → D | none => .non | some i => .int i
abbrev CRow := List (Option Int)
def restF (nxt : CRow) (left : Int) : Option Int := if 0 ≤ left then (nxt[left.toNat]?).join else none
def stepC (nxt : CRow) (count room : Int) (f : Option Int) (more : Nat) : Option Int := match restF nxt (room - 2 ^ (8 - more)) with
  | none => f
  | some r => match f with
    | none => some (count * more + r)
    | some g => if count * more + r < g then some (count * more + r) else some g
def cheapN (nxt : CRow) (count room : Int) : Nat → Option Int
  | 0 => none
  | i + 1 => stepC nxt count room (cheapN nxt count room i) (i + 1)
def cheapF (nxt : CRow) (count room : Int) : Option Int := cheapN nxt count room 8
def newRow (nxt : CRow) (count : Int) : CRow := (List.range 257).map fun k : Nat => cheapF nxt count (k : Nat)
def lastRow : CRow := List.replicate 257 (some 0)
def costsF : List Int → List CRow
  | [] => [lastRow]
  | c :: cs => newRow ((costsF cs).headD []) c :: costsF cs
theorem vShl_ok {M : Mem} {Q : DK} {i : Nat} (h : i ≤ 100) : vShl (.int 1) (.int (i : Nat)) M Q = Q (.int (2 ^ i)) M := by
  unfold vShl vI
  have e : Builtin.Int.intBits 1 = 1 := by decide
  have h1 : (0 : Int) ≤ (i : Nat) := by omega
  have h2 : ((1 : Nat) : Int) + (i : Nat) ≤ 134217728 := by omega
  simp only [e, h1, h2, true_and, and_self, Int.toNat_natCast, Int.one_mul]
theorem binS_sub {i j : Int} {M : Mem} {Q : DK} : binS .Sub (.int i) (.int j) M Q = Q (.int (i - j)) M := by simp [binS, vSub, vI]
theorem binS_add {i j : Int} {M : Mem} {Q : DK} : binS .Add (.int i) (.int j) M Q = Q (.int (i + j)) M := rfl
theorem bits_le {m : Nat} {x : Int} (h : x.natAbs < 2 ^ m) : Builtin.Int.intBits x ≤ m := intBits_le_iff.mpr h
theorem vMul_ok {M : Mem} {Q : DK} {i j : Int} (h : i.natAbs < 2 ^ 100) (h' : j.natAbs < 2 ^ 100) : vMul (.int i) (.int j) M Q = Q (.int (i * j)) M := by
  unfold vMul
  have h1 := bits_le h
  have h2 := bits_le h'
  have : (Builtin.Int.intBits i : Int) + (Builtin.Int.intBits j : Int) ≤ 134217728 := by omega
  simp only [this, true_and]
def cOk (c : Int) : Prop := c.natAbs < 2 ^ 100
def RowAt (M : Mem) (d : D) (row : CRow) : Prop := ∃ a, d = .obj a ∧ rdL M a = some (row.map encO)
def sp_cheapest : SpD := fun ds M Q _ => match ds with
  | [.obj p, .int count, .int room] => ∃ cnts c xs row, M p = some (.ins 0 [cnts, .obj c]) ∧ rdL M c = some xs ∧ (∃ x, xs[0]? = some x ∧ RowAt M x row) ∧ row.length = 257 ∧ room ≤ 256 ∧ cOk count ∧ Q (encO (cheapF row count room)) M
  | _ => False
theorem h_Sharing_cheapest : ∀ ds M Q0 E0, sp_cheapest ds M Q0 E0 → ds.length = 3 ∧ wpSs ⟨[], sub, fdOf cf⟩ (wF E0) none m_Sharing_cheapest (endsF Q0) (startD N_Sharing_cheapest.length ds) M := by
  intro ds M Q0 E0 h
  unfold sp_cheapest at h
  split at h
  · rename_i p count room
    obtain ⟨cnts, c, xs, row, hp, hc, ⟨x, hx, r0, rfl, hr⟩, hl, hroom, hcount, hq⟩ := h
    refine ⟨rfl, ?_⟩
    unfold m_Sharing_cheapest
    refine wp_cons ?_
    show DL.wpS _ _ _ _ _ [some (.obj p), some (.int count), some (.int room), none, none, none, none] M
    simp only [DL.wpS, DL.wpE, wpTg, List.set_cons_succ, List.set_cons_zero]
    refine wp_cons ?_
    have e9 : (8 : Int) + 1 = 9 := rfl
    simp only [DL.wpS, DL.wpI, DL.wpE, DL.wpA, List.getElem?_cons_zero, List.getElem?_cons_succ, binS, vAdd, e9, rngOf]
    refine ⟨⟨by decide, by decide, by decide, by decide⟩, ?_⟩
    refine ⟨fun i ρ M' => ∃ x4 x5 x6, ρ = [some (.obj p), some (.int count), some (.int room), some (encO (cheapN row count room i)), x4, x5, x6] ∧ M = M' ∧ i ≤ 8, ⟨none, none, none, rfl, rfl, Nat.zero_le _⟩, ?_⟩
    rintro i ρ M' ⟨x4, x5, x6, rfl, rfl, hi⟩
    refine ⟨trivial, ?_⟩
    have er : ((9 : Int) - 1).toNat = 8 := rfl
    rw [er, List.getElem?_map]
    by_cases hi8 : i < 8
    · rw [List.getElem?_range hi8]
      simp only [Option.map_some, wpTg, List.set_cons_succ, List.set_cons_zero]
      refine wp_cons ?_
      have e1 : (8 : Int) - (1 + (i : Nat)) = ((8 - (i + 1) : Nat) : Int) := by omega
      simp only [DL.wpS, DL.wpE, DL.wpA, wpTg, List.set_cons_succ, List.set_cons_zero, List.getElem?_cons_zero, List.getElem?_cons_succ, binS_sub, e1]
      rw [show binS .LShift (.int 1) (.int ((8 - (i + 1) : Nat) : Int)) = fun M Q => Q (.int (2 ^ (8 - (i + 1)))) M from by funext M Q; exact vShl_ok (by omega)]
      simp only [binS_sub]
      have key : ∀ (D0 : EndsD), D0.nx [some (.obj p), some (.int count), some (.int room), some (encO (cheapN row count room i)), some (.int (1 + (i : Nat))), some (.int (room - 2 ^ (8 - (i + 1)))), some (encO (restF row (room - 2 ^ (8 - (i + 1)))))] M → DL.wpS ⟨[], sub, fdOf cf⟩ (wF E0) none (.set (.name 6) (.ite (.cmp .GtE (.var 5) (.lit (.int 0))) (.idx (.idx (.fld 0 1 (.var 0)) (.lit (.int 0))) (.var 5)) (.lit .non))) D0 [some (.obj p), some (.int count), some (.int room), some (encO (cheapN row count room i)), some (.int (1 + (i : Nat))), some (.int (room - 2 ^ (8 - (i + 1)))), x6] M := by
        intro D0 hk
        simp only [DL.wpS, DL.wpE, DL.wpA, wpT, wpTg, List.set_cons_succ, List.set_cons_zero, List.getElem?_cons_zero, List.getElem?_cons_succ, cmpS, vGe, vOrd, vTru]
        unfold restF at hk
        by_cases hleft : (0 : Int) ≤ room - 2 ^ (8 - (i + 1))
        · have hp2 : (1 : Int) ≤ 2 ^ (8 - (i + 1)) := by have := Int.pow_pos (n := 2) (m := 8 - (i + 1)) (by decide); omega
          have hlt : (room - 2 ^ (8 - (i + 1))).toNat < row.length := by omega
          have hnn : (room - 2 ^ (8 - (i + 1))) = (((room - 2 ^ (8 - (i + 1))).toNat : Nat) : Int) := by omega
          have hg : row[(room - 2 ^ (8 - (i + 1))).toNat]? = some row[(room - 2 ^ (8 - (i + 1))).toNat] := List.getElem?_eq_getElem hlt
          rw [if_pos hleft, hg] at hk
          simp only [hleft, decide_true, if_true, hp]
          refine ⟨trivial, ?_⟩
          simp only [List.getElem?_cons_succ, List.getElem?_cons_zero]
          have : vGet (.obj c) (.int 0) M = fun Q => Q (.obj r0) M := by funext Q; exact vGet_lst (k := 0) hc hx
          rw [this]
          simp only []
          rw [hnn, vGet_lst (k := (room - 2 ^ (8 - (i + 1))).toNat) hr (by rw [List.getElem?_map, hg]; rfl)]
          rw [← hnn]
          exact hk
        · rw [if_neg hleft] at hk
          simp only [hleft, decide_false, Bool.false_eq_true, if_false]
          exact hk
      refine wp_cons (key _ ?_)
      refine wp_last ?_
      have ec : cheapN row count room (i + 1) = stepC row count room (cheapN row count room i) (i + 1) := rfl
      have enx : ∀ (f : Option Int) (x4 x5 x6 : Option D), f = cheapN row count room (i + 1) → ∃ M'', DL.Sub M'' M ∧ ∃ y4 y5 y6, [some (.obj p), some (.int count), some (.int room), some (encO f), x4, x5, x6] = [some (.obj p), some (.int count), some (.int room), some (encO (cheapN row count room (i + 1))), y4, y5, y6] ∧ M = M'' ∧ i + 1 ≤ 8 := fun f x4 x5 x6 e => ⟨M, Sub.rfl', x4, x5, x6, by rw [e], rfl, hi8⟩
      unfold stepC at ec
      have hm : ((i + 1 : Nat) : Int) = 1 + (i : Nat) := by omega
      have hmul : vMul (.int count) (.int (1 + (i : Nat))) = fun M Q => Q (.int (count * (1 + (i : Nat)))) M := by
        funext M Q
        refine vMul_ok hcount ?_
        have : (1 + (i : Nat) : Int).natAbs ≤ 8 := by omega
        exact Nat.lt_of_le_of_lt this (by
          have : (2 : Nat) ^ 4 ≤ 2 ^ 100 := Nat.pow_le_pow_right (by decide) (by decide)
          omega)
      have hmul' : binS .Mult (.int count) (.int (1 + (i : Nat))) = fun M Q => Q (.int (count * (1 + (i : Nat)))) M := hmul
      cases er : restF row (room - 2 ^ (8 - (i + 1))) with
      | none =>
        rw [er] at ec
        simp only [DL.wpS, DL.wpE, DL.wpA, wpT, wpTs, encO, List.getElem?_cons_zero, List.getElem?_cons_succ, cmpS, vIsK, DL.isNon, vTru, Bool.not_true, Bool.false_eq_true, if_false, if_true]
        exact wp_nil (enx _ _ _ _ ec.symm)
      | some r =>
        rw [er] at ec
        simp only [hm] at ec
        cases ef : cheapN row count room i with
        | none =>
          rw [ef] at ec
          simp only [DL.wpS, DL.wpE, DL.wpA, wpT, wpTs, encO, List.getElem?_cons_zero, List.getElem?_cons_succ, cmpS, vIsK, DL.isNon, vTru, Bool.not_true, Bool.not_false, Bool.false_eq_true, if_false, if_true]
          refine wp_last ?_
          simp only [DL.wpS, DL.wpE, wpTg, List.set_cons_succ, List.set_cons_zero, List.getElem?_cons_zero, List.getElem?_cons_succ, hmul']
          exact enx (some (count * (1 + (i : Nat)) + r)) _ _ _ ec.symm
        | some g =>
          rw [ef] at ec
          simp only [DL.wpS, DL.wpE, DL.wpA, wpT, wpTs, encO, List.getElem?_cons_zero, List.getElem?_cons_succ, cmpS, vIsK, DL.isNon, vTru, Bool.not_true, Bool.not_false, Bool.false_eq_true, if_false, if_true, hmul']
          simp only [binS, vAdd, vLt, vOrd, vTru]
          by_cases hlt : count * (1 + (i : Nat)) + r < g
          · simp only [hlt, decide_true, if_true] at ec ⊢
            refine wp_last ?_
            simp only [DL.wpS, DL.wpE, wpTg, List.set_cons_succ, List.set_cons_zero, List.getElem?_cons_zero, List.getElem?_cons_succ, hmul']
            exact enx (some (count * (1 + (i : Nat)) + r)) _ _ _ ec.symm
          · simp only [hlt, decide_false, Bool.false_eq_true, if_false] at ec ⊢
            exact wp_nil (enx (some g) _ _ _ ec.symm)
    · have hi2 : i = 8 := by omega
      subst hi2
      rw [List.getElem?_eq_none (by simp)]
      simp only [Option.map_none]
      refine wp_last ?_
      simp only [DL.wpS, DL.wpE, List.getElem?_cons_zero, List.getElem?_cons_succ]
      exact rt_of hq Sub.rfl'
  · exact h.elim
end H41
set_option Elab.async false
set_option linter.all false
set_option maxRecDepth 100000
set_option maxHeartbeats 1000000
namespace H41
open PySem PySem.Spec PyProof.Rows L2 DL
def RowsAt (M : Mem) : List D → List CRow → Prop
  | [], [] => True
  | d :: ds, r :: rs => RowAt M d r ∧ RowsAt M ds rs
  | _, _ => False
/-- all but one stays -/
def SubX (p : Addr) (M M' : Mem) : Prop := ∀ a o, a ≠ p → M a = some o → M' a = some o
/-- the rows of costs of a Sharing -/
structure Shar (M : Mem) (p cn c : Addr) (xs : List D) (rows : List CRow) : Prop where
  ins : M p = some (.ins 0 [.obj cn, .obj c])
  lst : M c = some (.lst xs)
  rows : RowsAt M xs rows
theorem RowAt.mup {M : Mem} {d : D} {row : CRow} (h : RowAt M d row) {q : Addr} {o : MO} (hq : M q = none ∨ (∃ xs fs, M q = some (.ins xs fs))) : RowAt (mup M q o) d row := by
  obtain ⟨a, rfl, h⟩ := h
  refine ⟨a, rfl, ?_⟩
  have : a ≠ q := fun e => by
    subst e
    unfold rdL at h
    rcases hq with z | ⟨_, _, z⟩ <;> rw [z] at h <;> cases h
  unfold rdL
  rw [mup_ne this]
  exact h
theorem RowsAt.mup {M : Mem} {q : Addr} {o : MO} (hq : M q = none ∨ (∃ xs fs, M q = some (.ins xs fs))) : ∀ {ds : List D} {rows : List CRow}, RowsAt M ds rows → RowsAt (mup M q o) ds rows
  | [], [], _ => trivial
  | d :: ds, r :: rs, h => ⟨h.1.mup hq, RowsAt.mup hq h.2⟩
  | [], _ :: _, h => h.elim
  | _ :: _, [], h => h.elim
theorem RowsAt.len {M : Mem} : ∀ {ds : List D} {rows : List CRow}, RowsAt M ds rows → ds.length = rows.length
  | [], [], _ => rfl
  | d :: ds, r :: rs, h => by rw [List.length_cons, List.length_cons, h.2.len]
  | [], _ :: _, h => h.elim
  | _ :: _, [], h => h.elim
theorem RowsAt.get {M : Mem} : ∀ {ds : List D} {rows : List CRow} {i : Nat} {r : CRow}, RowsAt M ds rows → rows[i]? = some r → ∃ d, ds[i]? = some d ∧ RowAt M d r
  | [], [], i, r, _, e => by simp at e
  | d :: ds, r :: rs, 0, r', h, e => by cases e; exact ⟨d, rfl, h.1⟩
  | d :: ds, r :: rs, i + 1, r', h, e => h.2.get (by simpa using e)
  | [], _ :: _, _, _, h, _ => h.elim
  | _ :: _, [], _, _, h, _ => h.elim
theorem RowAt.same {M : Mem} {a : Addr} {o : MO} {d : D} {row : CRow} (h : RowAt M d row) (q : Addr) (o : MO) (hne : d ≠ .obj q) : RowAt (DL.mup M q o) d row := by
  obtain ⟨b, rfl, h⟩ := h
  refine ⟨b, rfl, ?_⟩
  unfold rdL
  rw [mup_ne fun e => hne (by rw [e])]
  exact h
/-- a new list beside -/
theorem costs_len (cs : List Int) : (costsF cs).length = cs.length + 1 := by
  induction cs with
  | nil => rfl
  | cons c cs ih => simp [costsF, ih]
theorem costs_257 (cs : List Int) : ∀ r ∈ costsF cs, r.length = 257 := by
  induction cs with
  | nil => intro r hr; simp [costsF] at hr; rw [hr]; simp [lastRow]
  | cons c cs ih =>
    intro r hr
    simp only [costsF, List.mem_cons] at hr
    rcases hr with rfl | hr
    · simp [newRow]
    · exact ih r hr
theorem costs_cons (cs : List Int) : ∃ r rs, costsF cs = r :: rs ∧ (costsF cs).headD [] = r ∧ r.length = 257 := by
  cases h : costsF cs with
  | nil => have := costs_len cs; rw [h] at this; simp at this
  | cons r rs => exact ⟨r, rs, rfl, rfl, costs_257 cs r (by rw [h]; exact List.mem_cons_self ..)⟩
/-- what the work at a Sharing keeps: addresses apart, what was there stays -/
structure Work (M0 M : Mem) (p cn c : Addr) (xs : List D) (rows : List CRow) : Prop where
  sh : Shar M p cn c xs rows
  old : SubX p M0 M
  c0 : M0 c = none
  pc : p ≠ c
  apart : ∀ d ∈ xs, d ≠ .obj c
theorem SubX.mup {p : Addr} {M0 M : Mem} (h : SubX p M0 M) {q : Addr} {o : MO} (hq : M0 q = none ∨ q = p) : SubX p M0 (mup M q o) := fun a u hne e => by
  have : a ≠ q := fun z => by
    subst z
    rcases hq with z | z
    · rw [z] at e; cases e
    · exact hne z
  rw [mup_ne this]
  exact h a u hne e
def sp_Sharing_init : SpD := fun ds M Q _ => match ds with
  | [.obj p, .obj cn] => ∃ counts : List Int, M p = some (.ins 0 []) ∧ rdL M cn = some (counts.map .int) ∧ (∀ k ∈ counts, cOk k) ∧ counts.length ≤ 1000 ∧ ∀ M' c xs, Work M M' p cn c xs (costsF counts) → Q .non M'
  | _ => False
theorem SubX.none {p : Addr} {M0 M : Mem} (h : SubX p M0 M) {q : Addr} (hq : M q = none) (hp : M p ≠ none) : M0 q = none := by
  cases e : M0 q with
  | none => rfl
  | some o =>
    have : q ≠ p := fun z => hp (by rw [← z]; exact hq)
    have := h q o this e
    rw [hq] at this; cases this
theorem Work.new {M0 M : Mem} {p cn c : Addr} {xs : List D} {rows : List CRow} (w : Work M0 M p cn c xs rows) {q : Addr} {o : MO} (hq : M q = none) : Work M0 (DL.mup M q o) p cn c xs rows := by
  have qp : p ≠ q := fun z => by rw [← z, w.sh.ins] at hq; cases hq
  have qc : c ≠ q := fun z => by rw [← z, w.sh.lst] at hq; cases hq
  exact ⟨⟨by rw [mup_ne qp]; exact w.sh.ins, by rw [mup_ne qc]; exact w.sh.lst, w.sh.rows.mup (.inl hq)⟩, w.old.mup (.inl (w.old.none hq (by rw [w.sh.ins]; simp))), w.c0, w.pc, w.apart⟩
theorem RowsAt.at_c {M : Mem} {c : Addr} {o : MO} : ∀ {ds : List D} {rows : List CRow}, (∀ d ∈ ds, d ≠ .obj c) → RowsAt M ds rows → RowsAt (DL.mup M c o) ds rows
  | [], [], _, _ => trivial
  | d :: ds, r :: rs, ha, h => ⟨h.1.same (a := c) (o := o) c o (ha d (List.mem_cons_self ..)), RowsAt.at_c (fun d' hd => ha d' (List.mem_cons_of_mem _ hd)) h.2⟩
  | [], _ :: _, _, h => h.elim
  | _ :: _, [], _, h => h.elim
theorem h_Sharing_init (k : Nat) : ∀ ds M Q0 E0, sp_Sharing_init ds M Q0 E0 → ds.length = 2 ∧ wpSs ⟨[C_Sharing_cheapest k sp_cheapest], sub, fdOf cf⟩ (wF E0) none m_Sharing___init__ (endsF Q0) (startD N_Sharing___init__.length ds) M := by
  intro ds M Q0 E0 h
  unfold sp_Sharing_init at h
  split at h
  · rename_i p cn
    obtain ⟨counts, hp, hcn, hck, hcl, hq⟩ := h
    refine ⟨rfl, ?_⟩
    unfold m_Sharing___init__
    have hcp : cn ≠ p := fun z => by unfold rdL at hcn; rw [z, hp] at hcn; cases hcn
    refine wp_cons ?_
    show DL.wpS _ _ _ _ _ [some (.obj p), some (.obj cn), none, none] M
    simp only [DL.wpS, DL.wpE, List.getElem?_cons_zero, List.getElem?_cons_succ, hp, putFd, true_and, List.length_nil, Nat.lt_irrefl, if_false, if_true, List.nil_append, mup_same]
    have e257 : (1 : Int) * 2 ^ (8 : Int).toNat + 1 = 257 := by decide
    have hshl : binS .LShift (.int 1) (.int 8) = fun M Q => Q (.int 256) M := by
      funext M Q
      exact vShl_ok (M := M) (Q := Q) (i := 8) (by decide)
    refine wp_cut (fun ρ' M' => ρ' = [some (.obj p), some (.obj cn), none, none] ∧ ∃ c xs, Work M M' p cn c xs (costsF [])) ?_ ?_
    · simp only [DL.wpS, DL.wpE, DL.wpA, List.getElem?_cons_zero, List.getElem?_cons_succ]
      intro p1 hp1
      rw [hshl]
      simp only [binS_add]
      have e2 : (256 : Int) + 1 = 257 := rfl
      rw [e2]
      simp only [binS, vMul, mup_same]
      refine ⟨by decide, by decide, by decide, fun p2 hp2 p3 hp3 => ?_⟩
      have n1 : p ≠ p1 := fun z => by rw [← z, mup_same] at hp1; cases hp1
      have n2 : p ≠ p2 := fun z => by rw [← z, mup_ne n1, mup_same] at hp2; cases hp2
      have n3 : p ≠ p3 := fun z => by rw [← z, mup_ne n2, mup_ne n1, mup_same] at hp3; cases hp3
      have n12 : p1 ≠ p2 := fun z => by rw [← z, mup_same] at hp2; cases hp2
      have n23 : p2 ≠ p3 := fun z => by rw [← z, mup_same] at hp3; cases hp3
      have n13 : p1 ≠ p3 := fun z => by rw [← z, mup_ne n12, mup_same] at hp3; cases hp3
      have m1 : M p1 = none := by rw [mup_ne (Ne.symm n1)] at hp1; exact hp1
      have m2 : M p2 = none := by rw [mup_ne (Ne.symm n12), mup_ne (Ne.symm n2)] at hp2; exact hp2
      have m3 : M p3 = none := by rw [mup_ne (Ne.symm n23), mup_ne (Ne.symm n13), mup_ne (Ne.symm n3)] at hp3; exact hp3
      simp only [mup_ne n1, mup_ne n2, mup_ne n3, mup_same, List.length_cons, List.length_nil, Nat.zero_add, Nat.lt_irrefl, if_false, if_true, true_and, List.cons_append, List.nil_append]
      refine ⟨p3, [D.obj p2], ⟨⟨mup_same, ?_, ⟨⟨p2, rfl, ?_⟩, trivial⟩⟩, ?_, m3, n3, ?_⟩⟩
      · rw [mup_ne (Ne.symm n3), mup_same]
      · unfold rdL
        rw [mup_ne (Ne.symm n2), mup_ne n23, mup_same]
        decide +kernel
      · exact ((((SubX.mup (fun _ _ _ e => e) (.inr rfl)).mup (.inl m1)).mup (.inl m2)).mup (.inl m3)).mup (.inr rfl)
      · intro d hd
        rw [List.mem_singleton] at hd
        subst hd
        exact fun z => n23 (by cases z; rfl)
    · rintro ρ' M' ⟨rfl, c, xs, w⟩
      refine ⟨M', Sub.rfl', wp_cut (fun ρ' M' => ∃ x2 x3, ρ' = [some (.obj p), some (.obj cn), x2, x3] ∧ ∃ xs, Work M M' p cn c xs (costsF counts)) ?_ ?_⟩
      · simp only [DL.wpS, DL.wpE, DL.wpA, DL.wpI, List.getElem?_cons_zero, List.getElem?_cons_succ, vRev]
        have hcn' : rdL M' cn = some (counts.map .int) := by
          unfold rdL at hcn ⊢
          cases e : M cn with
          | none => rw [e] at hcn; cases hcn
          | some o => rw [w.old cn o hcp e]; rw [e] at hcn; exact hcn
        simp only [hcn']
        intro q hq'
        simp only [itsOf, rdL_new]
        refine ⟨fun i ρ M'' => ∃ x2 x3 xs, ρ = [some (.obj p), some (.obj cn), x2, x3] ∧ Work M M'' p cn c xs (costsF (counts.reverse.take i).reverse) ∧ rdL M'' q = some ((counts.map D.int).reverse) ∧ M q = none ∧ i ≤ counts.length ∧ xs.length = i + 1, ⟨none, none, xs, rfl, w.new hq', rdL_new, w.old.none hq' (by rw [w.sh.ins]; simp), Nat.zero_le _, by rw [w.sh.rows.len]; rfl⟩, ?_⟩
        rintro i ρ M2 ⟨x2, x3, ys, rfl, w2, hrd, hq2, hi, hys⟩
        refine ⟨hrd, ?_⟩
        rw [← List.map_reverse, List.getElem?_map]
        cases hx : counts.reverse[i]? with
        | none =>
          have : i = counts.length := by
            have := List.getElem?_eq_none_iff.mp hx
            rw [List.length_reverse] at this
            omega
          refine ⟨x2, x3, rfl, ys, ?_⟩
          rw [this] at w2
          have e : counts.reverse.take counts.length = counts.reverse := List.take_of_length_le (by simp)
          rw [e, List.reverse_reverse] at w2
          exact w2
        | some count =>
          have hcm : count ∈ counts := by
            have := List.mem_of_getElem? hx
            simpa using this
          have hil : i < counts.length := by
            have := (List.getElem?_eq_some_iff.mp hx).1
            simpa using this
          obtain ⟨row, rest, er, eh, hl⟩ := costs_cons (counts.reverse.take i).reverse
          have hrows := w2.sh.rows
          rw [er] at hrows
          obtain ⟨d0, hd0, hrow⟩ := hrows.get (i := 0) rfl
          simp only [Option.map_some, wpTg, List.set_cons_succ, List.set_cons_zero]
          refine wp_last ?_
          simp only [DL.wpS, DL.wpE, DL.wpA, DL.wpI, List.getElem?_cons_zero, List.getElem?_cons_succ, w2.sh.ins]
          have hrc : rdL M2 c = some ys := by unfold rdL; rw [w2.sh.lst]
          refine ⟨trivial, ⟨rfl, by rw [hrc]; rfl⟩, ?_⟩
          rw [hshl]
          simp only [binS_add]
          rw [show (256 : Int) + 1 = 257 from rfl]
          simp only [rngOf]
          refine ⟨by decide, by decide, ?_⟩
          refine lc_map (fun x => match x with | .int k => encO (cheapF row count k) | _ => .non) trivial _ _ (by simp [big]) (fun d hd K1 h1 => ?_) fun r hr => ?_
          · obtain ⟨k, hk, rfl⟩ := List.mem_map.mp hd
            simp only [wpTg, wipeD, List.map_cons, List.map_nil, List.set_cons_succ, List.set_cons_zero, DL.wpE, DL.wpA, List.getElem?_cons_zero, List.getElem?_cons_succ, w2.sh.ins, sp_cheapest, true_and]
            rw [List.mem_range] at hk
            have hk' : k < 257 := hk
            exact ⟨.obj cn, c, ys, row, rfl, hrc, ⟨d0, hd0, hrow⟩, hl, by omega, hck count hcm, h1⟩
          · have w3 := w2.new (o := .lst (((List.range (257 : Int).toNat).map fun k : Nat => D.int (k : Nat)).map fun x => match x with | .int k => encO (cheapF row count k) | _ => .non)) hr
            have cr : r ≠ c := fun z => by rw [z, w2.sh.lst] at hr; cases hr
            have pr : r ≠ p := fun z => by rw [z, w2.sh.ins] at hr; cases hr
            have qr : q ≠ r := fun z => by unfold rdL at hrd; rw [z, hr] at hrd; cases hrd
            have qc : q ≠ c := fun z => by
              unfold rdL at hrd
              rw [z, w2.sh.lst] at hrd
              have h3 : ys = (counts.map D.int).reverse := by cases hrd; rfl
              have h4 := congrArg List.length h3
              simp at h4
              have h5 : d0 ∈ ys := List.mem_of_getElem? hd0
              rw [h3] at h5
              simp at h5
              obtain ⟨_, _, h6⟩ := h5
              obtain ⟨_, h7, _⟩ := hrow
              rw [h7] at h6; cases h6
            simp only [bmS, mup_ne (Ne.symm cr), w2.sh.lst]
            refine ⟨by rw [hys]; exact Nat.lt_of_le_of_lt (Nat.add_le_add_right (Nat.le_trans hi hcl) 1) (by decide), by decide, by decide, ?_⟩
            refine ⟨_, Sub.rfl', some (.int count), x3, .obj r :: ys, rfl, ?_, ?_, hq2, hil, by simp [hys]⟩
            · rw [take_snoc hx, List.reverse_append]
              show Work M _ p cn c _ (newRow ((costsF (counts.reverse.take i).reverse).headD []) count :: costsF (counts.reverse.take i).reverse)
              rw [eh]
              have ra : RowAt (mup M2 r (.lst (((List.range (257 : Int).toNat).map fun k : Nat => D.int (k : Nat)).map fun x => match x with | .int k => encO (cheapF row count k) | _ => .non))) (.obj r) (newRow row count) := ⟨r, rfl, by
                rw [rdL_new]
                simp [newRow, Function.comp_def]⟩
              have ap : ∀ d ∈ D.obj r :: ys, d ≠ .obj c := fun d hd => by
                rcases List.mem_cons.mp hd with rfl | z
                · exact fun z => cr (by cases z; rfl)
                · exact w2.apart d z
              exact ⟨⟨by rw [mup_ne w2.pc]; exact w3.sh.ins, by rw [mup_same]; rfl, RowsAt.at_c ap ⟨ra, w3.sh.rows⟩⟩, w3.old.mup (.inl w2.c0), w2.c0, w2.pc, ap⟩
            · unfold rdL at hrd ⊢
              rw [mup_ne qc, mup_ne qr, List.map_reverse]
              exact hrd
      · rintro ρ' M2 ⟨x2, x3, rfl, ys, w2⟩
        exact ⟨M2, Sub.rfl', wp_nil ⟨M2, Sub.rfl', hq M2 c ys w2⟩⟩
  · exact h.elim
end H41
set_option Elab.async false
set_option linter.all false
set_option maxRecDepth 100000
set_option maxHeartbeats 1000000
namespace H41
open PySem PySem.Spec PyProof.Rows L2 DL
def nxtF (cs : List Int) : CRow := (costsF cs).headD []
def okAt (nxt : CRow) (c room : Int) (m : Nat) : Bool := match restF nxt (room - 2 ^ (8 - m)) with
  | none => false
  | some r => decide (some (c * (m : Int) + r) = cheapF nxt c room)
def pickF (nxt : CRow) (c room : Int) : Nat := (((List.range 8).map (· + 1)).find? (okAt nxt c room)).getD 8
def leastF : List Int → Int → List Nat
  | [], _ => []
  | c :: cs, room => pickF (nxtF cs) c room :: leastF cs (room - 2 ^ (8 - pickF (nxtF cs) c room))
theorem pick_of {nxt : CRow} {c room : Int} {j : Nat} (hj : j < 8) (no : ∀ m, 1 ≤ m → m ≤ j → okAt nxt c room m = false) (yes : okAt nxt c room (j + 1) = true) : pickF nxt c room = j + 1 := by
  unfold pickF
  have : ((List.range 8).map (· + 1)).find? (okAt nxt c room) = some (j + 1) := by
    rw [List.find?_eq_some_iff_getElem]
    refine ⟨yes, j, by simpa using hj, by simp, fun m hm => ?_⟩
    simp
    exact no (m + 1) (by omega) (by omega)
  rw [this]; rfl
theorem pick_none {nxt : CRow} {c room : Int} (no : ∀ m, 1 ≤ m → m ≤ 8 → okAt nxt c room m = false) : pickF nxt c room = 8 := by
  unfold pickF
  have : ((List.range 8).map (· + 1)).find? (okAt nxt c room) = none := by
    rw [List.find?_eq_none]
    intro x hx
    obtain ⟨k, hk, rfl⟩ := List.mem_map.mp hx
    rw [List.mem_range] at hk
    rw [no (k + 1) (by omega) (by omega)]
    exact Bool.false_ne_true
  rw [this]; rfl
theorem stepC_some {nxt : CRow} {count room : Int} {f : Option Int} {m : Nat} (h : f.isSome = true ∨ (restF nxt (room - 2 ^ (8 - m))).isSome = true) : (stepC nxt count room f m).isSome = true := by
  unfold stepC
  split
  · rename_i e
    rcases h with h | h
    · exact h
    · rw [e] at h; cases h
  · split
    · rfl
    · split <;> rfl
theorem cheapN_some {nxt : CRow} {count room : Int} {m : Nat} (h1 : 1 ≤ m) (h : (restF nxt (room - 2 ^ (8 - m))).isSome = true) : ∀ i, m ≤ i → (cheapN nxt count room i).isSome = true
  | 0, h0 => by omega
  | i + 1, h0 => by
    refine stepC_some ?_
    by_cases hm : m ≤ i
    · exact .inl (cheapN_some h1 h i hm)
    · have : m = i + 1 := by omega
      subst this
      exact .inr h
theorem costs_at {counts : List Int} : ∀ {i : Nat} {c : Int} {cs : List Int}, counts.drop i = c :: cs → (costsF counts)[i]? = some (newRow (nxtF cs) c) ∧ (costsF counts)[i + 1]? = some (nxtF cs) := by
  induction counts with
  | nil => intro i c cs h; simp at h
  | cons a as ih =>
    intro i c cs h
    cases i with
    | zero =>
      simp at h
      obtain ⟨rfl, rfl⟩ := h
      refine ⟨rfl, ?_⟩
      obtain ⟨r, rs, e, e2, _⟩ := costs_cons as
      show (costsF as)[0]? = _
      unfold nxtF
      rw [e]; rfl
    | succ i =>
      simp only [costsF, List.getElem?_cons_succ]
      exact ih (by simpa using h)
theorem enuL_get (xs : List D) : ∀ (k i : Nat), (enuL k xs)[i]? = (xs[i]?).map fun x => .tup [.int ((k + i : Nat) : Int), x] := by
  induction xs with
  | nil => intro k i; simp [enuL]
  | cons x xs ih =>
    intro k i
    cases i with
    | zero => simp [enuL]
    | succ i =>
      simp only [enuL, List.getElem?_cons_succ]
      rw [ih]
      simp only [Nat.add_assoc, Nat.add_comm 1 i]
def sp_least : SpD := fun ds M Q _ => match ds with
  | [.obj p] => ∃ counts cn c xs, Shar M p cn c xs (costsF counts) ∧ rdL M cn = some (counts.map .int) ∧ (∀ k ∈ counts, cOk k) ∧ counts.length ≤ 1000 ∧ ∀ q, M q = none → Q (.obj q) (mup M q (.lst ((leastF counts 256).map fun m : Nat => D.int (m : Nat))))
  | _ => False
theorem vGet_row {M : Mem} {d : D} {row : CRow} {k : Nat} {o : Option Int} (h : RowAt M d row) (e : row[k]? = some o) : vGet d (.int (k : Nat)) M = fun Q => Q (encO o) M := by
  obtain ⟨a, rfl, h⟩ := h
  funext Q
  exact vGet_lst h (by rw [List.getElem?_map, e]; rfl)
theorem h_Sharing_least : ∀ ds M Q0 E0, sp_least ds M Q0 E0 → ds.length = 1 ∧ wpSs ⟨[], sub, fdOf cf⟩ (wF E0) none m_Sharing_least (endsF Q0) (startD N_Sharing_least.length ds) M := by
  intro ds M Q0 E0 h
  unfold sp_least at h
  split at h
  · rename_i p
    obtain ⟨counts, cn, c, xs, sh, hcn, hck, hcl, hq⟩ := h
    refine ⟨rfl, ?_⟩
    unfold m_Sharing_least
    refine wp_cons ?_
    show DL.wpS _ _ _ _ _ [some (.obj p), none, none, none, none, none, none, none] M
    simp only [DL.wpS, DL.wpE, DL.wpA, wpTg, List.set_cons_succ, List.set_cons_zero]
    intro q hqn
    refine wp_cons ?_
    have hshl : binS .LShift (.int 1) (.int 8) = fun M Q => Q (.int 256) M := by
      funext M Q
      exact vShl_ok (M := M) (Q := Q) (i := 8) (by decide)
    simp only [DL.wpS, DL.wpE, DL.wpA, wpTg, List.set_cons_succ, List.set_cons_zero, hshl]
    refine wp_cons ?_
    have qp : p ≠ q := fun z => by rw [← z, sh.ins] at hqn; cases hqn
    have qc : c ≠ q := fun z => by rw [← z, sh.lst] at hqn; cases hqn
    have qn : cn ≠ q := fun z => by unfold rdL at hcn; rw [z, hqn] at hcn; cases hcn
    have A : ∀ o, (mup M q o) p = some (.ins 0 [.obj cn, .obj c]) := fun o => by rw [mup_ne qp]; exact sh.ins
    have Bc : ∀ o, rdL (mup M q o) c = some xs := fun o => by unfold rdL; rw [mup_ne qc, sh.lst]
    have Bn : ∀ o, rdL (mup M q o) cn = some (counts.map .int) := fun o => by unfold rdL; rw [mup_ne qn]; exact hcn
    simp only [DL.wpS, DL.wpI, DL.wpE, List.getElem?_cons_zero, List.getElem?_cons_succ, A, true_and, enuOf, Bn]
    refine ⟨fun i ρ M' => ∃ pre room x3 x4 x5 x6 x7, ρ = [some (.obj p), some (.obj q), some (.int room), x3, x4, x5, x6, x7] ∧ M' = mup M q (.lst (pre.map fun m : Nat => D.int (m : Nat))) ∧ pre.length = i ∧ i ≤ counts.length ∧ room ≤ 256 ∧ leastF counts 256 = pre ++ leastF (counts.drop i) room, ⟨[], 256, none, none, none, none, none, rfl, rfl, rfl, Nat.zero_le _, by decide, rfl⟩, ?_⟩
    rintro i ρ M' ⟨pre, room, x3, x4, x5, x6, x7, rfl, rfl, hi, hle, hroom, hw⟩
    refine ⟨Bn _, ?_⟩
    rw [enuL_get, List.getElem?_map]
    cases hx : counts[i]? with
    | none =>
      have : i = counts.length := by
        have := List.getElem?_eq_none_iff.mp hx
        omega
      rw [this, List.drop_length] at hw
      simp only [leastF, List.append_nil] at hw
      simp only [Option.map_none]
      refine wp_last ?_
      simp only [DL.wpS, DL.wpE, List.getElem?_cons_zero, List.getElem?_cons_succ]
      rw [← hw]
      exact rt_of (hq q hqn) Sub.rfl'
    | some count =>
      have hil : i < counts.length := (List.getElem?_eq_some_iff.mp hx).1
      have hcm := hck count (List.mem_of_getElem? hx)
      have hdr : counts.drop i = count :: counts.drop (i + 1) := by
        rw [List.drop_eq_getElem_cons hil]
        congr 1
        exact (List.getElem?_eq_some_iff.mp hx).2
      obtain ⟨c1, c2⟩ := costs_at hdr
      obtain ⟨d1, hd1, r1⟩ := sh.rows.get c1
      obtain ⟨d2, hd2, r2⟩ := sh.rows.get c2
      have hl2 : (nxtF (counts.drop (i + 1))).length = 257 := costs_257 counts _ (List.mem_of_getElem? c2)
      rw [hdr] at hw
      obtain ⟨nxt, hnx⟩ : ∃ nxt, nxtF (counts.drop (i + 1)) = nxt := ⟨_, rfl⟩
      rw [hnx] at c1 c2 r1 r2 hl2
      simp only [leastF, hnx] at hw
      simp only [Option.map_some, wpTg, wpTgs, List.set_cons_succ, List.set_cons_zero, Nat.zero_add]
      refine wp_cut (fun ρ' M' => ∃ x7, ρ' = [some (.obj p), some (.obj q), some (.int room), some (.int (i : Nat)), some (.int count), some (.int (pickF nxt count room : Nat)), some (.int (room - 2 ^ (8 - pickF nxt count room))), x7] ∧ M' = mup M q (.lst (pre.map fun m : Nat => D.int (m : Nat)))) ?_ ?_
      · simp only [DL.wpS, DL.wpI, DL.wpE, DL.wpA, List.getElem?_cons_zero, List.getElem?_cons_succ, binS_add]
        rw [show (8 : Int) + 1 = 9 from rfl]
        simp only [rngOf]
        refine ⟨⟨by decide, by decide, by decide, by decide⟩, ?_⟩
        refine ⟨fun j ρ M' => ∃ y5 y6 y7, ρ = [some (.obj p), some (.obj q), some (.int room), some (.int (i : Nat)), some (.int count), y5, y6, y7] ∧ M' = mup M q (.lst (pre.map fun m : Nat => D.int (m : Nat))) ∧ j ≤ 8 ∧ (∀ m, 1 ≤ m → m ≤ j → okAt nxt count room m = false) ∧ (1 ≤ j → y5 = some (.int (j : Nat)) ∧ y6 = some (.int (room - 2 ^ (8 - j)))), ⟨x5, x6, x7, rfl, rfl, Nat.zero_le _, fun m h1 h2 => by omega, fun h => by omega⟩, ?_⟩
        rintro j ρ M' ⟨y5, y6, y7, rfl, rfl, hj, no, hy⟩
        refine ⟨trivial, ?_⟩
        rw [show ((9 : Int) - 1).toNat = 8 from rfl, List.getElem?_map]
        by_cases hj8 : j < 8
        · rw [List.getElem?_range hj8]
          simp only [Option.map_some, wpTg, List.set_cons_succ, List.set_cons_zero]
          refine wp_cons ?_
          have e1 : (8 : Int) - (1 + (j : Nat)) = ((8 - (j + 1) : Nat) : Int) := by omega
          simp only [DL.wpS, DL.wpE, DL.wpA, wpTg, List.set_cons_succ, List.set_cons_zero, List.getElem?_cons_zero, List.getElem?_cons_succ, binS_sub, e1]
          rw [show binS .LShift (.int 1) (.int ((8 - (j + 1) : Nat) : Int)) = fun M Q => Q (.int (2 ^ (8 - (j + 1)))) M from by funext M Q; exact vShl_ok (by omega)]
          simp only [binS_sub]
          have hp2 : (1 : Int) ≤ 2 ^ (8 - (j + 1)) := by have := Int.pow_pos (n := 2) (m := 8 - (j + 1)) (by decide); omega
          have key : ∀ (D0 : EndsD), D0.nx [some (.obj p), some (.obj q), some (.int room), some (.int (i : Nat)), some (.int count), some (.int (1 + (j : Nat))), some (.int (room - 2 ^ (8 - (j + 1)))), some (encO (restF nxt (room - 2 ^ (8 - (j + 1)))))] (mup M q (.lst (pre.map fun m : Nat => D.int (m : Nat)))) → DL.wpS ⟨[], sub, fdOf cf⟩ (wF E0) none (.set (.name 7) (.ite (.cmp .GtE (.var 6) (.lit (.int 0))) (.idx (.idx (.fld 0 1 (.var 0)) (.bin .Add (.var 3) (.lit (.int 1)))) (.var 6)) (.lit .non))) D0 [some (.obj p), some (.obj q), some (.int room), some (.int (i : Nat)), some (.int count), some (.int (1 + (j : Nat))), some (.int (room - 2 ^ (8 - (j + 1)))), y7] (mup M q (.lst (pre.map fun m : Nat => D.int (m : Nat)))) := by
            intro D0 hk
            simp only [DL.wpS, DL.wpE, DL.wpA, wpT, wpTg, List.set_cons_succ, List.set_cons_zero, List.getElem?_cons_zero, List.getElem?_cons_succ, cmpS, vGe, vOrd, vTru]
            unfold restF at hk
            by_cases hleft : (0 : Int) ≤ room - 2 ^ (8 - (j + 1))
            · have hlt : (room - 2 ^ (8 - (j + 1))).toNat < nxt.length := by omega
              have hnn : (room - 2 ^ (8 - (j + 1))) = (((room - 2 ^ (8 - (j + 1))).toNat : Nat) : Int) := by omega
              have hg : nxt[(room - 2 ^ (8 - (j + 1))).toNat]? = some nxt[(room - 2 ^ (8 - (j + 1))).toNat] := List.getElem?_eq_getElem hlt
              rw [if_pos hleft, hg] at hk
              simp only [hleft, decide_true, if_true, A]
              refine ⟨trivial, ?_⟩
              simp only [List.getElem?_cons_succ, List.getElem?_cons_zero, binS_add]
              rw [show (i : Int) + 1 = ((i + 1 : Nat) : Int) by omega]
              have : vGet (.obj c) (.int ((i + 1 : Nat) : Int)) (mup M q (.lst (pre.map fun m : Nat => D.int (m : Nat)))) = fun Q => Q d2 (mup M q (.lst (pre.map fun m : Nat => D.int (m : Nat)))) := by funext Q; exact vGet_lst (Bc _) hd2
              rw [this]
              simp only []
              rw [hnn, vGet_row (r2.mup (.inl hqn)) hg]
              rw [← hnn]
              exact hk
            · rw [if_neg hleft] at hk
              simp only [hleft, decide_false, Bool.false_eq_true, if_false]
              exact hk
          refine wp_cons (key _ ?_)
          refine wp_last ?_
          have hm : ((j + 1 : Nat) : Int) = 1 + (j : Nat) := by omega
          have hmul' : binS .Mult (.int count) (.int (1 + (j : Nat))) = fun M Q => Q (.int (count * (1 + (j : Nat)))) M := by
            funext M Q
            refine vMul_ok hcm ?_
            have : (1 + (j : Nat) : Int).natAbs ≤ 8 := by omega
            exact Nat.lt_of_le_of_lt this (by decide)
          have nxt1 : okAt nxt count room (j + 1) = false → ∃ M'', DL.Sub M'' (mup M q (.lst (pre.map fun m : Nat => D.int (m : Nat)))) ∧ ∃ y5' y6' y7', [some (.obj p), some (.obj q), some (.int room), some (.int (i : Nat)), some (.int count), some (.int (1 + (j : Nat))), some (.int (room - 2 ^ (8 - (j + 1)))), some (encO (restF nxt (room - 2 ^ (8 - (j + 1)))))] = [some (.obj p), some (.obj q), some (.int room), some (.int (i : Nat)), some (.int count), y5', y6', y7'] ∧ M'' = mup M q (.lst (pre.map fun m : Nat => D.int (m : Nat))) ∧ j + 1 ≤ 8 ∧ (∀ m, 1 ≤ m → m ≤ j + 1 → okAt nxt count room m = false) ∧ (1 ≤ j + 1 → y5' = some (.int ((j + 1 : Nat) : Int)) ∧ y6' = some (.int (room - 2 ^ (8 - (j + 1))))) := fun e => ⟨_, Sub.rfl', _, _, _, rfl, rfl, hj8, fun m h1 h2 => by
              by_cases q : m ≤ j
              · exact no m h1 q
              · rw [show m = j + 1 by omega]; exact e, fun _ => ⟨by rw [hm], rfl⟩⟩
          have eok : okAt nxt count room (j + 1) = match restF nxt (room - 2 ^ (8 - (j + 1))) with
            | none => false
            | some r => decide (some (count * (1 + (j : Nat)) + r) = cheapF nxt count room) := by unfold okAt; rw [hm]
          cases er : restF nxt (room - 2 ^ (8 - (j + 1))) with
          | none =>
            rw [er] at eok nxt1
            simp only [DL.wpS, DL.wpE, DL.wpA, wpT, wpTs, encO, List.getElem?_cons_zero, List.getElem?_cons_succ, cmpS, vIsK, DL.isNon, vTru, Bool.not_true, Bool.false_eq_true, if_false, if_true]
            exact wp_nil (nxt1 eok)
          | some r =>
            have hlf : 0 ≤ room - 2 ^ (8 - (j + 1)) := by
              unfold restF at er
              split at er
              · assumption
              · cases er
            have hc8 := cheapN_some (nxt := nxt) (count := count) (room := room) (m := j + 1) (by omega) (by rw [er]; rfl) 8 (by omega)
            obtain ⟨v, hv⟩ := Option.isSome_iff_exists.mp hc8
            have hv' : cheapF nxt count room = some v := hv
            rw [er] at eok nxt1
            simp only [hv'] at eok
            have hcur : (newRow nxt count)[room.toNat]? = some (some v) := by
              unfold newRow
              rw [List.getElem?_map, List.getElem?_range (by omega)]
              show some (cheapF nxt count (room.toNat : Nat)) = _
              rw [show ((room.toNat : Nat) : Int) = room by omega, hv']
            have hg1 : vGet (.obj c) (.int (i : Nat)) (mup M q (.lst (pre.map fun m : Nat => D.int (m : Nat)))) = fun Q => Q d1 (mup M q (.lst (pre.map fun m : Nat => D.int (m : Nat)))) := by funext Q; exact vGet_lst (Bc _) hd1
            have hg2 : vGet d1 (.int room) (mup M q (.lst (pre.map fun m : Nat => D.int (m : Nat)))) = fun Q => Q (.int v) (mup M q (.lst (pre.map fun m : Nat => D.int (m : Nat)))) := by
              have := vGet_row (r1.mup (q := q) (o := .lst (pre.map fun m : Nat => D.int (m : Nat))) (.inl hqn)) hcur
              rw [show ((room.toNat : Nat) : Int) = room by omega] at this
              exact this
            simp only [DL.wpS, DL.wpE, DL.wpA, wpT, wpTs, encO, List.getElem?_cons_zero, List.getElem?_cons_succ, cmpS, vIsK, DL.isNon, vTru, Bool.not_true, Bool.not_false, Bool.false_eq_true, if_false, if_true, hmul', binS_add, A, true_and, hg1, hg2, vEqK]
            by_cases hd : count * (1 + (j : Nat)) + r = v
            · simp only [hd, decide_true, if_true] at eok ⊢
              refine wp_last ?_
              simp only [DL.wpS]
              have hpk := pick_of hj8 no eok
              exact ⟨_, by rw [hpk, hm], trivial⟩
            · have hd' : ¬ (some (count * (1 + (j : Nat)) + r) = some v) := fun z => hd (by cases z; rfl)
              rw [decide_eq_false hd'] at eok
              simp only [hd, decide_false, Bool.false_eq_true, if_false]
              exact wp_nil (nxt1 eok)
        · have hj2 : j = 8 := by omega
          subst hj2
          rw [List.getElem?_eq_none (by simp)]
          simp only [Option.map_none]
          have hpk := pick_none no
          obtain ⟨rfl, rfl⟩ := hy (by decide)
          exact ⟨y7, by rw [hpk], trivial⟩
      · rintro ρ' M' ⟨x7, rfl, rfl⟩
        refine ⟨_, Sub.rfl', wp_cons ?_⟩
        simp only [DL.wpS, DL.wpE, DL.wpA, recv, bmS, BM.ty, List.getElem?_cons_zero, List.getElem?_cons_succ, rdL_new, mup_same, mup_mup]
        refine ⟨⟨trivial, rfl⟩, by rw [List.length_map, hi]; exact Nat.lt_of_lt_of_le hil (Nat.le_trans hcl (by decide)), ?_⟩
        refine wp_last ?_
        simp only [DL.wpS, DL.wpE, wpTg, List.set_cons_succ, List.set_cons_zero, List.getElem?_cons_zero, List.getElem?_cons_succ]
        have hp1 : (1 : Int) ≤ 2 ^ (8 - pickF nxt count room) := by have := Int.pow_pos (n := 2) (m := 8 - pickF nxt count room) (by decide); omega
        refine ⟨_, Sub.rfl', pre ++ [pickF nxt count room], _, _, _, _, _, _, rfl, by rw [List.map_append]; rfl, by simp [hi], hil, by omega, ?_⟩
        rw [hw]
        simp
  · exact h.elim
def lensF (chs : List D) (counts : List Int) : List Nat := match chs with
  | [e] => if DL.isNon e = true then [1] else [0]
  | _ => leastF counts 256
theorem least_len (cs : List Int) : ∀ room, (leastF cs room).length = cs.length := by
  induction cs with
  | nil => intro _; rfl
  | cons c cs ih => intro room; simp [leastF, ih]
theorem lens_len {chs : List D} {counts : List Int} (h : chs.length = counts.length) : (lensF chs counts).length = chs.length := by
  unfold lensF
  split
  · split <;> rfl
  · rw [least_len, h]
def sp_lengths_of : SpD := fun ds M Q _ => match ds with
  | [.obj a, .obj b] => ∃ chs counts, rdL M a = some chs ∧ rdL M b = some (counts.map D.int) ∧ (∀ k ∈ counts, cOk k) ∧ chs.length = counts.length ∧ counts.length ≤ 1000 ∧ ∀ q, M q = none → Q (.obj q) (mup M q (.lst ((lensF chs counts).map fun m : Nat => D.int (m : Nat))))
  | _ => False
theorem h_lengths_of (k k2 : Nat) : ∀ ds M Q0 E0, sp_lengths_of ds M Q0 E0 → ds.length = 2 ∧ wpSs ⟨[C_Sharing_least k sp_least, C_Sharing___init__ k2 sp_Sharing_init], sub, fdOf cf⟩ (wF E0) none m_lengths_of (endsF Q0) (startD N_lengths_of.length ds) M := by
  intro ds M Q0 E0 h
  unfold sp_lengths_of at h
  split at h
  · rename_i a b
    obtain ⟨chs, counts, ha, hb, hck, hlen, hcl, hq⟩ := h
    refine ⟨rfl, ?_⟩
    unfold m_lengths_of
    refine wp_cons ?_
    show DL.wpS _ _ _ _ _ [some (.obj a), some (.obj b)] M
    simp only [DL.wpS, wpT, DL.wpE, DL.wpA, List.getElem?_cons_zero, List.getElem?_cons_succ, biS, rdS, ha, cmpS, vEqK, vTru]
    by_cases h1 : (chs.length : Int) = 1
    · simp only [h1, decide_true, if_true, Bool.false_eq_true, if_false]
      obtain ⟨e, rfl⟩ : ∃ e, chs = [e] := by
        match chs, h1 with
        | [e], _ => exact ⟨e, rfl⟩
        | [], h => simp at h
        | a :: b :: r, h => simp at h; omega
      refine wp_last ?_
      simp only [DL.wpS, DL.wpE, DL.wpA, wpT, List.getElem?_cons_zero, List.getElem?_cons_succ]
      rw [show vGet (.obj a) (.int 0) M = fun Q => Q e M from by funext Q; exact vGet_lst (k := 0) ha rfl]
      simp only [cmpS, vIsK]
      cases hn : DL.isNon e with
      | true =>
        cases e <;> first | cases hn | skip
        simp only [Bool.false_eq_true, if_false, vTru, if_true, DL.isNon]
        intro q hqn
        exact rt_of (hq q hqn) Sub.rfl'
      | false =>
        have := fun q hqn => rt_of (Q0 := Q0) (hq q hqn) Sub.rfl'
        simp only [lensF, hn, Bool.false_eq_true, if_false, List.map_cons, List.map_nil] at this
        cases e <;> first | cases hn | skip
        all_goals
          (simp only [Bool.false_eq_true, if_false, vTru, if_true, DL.isNon]
           exact this)
    · simp only [h1, decide_false, Bool.false_eq_true, if_false]
      refine wp_nil ?_
      refine wp_last ?_
      simp only [DL.wpS, DL.wpE, DL.wpA, List.getElem?_cons_zero, List.getElem?_cons_succ]
      intro p hp
      have hbp : b ≠ p := fun z => by unfold rdL at hb; rw [z, hp] at hb; cases hb
      refine ⟨counts, mup_same, by unfold rdL at hb ⊢; rw [mup_ne hbp]; exact hb, hck, hcl, fun M2 c xs w => ?_⟩
      simp only [w.sh.ins, true_and]
      have hold : DL.Sub M M2 := fun x o e => by
        have : x ≠ p := fun z => by rw [z, hp] at e; cases e
        exact w.old x o this (by rw [mup_ne this]; exact e)
      refine ⟨counts, b, c, xs, w.sh, rdL_sub hold hb, hck, hcl, fun q hqn => ?_⟩
      have hq0 : M q = none := by
        cases e : M q with
        | none => rfl
        | some o => rw [hold q o e] at hqn; cases hqn
      have e : lensF chs counts = leastF counts 256 := by
        unfold lensF
        split
        · exact absurd rfl h1
        · rfl
      have := hq q hq0
      rw [e] at this
      exact rt_of this (sub_mup hold)
  · exact h.elim
end H41
set_option Elab.async false
set_option linter.all false
set_option maxRecDepth 100000
set_option maxHeartbeats 1000000
namespace H41
open PySem PySem.Spec PyProof.Rows L2 DL
/-! ### dicts -/
theorem dlook_put (kvs : List (D × D)) (k v k' : D) : dlook (dput kvs k v) k' = if k' = k then some v else dlook kvs k' := by
  unfold dput
  split
  · rename_i h
    induction kvs with
    | nil => simp at h
    | cons p kvs ih =>
      unfold dlook at ih ⊢
      rw [List.map_cons, List.find?_cons]
      by_cases hp : p.1 = k
      · rw [if_pos (eqD_iff.mpr hp)]
        by_cases hk : k' = k
        · rw [if_pos hk]
          rw [show eqD p.1 k' = true from eqD_iff.mpr (by rw [hp, hk])]
          rfl
        · rw [if_neg hk]
          have e1 : eqD p.1 k' = false := Bool.eq_false_iff.mpr fun z => hk (by rw [← eqD_eq _ _ z, hp])
          rw [e1, List.find?_cons, e1]
          -- behind it k may stand again; the others keep
          have : ∀ l : List (D × D), (l.map fun p => if eqD p.1 k then (p.1, v) else p).find? (fun p => eqD p.1 k') = (l.find? fun p => eqD p.1 k').map fun p => if eqD p.1 k then (p.1, v) else p := by
            intro l
            induction l with
            | nil => rfl
            | cons a l ih2 =>
              rw [List.map_cons, List.find?_cons, List.find?_cons]
              have e : (if eqD a.1 k = true then (a.1, v) else a).1 = a.1 := by split <;> rfl
              rw [e]
              cases eqD a.1 k' with
              | true => rfl
              | false => exact ih2
          rw [this]
          cases e2 : kvs.find? (fun p => eqD p.1 k') with
          | none => rfl
          | some y =>
            have := List.find?_some e2
            simp only [Option.map_some]
            have hy : ¬ eqD y.1 k = true := fun z => hk (by rw [← eqD_eq _ _ this, eqD_eq _ _ z])
            rw [if_neg hy]
      · rw [if_neg fun z => hp (eqD_eq _ _ z)]
        have h2 : kvs.any (fun p => eqD p.1 k) = true := by
          rw [List.any_cons, Bool.or_eq_true] at h
          rcases h with z | z
          · exact absurd (eqD_eq _ _ z) hp
          · exact z
        cases e : eqD p.1 k' with
        | true =>
          have : k' ≠ k := fun z => hp (by rw [eqD_eq _ _ e, z])
          rw [if_neg this, List.find?_cons, e]
        | false =>
          rw [List.find?_cons, e]
          exact ih h2
  · rename_i h
    unfold dlook
    rw [List.find?_append]
    by_cases hk : k' = k
    · rw [if_pos hk]
      have : kvs.find? (fun p => eqD p.1 k') = none := by
        rw [List.find?_eq_none]
        intro p hp z
        exact h (List.any_eq_true.mpr ⟨p, hp, by rw [← hk]; exact z⟩)
      rw [this]
      simp [eqD_iff.mpr hk.symm]
    · rw [if_neg hk]
      have : eqD k k' = false := Bool.eq_false_iff.mpr fun z => hk (eqD_eq _ _ z).symm
      cases kvs.find? (fun p => eqD p.1 k') <;> simp [this]
theorem cntOf_tick {kvs : List (D × D)} (c c' : Nat × Option Nat) : cntOf (tick kvs c) c' = cntOf kvs c' + if c' = c then 1 else 0 := by
  by_cases h : c' = c
  · subst h
    have : dlook (tick kvs c') (encCh c') = some (.int (cntOf kvs c' + 1)) := by
      unfold tick; rw [dlook_put, if_pos rfl]
    rw [if_pos rfl]
    conv => lhs; unfold cntOf
    rw [this]
  · have : dlook (tick kvs c) (encCh c') = dlook kvs (encCh c') := by
      unfold tick; rw [dlook_put, if_neg fun z => h (encCh_inj z)]
    rw [if_neg h, Int.add_zero]
    conv => lhs; unfold cntOf
    rw [this]; rfl
theorem cntOf_tally (cs : List (Nat × Option Nat)) (c : Nat × Option Nat) : ∀ kvs, cntOf (tally kvs cs) c = cntOf kvs c + (cs.count c : Nat) := by
  induction cs with
  | nil => intro kvs; simp [tally]
  | cons a cs ih =>
    intro kvs
    show cntOf (tally (tick kvs a) cs) c = _
    rw [ih, cntOf_tick, List.count_cons]
    by_cases h : c = a
    · simp [h]; omega
    · have : ¬ (a == c) = true := by simpa using fun z => h z.symm
      simp [h, this]
/-! ### what fitted tells -/
def chL (r : Row) : List (Option Nat) := ((List.range r.2.length).filter fun l => ((r.2[l]?).join).isSome).map some ++ if r.1 = true then [none] else []
def cntsF (kvs : List (D × D)) (st : Nat) (r : Row) : List Int := (chL r).map fun o => cntOf kvs (st, o)
def lensR (kvs : List (D × D)) (st : Nat) (r : Row) : List Nat := lensF ((chL r).map encStep) (cntsF kvs st r)
def zipR (kvs : List (D × D)) (st : Nat) (r : Row) : List (D × D) := zipD ((chL r).map encStep) ((lensR kvs st r).map fun m : Nat => D.int (m : Nat))
def stepD (z : List (D × D)) : D → D
  | .tup [k, .int s] => .tup [(dlook z k).getD .non, .int s]
  | _ => .non
def fitRow (kvs : List (D × D)) (st : Nat) (r : Row) : D := .tup [(dlook (zipR kvs st r) .non).getD .non, .tup ((enuL 0 (r.2.map encStep)).map (stepD (zipR kvs st r)))]
def fitRows (kvs : List (D × D)) : Nat → List Row → List D
  | _, [] => []
  | st, r :: rs => fitRow kvs st r :: fitRows kvs (st + 1) rs
def fitD (n : Nat) (rs : List Row) (d : D) : D := .tup [.int (n : Nat), .tup (fitRows (tally [] (taken rs d)) 0 rs)]
theorem zip_keys (P : D → Prop) : ∀ (ps acc : List (D × D)), (∀ p ∈ acc, P p.1) → (∀ p ∈ ps, P p.1) → ∀ p ∈ ps.foldl (fun acc p => dput acc p.1 p.2) acc, P p.1
  | [], acc, h, _, p, hp => h p hp
  | a :: ps, acc, h, h2, p, hp => by
    refine zip_keys P ps (dput acc a.1 a.2) (fun q hq => ?_) (fun q hq => h2 q (List.mem_cons_of_mem _ hq)) p hp
    have : q.1 ∈ (dput acc a.1 a.2).map (·.1) := List.mem_map.mpr ⟨q, hq, rfl⟩
    rw [dput_keys] at this
    split at this
    · obtain ⟨x, hx, e⟩ := List.mem_map.mp this
      rw [← e]; exact h x hx
    · rcases List.mem_append.mp this with z | z
      · obtain ⟨x, hx, e⟩ := List.mem_map.mp z
        rw [← e]; exact h x hx
      · rw [List.mem_singleton] at z
        rw [z]; exact h2 a (List.mem_cons_self ..)
theorem look_fold : ∀ (ps acc : List (D × D)) (k : D), (dlook acc k).isSome = true ∨ (∃ v, (k, v) ∈ ps) → (dlook (ps.foldl (fun acc p => dput acc p.1 p.2) acc) k).isSome = true
  | [], acc, k, h => by
    rcases h with h | ⟨v, h⟩
    · exact h
    · cases h
  | a :: ps, acc, k, h => by
    refine look_fold ps (dput acc a.1 a.2) k ?_
    rw [dlook_put]
    by_cases e : k = a.1
    · rw [if_pos e]; exact .inl rfl
    · rw [if_neg e]
      rcases h with h | ⟨v, h⟩
      · exact .inl h
      · rcases List.mem_cons.mp h with z | z
        · exact absurd (by rw [← z]) e
        · exact .inr ⟨v, z⟩
theorem zip_look {xs ys : List D} (hl : xs.length = ys.length) {k : D} (hk : k ∈ xs) : (dlook (zipD xs ys) k).isSome = true := by
  unfold zipD
  refine look_fold _ _ _ (.inr ?_)
  obtain ⟨i, hi, e⟩ := List.mem_iff_getElem.mp hk
  refine ⟨ys[i]'(by omega), ?_⟩
  rw [← e]
  refine List.mem_iff_getElem.mpr ⟨i, by simp; omega, by simp⟩
theorem zip_leaf {xs ys : List D} (h : ∀ x ∈ xs, (lkey x).isSome = true) : ((zipD xs ys).all fun p => (lkey p.1).isSome) = true := by
  refine List.all_eq_true.mpr fun p hp => ?_
  unfold zipD at hp
  refine zip_keys (fun d => (lkey d).isSome = true) (xs.zip ys) [] (fun _ h => nomatch h) (fun q hq => ?_) p hp
  obtain ⟨a, b⟩ := q
  exact h _ (List.of_mem_zip hq).1
theorem enc_leaf (o : Option Nat) : (lkey (encStep o)).isSome = true := by cases o <;> rfl
theorem taken_len {n : Nat} {rs : List Row} : ∀ (ls : List Nat) (st : Nat) (w : List (Nat × Option Nat)), way rs st ls = some w → w.length = ls.length + 1
  | [], st, w, h => by
    unfold way at h
    split at h
    · split at h
      · cases h; rfl
      · cases h
    · cases h
  | l :: ls, st, w, h => by
    unfold way at h
    split at h
    · split at h
      · rename_i s' _
        cases e : way rs s' ls with
        | none => rw [e] at h; cases h
        | some w' => rw [e] at h; cases h; simp [taken_len (n := n) ls s' w' e]
      · cases h
    · cases h
theorem takenL_len {M : Mem} {rs : List Row} : ∀ (ts : List D), (∀ t ∈ ts, Kw M t) → (takenL rs ts).length ≤ ts.length * 1048577
  | [], _ => by simp [takenL]
  | t :: ts, h => by
    have ih := takenL_len (rs := rs) ts fun t' ht => h t' (List.mem_cons_of_mem _ ht)
    have e : takenL rs (t :: ts) = (way rs 0 (lets t)).getD [] ++ takenL rs ts := by simp [takenL]
    rw [e, List.length_append, List.length_cons]
    have : ((way rs 0 (lets t)).getD []).length ≤ 1048577 := by
      cases e : way rs 0 (lets t) with
      | none => simp
      | some w =>
        have h1 := taken_len (n := 0) _ _ _ e
        simp only [Option.getD_some]
        rw [h1]
        have hk := h t (List.mem_cons_self ..)
        cases t with
        | tup xs =>
          have := hk.tup'.1
          simp [lets]; omega
        | _ => simp [lets]
    omega
theorem cnt_ok {M : Mem} {rs : List Row} {d : D} (h : Kw M d) (c : Nat × Option Nat) : cOk (cntOf (tally [] (taken rs d)) c) := by
  rw [cntOf_tally]
  have h0 : cntOf [] c = 0 := rfl
  rw [h0, Int.zero_add]
  unfold cOk
  have h1 := List.count_le_length (a := c) (l := taken rs d)
  have h2 : (taken rs d).length ≤ 1048576 * 1048577 := by
    cases d with
    | tup ts =>
      have := takenL_len (rs := rs) ts h.tup'.2
      exact Nat.le_trans this (Nat.mul_le_mul_right _ h.tup'.1)
    | _ => exact Nat.zero_le _
  have : (((taken rs d).count c : Nat) : Int).natAbs = (taken rs d).count c := by omega
  rw [this]
  exact Nat.lt_of_le_of_lt (Nat.le_trans h1 h2) (by decide)
end H41
set_option Elab.async false
set_option linter.all false
set_option maxRecDepth 100000
set_option maxHeartbeats 1000000
namespace H41
open PySem PySem.Spec PyProof.Rows L2 DL
theorem mup_none {M : Mem} {a p : Addr} {o : MO} (h : mup M a o p = none) : p ≠ a ∧ M p = none := by
  have : p ≠ a := fun z => by rw [z, mup_same] at h; cases h
  rw [mup_ne this] at h
  exact ⟨this, h⟩
theorem sub_mup2 {M N : Mem} {r : Addr} {o : MO} (h : ∀ a u, a ≠ r → M a = some u → N a = some u) : Sub (mup M r o) (mup N r o) := fun a u e => by
  by_cases q : a = r
  · subst q; rw [mup_same] at e ⊢; exact e
  · rw [mup_ne q] at e ⊢; exact h a u q e
theorem fitRows_get (kvs : List (D × D)) : ∀ (rs : List Row) (k i : Nat) (r : Row), rs[i]? = some r → (fitRows kvs k rs)[i]? = some (fitRow kvs (k + i) r)
  | [], k, i, r, h => by simp at h
  | a :: rs, k, 0, r, h => by cases h; rfl
  | a :: rs, k, i + 1, r, h => by
    have := fitRows_get kvs rs (k + 1) i r (by simpa using h)
    show (fitRows kvs (k + 1) rs)[i]? = _
    rw [this, show k + 1 + i = k + (i + 1) by omega]
theorem fitRows_len (kvs : List (D × D)) : ∀ (rs : List Row) (k : Nat), (fitRows kvs k rs).length = rs.length
  | [], k => rfl
  | a :: rs, k => by simp [fitRows, fitRows_len kvs rs (k + 1)]
def gS : D → Bool | .tup [_, s] => !DL.isNon s | _ => false
def fS : D → D | .tup [k, _] => k | _ => .non
theorem enuL_mem {os : List (Option Nat)} {d : D} (h : d ∈ enuL 0 (os.map encStep)) : ∃ (k : Nat) (o : Option Nat), os[k]? = some o ∧ d = .tup [.int (k : Nat), encStep o] := by
  obtain ⟨i, hi⟩ := List.mem_iff_getElem?.mp h
  rw [enuL_get, List.getElem?_map] at hi
  cases e : os[i]? with
  | none => rw [e] at hi; cases hi
  | some o =>
    rw [e] at hi
    refine ⟨i, o, e, ?_⟩
    simp at hi
    exact hi.symm
theorem enuL_len : ∀ (xs : List D) (k : Nat), (enuL k xs).length = xs.length
  | [], _ => rfl
  | x :: xs, k => by simp [enuL, enuL_len xs (k + 1)]
theorem letters_eq : ∀ (os : List (Option Nat)) (k : Nat), ((enuL k (os.map encStep)).filter gS).map fS = ((List.range os.length).filter fun l => ((os[l]?).join).isSome).map fun l => D.int ((k + l : Nat) : Int)
  | [], k => rfl
  | o :: os, k => by
    have ih := letters_eq os (k + 1)
    rw [List.length_cons, List.range_succ_eq_map, List.map_cons]
    simp only [enuL]
    rw [List.filter_cons, List.filter_cons]
    have e : ((List.map Nat.succ (List.range os.length)).filter fun l => (((o :: os)[l]?).join).isSome) = ((List.range os.length).filter fun l => ((os[l]?).join).isSome).map Nat.succ := by
      rw [List.filter_map]
      rfl
    rw [e]
    have e2 : (((List.range os.length).filter fun l => ((os[l]?).join).isSome).map Nat.succ).map (fun l => D.int ((k + l : Nat) : Int)) = ((List.range os.length).filter fun l => ((os[l]?).join).isSome).map fun l => D.int ((k + 1 + l : Nat) : Int) := by
      rw [List.map_map]
      refine List.map_congr_left fun l _ => ?_
      show D.int ((k + (l + 1) : Nat) : Int) = _
      rw [show k + (l + 1) = k + 1 + l by omega]
    cases o with
    | none =>
      simp only [gS, encStep, DL.isNon, Bool.not_true, Bool.false_eq_true, if_false, List.getElem?_cons_zero, Option.join_some, Option.isSome_none]
      rw [ih, e2]
    | some s =>
      simp only [gS, encStep, DL.isNon, Bool.not_false, if_true, List.getElem?_cons_zero, Option.join_some, Option.isSome_some, List.map_cons, fS]
      rw [ih, e2]
      simp
theorem chL_enc (r : Row) : (chL r).map encStep = ((enuL 0 (r.2.map encStep)).filter gS).map fS ++ (List.replicate (if r.1 = true then 1 else 0) [D.non]).flatten := by
  rw [letters_eq]
  unfold chL
  rw [List.map_append, List.map_map]
  congr 1
  · refine List.map_congr_left fun l _ => ?_
    simp [encStep]
  · cases r.1 <;> rfl
theorem chL_mem {r : Row} {k s : Nat} (h : r.2[k]? = some (some s)) : D.int (k : Nat) ∈ (chL r).map encStep := by
  refine List.mem_map.mpr ⟨some k, ?_, rfl⟩
  unfold chL
  refine List.mem_append_left _ (List.mem_map.mpr ⟨k, ?_, rfl⟩)
  rw [List.mem_filter, List.mem_range]
  refine ⟨(List.getElem?_eq_some_iff.mp h).1, by rw [h]; rfl⟩
theorem chL_len {n : Nat} {r : Row} (h : r.2.length = n) : (chL r).length ≤ n + 1 := by
  unfold chL
  rw [List.length_append, List.length_map]
  have := List.length_filter_le (fun l => ((r.2[l]?).join).isSome) (List.range r.2.length)
  rw [List.length_range, h] at this
  rw [h]
  cases r.1 <;> simp <;> omega
theorem fit_len (kvs : List (D × D)) (st : Nat) (r : Row) : ((chL r).map encStep).length = ((lensR kvs st r).map fun m : Nat => D.int (m : Nat)).length := by
  rw [List.length_map, List.length_map]
  unfold lensR
  rw [lens_len (by simp [cntsF])]
  simp
def sp_fitted : SpD := fun ds M Q E => match ds with
  | [s, d] => Kw M s ∧ Kw M d ∧ (shapeOk s = false → E ⟨2, []⟩ M) ∧ (∀ n rs, s = encShape n rs → ShOk n rs → if areTexts n rs d = true then Q (fitD n rs d) M else E ⟨1, []⟩ M)
  | _ => False
theorem h_fitted (k k2 k3 : Nat) : ∀ ds M Q0 E0, sp_fitted ds M Q0 E0 → ds.length = 2 ∧ wpSs ⟨[C_is_shape k sp_is_shape, C_counted k2 sp_counted, C_lengths_of k3 sp_lengths_of], sub, fdOf cf⟩ (wF E0) none m_fitted (endsF Q0) (startD N_fitted.length ds) M := by
  intro ds M Q0 E0 h
  unfold sp_fitted at h
  split at h
  · rename_i s d
    obtain ⟨hs, hd, hbad, hgood⟩ := h
    refine ⟨rfl, ?_⟩
    unfold m_fitted
    refine wp_cons ?_
    show DL.wpS _ _ _ _ _ [some s, some d, none, none, none, none, none, none, none, none, none, none, none] M
    simp only [DL.wpS, wpT, DL.wpE, DL.wpA, List.getElem?_cons_zero, List.getElem?_cons_succ, sp_is_shape, hs, true_and, vTru]
    cases hok : shapeOk s with
    | false =>
      simp only [Bool.not_false, if_true]
      refine wp_last ?_
      simp only [DL.wpS, DL.wpA]
      exact ⟨M, Sub.rfl', hbad hok⟩
    | true =>
      simp only [Bool.not_true, Bool.false_eq_true, if_false]
      refine wp_nil ?_
      obtain ⟨n, rs, rfl, hS⟩ := shape_enc hok
      have hq := hgood n rs rfl hS
      refine wp_cons ?_
      simp only [DL.wpS, DL.wpE, DL.wpA, List.getElem?_cons_zero, List.getElem?_cons_succ, wpTg, List.set_cons_succ, List.set_cons_zero]
      refine ⟨n, rs, rfl, hS, hd, ?_⟩
      cases ha : areTexts n rs d with
      | false =>
        rw [ha] at hq
        simp only [Bool.false_eq_true, if_false] at hq ⊢
        exact ⟨M, Sub.rfl', hq⟩
      | true =>
        rw [ha] at hq
        simp only [if_true] at hq ⊢
        intro q hqn
        have gd0 : GoodD (tally [] (taken rs d)) := by
          obtain ⟨ts, rfl⟩ : ∃ ts, d = .tup ts := by cases d <;> first | exact ⟨_, rfl⟩ | cases ha
          refine GoodD.nil.tally fun c hc => ?_
          obtain ⟨l, hl', hc'⟩ := List.mem_flatten.mp (show c ∈ (ts.map fun t => (way rs 0 (lets t)).getD []).flatten from hc)
          obtain ⟨t, ht, rfl⟩ := List.mem_map.mp hl'
          have h1 := List.all_eq_true.mp ha t ht
          rw [Bool.and_eq_true] at h1
          have := text_lets h1.1
          cases e : way rs 0 (lets t) with
          | none => rw [e] at hc'; cases hc'
          | some w => rw [e] at hc'; exact way_small hS _ 0 w this.2 hS.r1 e c hc'
        have gck : ∀ c, cOk (cntOf (tally [] (taken rs d)) c) := cnt_ok hd
        unfold fitD at hq
        generalize tally [] (taken rs d) = kvs at gd0 gck hq ⊢
        refine wp_cons ?_
        simp only [DL.wpS, DL.wpE, DL.wpA, wpTg, List.set_cons_succ, List.set_cons_zero]
        intro rp hrp
        obtain ⟨nrq, hrp0⟩ := mup_none hrp
        refine wp_cons ?_
        simp only [DL.wpS, DL.wpI, DL.wpE, List.getElem?_cons_zero, List.getElem?_cons_succ, encShape, vGet_1, enuOf]
        refine ⟨fun i ρ M' => ∃ x4 x5 x6 x7 x8 x9 x10 x11 x12, ρ = [some (encShape n rs), some d, some (.obj q), some (.obj rp), x4, x5, x6, x7, x8, x9, x10, x11, x12] ∧ M' = mup (mup M q (.dct kvs)) rp (.lst ((fitRows kvs 0 rs).take i)) ∧ i ≤ rs.length, ⟨none, none, none, none, none, none, none, none, none, rfl, rfl, Nat.zero_le _⟩, ?_⟩
        rintro i ρ M' ⟨x4, x5, x6, x7, x8, x9, x10, x11, x12, rfl, rfl, hi⟩
        refine ⟨trivial, ?_⟩
        rw [enuL_get]
        unfold encRows
        rw [List.getElem?_map]
        cases hx : rs[i]? with
        | none =>
          have : i = rs.length := by
            have := List.getElem?_eq_none_iff.mp hx
            omega
          simp only [Option.map_none]
          refine wp_last ?_
          simp only [DL.wpS, DL.wpE, DL.wpA, List.getElem?_cons_zero, List.getElem?_cons_succ, encShape, vGet_0, biS, rdS, rdL_new]
          rw [this, List.take_of_length_le (by rw [fitRows_len]; exact Nat.le_refl _)]
          exact rt_of hq ((Sub.new hqn).trans (Sub.new hrp))
        | some r =>
          have hil : i < rs.length := (List.getElem?_eq_some_iff.mp hx).1
          have hrn := hS.len r (List.mem_of_getElem? hx)
          have hn8 := hS.n8
          simp only [Option.map_some, encRow, wpTg, wpTgs, List.set_cons_succ, List.set_cons_zero, Nat.zero_add]
          generalize hMi : mup (mup M q (.dct kvs)) rp (.lst ((fitRows kvs 0 rs).take i)) = Mi
          have hMq : Mi q = some (.dct kvs) := by rw [← hMi, mup_ne (Ne.symm nrq), mup_same]
          have hMr : Mi rp = some (.lst ((fitRows kvs 0 rs).take i)) := by rw [← hMi, mup_same]
          have hlen : (enuL 0 (r.2.map encStep)).length ≤ big := by rw [enuL_len, List.length_map, hrn]; exact Nat.le_trans hn8 (by decide)
          refine wp_cut (fun ρ' M' => ∃ p4, ρ' = [some (encShape n rs), some d, some (.obj q), some (.obj rp), some (.int (i : Nat)), some (.bl r.1), some (.tup (r.2.map encStep)), some (.obj p4), x8, x9, x10, x11, x12] ∧ Mi p4 = none ∧ Sub (mup Mi p4 (.lst ((chL r).map encStep))) M') ?_ ?_
          · simp only [DL.wpS, DL.wpE, DL.wpA, DL.wpI, List.getElem?_cons_zero, List.getElem?_cons_succ, enuOf]
            refine lc_pure fS gS trivial _ [] _ (by rw [List.length_nil, Nat.zero_add]; exact hlen) (fun x hx' K1 K2 h1 h2 => ?_) ?_
            · obtain ⟨k, o, ho, rfl⟩ := enuL_mem hx'
              cases o with
              | none =>
                simp only [wpTg, wpTgs, wipeD, List.map_cons, List.map_nil, List.set_cons_succ, List.set_cons_zero, wpIf, wpT, DL.wpE, List.getElem?_cons_zero, List.getElem?_cons_succ, cmpS, vIsK, encStep, DL.isNon, if_true, Bool.not_true, vTru, Bool.false_eq_true, if_false]
                exact h2 rfl
              | some s' =>
                simp only [wpTg, wpTgs, wipeD, List.map_cons, List.map_nil, List.set_cons_succ, List.set_cons_zero, wpIf, wpT, DL.wpE, List.getElem?_cons_zero, List.getElem?_cons_succ, cmpS, vIsK, encStep, DL.isNon, if_true, Bool.not_false, vTru]
                exact h1 rfl
            · rw [List.nil_append]
              intro p1 hp1 p2 hp2
              simp only [binS, vMul, mup_same]
              intro p3 hp3
              have n12 := (mup_none hp2).1
              have n23 := (mup_none hp3).1
              have n13 := (mup_none (mup_none hp3).2).1
              simp only [binS, vAdd, mup_ne (Ne.symm n13), mup_ne (Ne.symm n12), mup_same]
              refine ⟨?_, fun p4 hp4 => ⟨p4, rfl, (mup_none (mup_none (mup_none hp4).2).2).2, ?_⟩⟩
              · have := List.length_filter_le gS (enuL 0 (r.2.map encStep))
                rw [enuL_len, List.length_map, hrn] at this
                rw [List.length_map]
                cases r.1 <;> simp [big] <;> omega
              · rw [chL_enc]
                refine sub_mup ?_
                exact ((Sub.new hp1).trans (Sub.new hp2)).trans (Sub.new hp3)
          rintro ρ' M' ⟨p4, rfl, hp4, hsub⟩
          have nq4 : q ≠ p4 := fun z => by rw [← z, hMq] at hp4; cases hp4
          have nr4 : rp ≠ p4 := fun z => by rw [← z, hMr] at hp4; cases hp4
          refine ⟨mup Mi p4 (.lst ((chL r).map encStep)), hsub, ?_⟩
          refine wp_cut (fun ρ' M' => ∃ p7, ρ' = [some (encShape n rs), some d, some (.obj q), some (.obj rp), some (.int (i : Nat)), some (.bl r.1), some (.tup (r.2.map encStep)), some (.obj p4), x8, x9, some (.obj p7), x11, x12] ∧ Mi p7 = none ∧ Sub (mup Mi p7 (.dct (zipR kvs i r))) M') ?_ ?_
          · simp only [DL.wpS, DL.wpE, DL.wpA, DL.wpI, List.getElem?_cons_zero, List.getElem?_cons_succ, itsOf, rdL_new]
            have ecnt : ((chL r).map encStep).map (fun x => (dlook kvs (.tup [.int (i : Nat), x])).getD (.int 0)) = (cntsF kvs i r).map D.int := by
              unfold cntsF
              rw [List.map_map, List.map_map]
              refine List.map_congr_left fun o _ => ?_
              exact gd0.get (i, o)
            refine lc_map (fun x => (dlook kvs (.tup [.int (i : Nat), x])).getD (.int 0)) rdL_new _ _ (by rw [List.length_map]; exact Nat.le_trans (chL_len hrn) (by simp [big]; omega)) (fun x hx' K1 h1 => ?_) fun p5 hp5 => ?_
            · obtain ⟨o, _, rfl⟩ := List.mem_map.mp hx'
              simp only [wpTg, wipeD, List.map_cons, List.map_nil, List.set_cons_succ, List.set_cons_zero, DL.wpE, DL.wpA, List.getElem?_cons_zero, List.getElem?_cons_succ, isDct, mup_ne nq4, hMq, true_and, vDGet]
              exact ⟨gd0.key (i, o), h1⟩
            · rw [ecnt]
              have n54 := (mup_none hp5).1
              refine ⟨(chL r).map encStep, cntsF kvs i r, by unfold rdL; rw [mup_ne (Ne.symm n54), mup_same], rdL_new, fun c hc => ?_, by simp [cntsF], by unfold cntsF; rw [List.length_map]; exact Nat.le_trans (chL_len hrn) (by omega), fun p6 hp6 => ?_⟩
              · obtain ⟨o, _, rfl⟩ := List.mem_map.mp hc
                exact gck _
              · have n64 := (mup_none (mup_none hp6).2).1
                simp only [vZip, mup_same, mup_ne (Ne.symm n64), mup_ne (Ne.symm n54)]
                refine ⟨List.all_eq_true.mpr fun x hx' => by obtain ⟨o, _, rfl⟩ := List.mem_map.mp hx'; exact enc_leaf o, fun p7 hp7 => ⟨p7, rfl, (mup_none (mup_none (mup_none hp7).2).2).2, ?_⟩⟩
                exact sub_mup (((Sub.new hp4).trans (Sub.new hp5)).trans (Sub.new hp6))
          rintro ρ' M' ⟨p7, rfl, hp7, hsub⟩
          refine ⟨mup Mi p7 (.dct (zipR kvs i r)), hsub, ?_⟩
          have nr7 : rp ≠ p7 := fun z => by rw [← z, hMr] at hp7; cases hp7
          have zleaf : ((zipR kvs i r).all fun p => (lkey p.1).isSome) = true := zip_leaf fun x hx' => by obtain ⟨o, _, rfl⟩ := List.mem_map.mp hx'; exact enc_leaf o
          refine wp_cons ?_
          simp only [DL.wpS, DL.wpE, DL.wpA, DL.wpI, List.getElem?_cons_zero, List.getElem?_cons_succ, enuOf]
          refine lc_map (stepD (zipR kvs i r)) trivial _ _ hlen (fun x hx' K1 h1 => ?_) fun p8 hp8 => ?_
          · obtain ⟨k, o, ho, rfl⟩ := enuL_mem hx'
            cases o with
            | none =>
              simp only [wpTg, wpTgs, wipeD, List.map_cons, List.map_nil, List.set_cons_succ, List.set_cons_zero, wpT, DL.wpE, List.getElem?_cons_zero, List.getElem?_cons_succ, cmpS, vIsK, encStep, DL.isNon, Bool.false_eq_true, if_false, vTru, if_true]
              exact h1
            | some s' =>
              have hz := zip_look (fit_len kvs i r) (chL_mem ho)
              obtain ⟨v, hv⟩ := Option.isSome_iff_exists.mp hz
              have hv' : dlook (zipR kvs i r) (.int (k : Nat)) = some v := hv
              have hkey : keyOk (zipR kvs i r) (.int (k : Nat)) = true := by
                unfold keyOk
                rw [zleaf]
                rfl
              simp only [stepD, encStep, hv', Option.getD_some] at h1
              simp only [wpTg, wpTgs, wipeD, List.map_cons, List.map_nil, List.set_cons_succ, List.set_cons_zero, wpT, DL.wpE, DL.wpA, List.getElem?_cons_zero, List.getElem?_cons_succ, cmpS, vIsK, encStep, DL.isNon, Bool.false_eq_true, if_false, vTru, vGet, isDct, mup_same, if_true, vDIdx, hkey, hv', true_and]
              exact h1
          · simp only [wpTg, List.set_cons_succ, List.set_cons_zero]
            refine wp_last ?_
            have n87 := (mup_none hp8).1
            have hp8' := (mup_none hp8).2
            have nr8 : rp ≠ p8 := fun z => by rw [← z, hMr] at hp8'; cases hp8'
            have hkey : keyOk (zipR kvs i r) .non = true := by
              unfold keyOk
              rw [zleaf]
              rfl
            simp only [DL.wpS, DL.wpE, DL.wpA, List.getElem?_cons_zero, List.getElem?_cons_succ, recv, rdL, mup_ne nr8, mup_ne nr7, hMr, isDct, mup_ne (Ne.symm n87), mup_same, vDGet, hkey, biS, rdS, bmS, BM.ty, true_and, Option.isSome_some]
            refine ⟨?_, ?_⟩
            · rw [List.length_take]
              have := hS.r30
              exact Nat.lt_of_le_of_lt (Nat.le_trans (Nat.min_le_left _ _) (Nat.le_trans hi this)) (by decide)
            · refine ⟨mup (mup M q (.dct kvs)) rp (.lst ((fitRows kvs 0 rs).take (i + 1))), ?_, _, _, _, _, _, _, _, _, _, rfl, rfl, hil⟩
              have hfr := fitRows_get kvs rs 0 i r hx
              rw [Nat.zero_add] at hfr
              rw [take_snoc hfr]
              refine sub_mup2 fun a u har e => ?_
              have e2 : Mi a = some u := by rw [← hMi, mup_ne har]; exact e
              have a7 : a ≠ p7 := fun z => by rw [z, hp7] at e2; cases e2
              have a8 : a ≠ p8 := fun z => by rw [z, hp8'] at e2; cases e2
              rw [mup_ne a8, mup_ne a7]
              exact e2
  · exact h.elim
end H41
set_option Elab.async false
set_option linter.all false
set_option maxRecDepth 100000
set_option maxHeartbeats 1000000
namespace H41
open PySem PySem.Spec PyProof.Rows L2 DL
/-! ### the pot -/
structure Hd where
  idx : Int
  big : Int
  seed : Int
  cnt : Int
structure HdOk (h : Hd) : Prop where
  i0 : 0 ≤ h.idx
  b0 : 0 ≤ h.big
  s0 : 0 ≤ h.seed
  s1 : h.seed < 4294967296
  c0 : 0 ≤ h.cnt
def handL (cl : Addr) (h : Hd) : List D := [.obj cl, .int h.idx, .int h.big, .int h.seed, .int h.cnt]
structure HandAt (M : Mem) (p cl : Addr) (cells : List Int) (h : Hd) : Prop where
  at_ : M p = some (.lst (handL cl h))
  cl_ : rdL M cl = some (cells.map .int)
  ne : cl ≠ p
  pos : ∀ c ∈ cells, 0 ≤ c
  ok : HdOk h
/-- a pot that has been asked at most so often -/
def Hand (M : Mem) (p cl : Addr) (f : Nat) : Prop := ∃ cells h, HandAt M p cl cells h ∧ h.cnt ≤ f
/-- the same but at p -/
def Upd (p : Addr) (M N : Mem) : Prop := ∀ a, a ≠ p → N a = M a
theorem mup_self {M : Mem} {p : Addr} {o : MO} (h : M p = some o) : mup M p o = M := by
  funext a
  unfold mup
  split
  · rename_i e; rw [e, h]
  · rfl
theorem isDct_hand {M : Mem} {p cl : Addr} {h : Hd} : isDct (mup M p (.lst (handL cl h))) (.obj p) = false := by
  unfold isDct; simp only [mup_same]
section
variable {M : Mem} {p cl : Addr} {h : Hd} {Q : DK} {R : Mem → Prop} {v : Int}
abbrev HM (M : Mem) (p cl : Addr) (h : Hd) : Mem := mup M p (.lst (handL cl h))
theorem get0 : vGet (.obj p) (.int 0) (HM M p cl h) = fun Q => Q (.obj cl) (HM M p cl h) := by funext Q; exact vGet_lst (k := 0) rdL_new rfl
theorem get1 : vGet (.obj p) (.int 1) (HM M p cl h) = fun Q => Q (.int h.idx) (HM M p cl h) := by funext Q; exact vGet_lst (k := 1) rdL_new rfl
theorem get2 : vGet (.obj p) (.int 2) (HM M p cl h) = fun Q => Q (.int h.big) (HM M p cl h) := by funext Q; exact vGet_lst (k := 2) rdL_new rfl
theorem get3 : vGet (.obj p) (.int 3) (HM M p cl h) = fun Q => Q (.int h.seed) (HM M p cl h) := by funext Q; exact vGet_lst (k := 3) rdL_new rfl
theorem get4 : vGet (.obj p) (.int 4) (HM M p cl h) = fun Q => Q (.int h.cnt) (HM M p cl h) := by funext Q; exact vGet_lst (k := 4) rdL_new rfl
theorem set_at {k : Int} {j : Nat} {h' : Hd} (e : ixN 5 k = some j) (e2 : (handL cl h).set j (.int v) = handL cl h') : vSetG (.obj p) (.int k) (.int v) (HM M p cl h) = fun R => R (HM M p cl h') := by
  funext R
  unfold vSetG
  rw [isDct_hand]
  simp only [Bool.false_eq_true, if_false, vSetI, mup_same]
  have : (handL cl h).length = 5 := rfl
  rw [this, e]
  simp only [e2, mup_mup]
theorem set1 : vSetG (.obj p) (.int 1) (.int v) (HM M p cl h) = fun R => R (HM M p cl { h with idx := v }) := set_at (j := 1) (by decide +kernel) rfl
theorem set2 : vSetG (.obj p) (.int 2) (.int v) (HM M p cl h) = fun R => R (HM M p cl { h with big := v }) := set_at (j := 2) (by decide +kernel) rfl
theorem set3 : vSetG (.obj p) (.int 3) (.int v) (HM M p cl h) = fun R => R (HM M p cl { h with seed := v }) := set_at (j := 3) (by decide +kernel) rfl
theorem set4 : vSetG (.obj p) (.int 4) (.int v) (HM M p cl h) = fun R => R (HM M p cl { h with cnt := v }) := set_at (j := 4) (by decide +kernel) rfl
end
theorem mulE {M : Mem} {i j : Int} (h : i.natAbs < 2 ^ 100) (h' : j.natAbs < 2 ^ 100) : binS .Mult (.int i) (.int j) M = fun Q => Q (.int (i * j)) M := by
  funext Q; exact vMul_ok h h'
theorem modE {M : Mem} {i j : Int} (h : 0 < j) : binS .Mod (.int i) (.int j) M = fun Q => Q (.int (i % j)) M := by
  funext Q; simp [binS, vMod, vI, h]
theorem divE {M : Mem} {i j : Int} (h : 0 < j) (h' : j < 2 ^ 60) : binS .FloorDiv (.int i) (.int j) M = fun Q => Q (.int (i / j)) M := by
  funext Q
  have : j.natAbs.log2 < 9000 := by
    have : j.natAbs < 2 ^ 60 := by omega
    have := Nat.log2_lt (n := j.natAbs) (k := 60) (by omega)
    omega
  simp [binS, vDiv, vI, h, this]
theorem addE {M : Mem} {i j : Int} : binS .Add (.int i) (.int j) M = fun Q => Q (.int (i + j)) M := by funext Q; rfl
theorem subE {M : Mem} {i j : Int} : binS .Sub (.int i) (.int j) M = fun Q => Q (.int (i - j)) M := by funext Q; exact binS_sub
theorem powE {M : Mem} : binS .Pow (.int 10) (.int 18) M = fun Q => Q (.int 1000000000000000000) M := by
  funext Q
  have : (10 : Int) ^ (18 : Int).toNat = 1000000000000000000 := by decide
  simp [binS, vPow, vI]
theorem intE {M : Mem} {i : Int} : biS .int [.int i] M = fun Q => Q (.int i) M := by funext Q; rfl
theorem wp_at {cs : Pk} {W : WD} {xo : XO} {s : MS} {D0 : EndsD} {ρ : En} {M N : Mem} (e : N = M) (h : DL.wpS cs W xo s D0 ρ N) : DL.wpS cs W xo s D0 ρ M := e ▸ h
def sp_draw : SpD := fun ds M Q _ => match ds with
  | [.obj p, .int many] => ∃ (cl : Addr) (f : Nat), Hand M p cl f ∧ f < 2 ^ 60 ∧ 0 < many ∧ many < 2 ^ 60 ∧ ∀ N r, Upd p M N → Hand N p cl (f + 1) → 0 ≤ r → r < many → Q (.int r) N
  | _ => False
theorem h__law_draw : ∀ ds M Q0 E0, sp_draw ds M Q0 E0 → ds.length = 2 ∧ wpSs ⟨[], sub, fdOf cf⟩ (wF E0) none m__law_draw (endsF Q0) (startD N__law_draw.length ds) M := by
  intro ds M Q0 E0 hh
  unfold sp_draw at hh
  split at hh
  · rename_i p many
    obtain ⟨cl, f, ⟨cells, h, hA, hf⟩, hf60, hm0, hm60, hq⟩ := hh
    refine ⟨rfl, ?_⟩
    unfold m__law_draw
    have eM : HM M p cl h = M := mup_self hA.at_
    have hcl : ∀ o, rdL (mup M p o) cl = some (cells.map .int) := fun o => by
      have := hA.cl_
      unfold rdL at this ⊢
      rw [mup_ne hA.ne]; exact this
    -- every end of it
    have fin : ∀ h' : Hd, HdOk h' → h'.cnt ≤ h.cnt + 1 → ∀ r, 0 ≤ r → r < many → (endsF Q0).rt (.int r) (HM M p cl h') := fun h' ok' hc r r0 r1 => by
      refine rt_of (hq (HM M p cl h') r (fun a ha => mup_ne ha) ⟨cells, h', ⟨mup_same, hcl _, hA.ne, hA.pos, ok'⟩, by omega⟩ r0 r1) Sub.rfl'
    refine wp_cut (fun ρ' M' => ∃ h' x2, ρ' = [some (.obj p), some (.int many), x2, none, none] ∧ M' = HM M p cl h' ∧ HdOk h' ∧ h'.cnt = h.cnt) ?_ ?_
    · show DL.wpS _ _ _ _ _ [some (.obj p), some (.int many), none, none, none] M
      refine wp_at eM ?_
      have nxt0 : ∃ h' x2, [some (D.obj p), some (D.int many), none, none, none] = [some (D.obj p), some (D.int many), x2, none, none] ∧ HM M p cl h = HM M p cl h' ∧ HdOk h' ∧ h'.cnt = h.cnt := ⟨h, none, rfl, rfl, hA.ok, rfl⟩
      simp only [DL.wpS, wpT, wpTs, DL.wpE, DL.wpA, List.getElem?_cons_zero, List.getElem?_cons_succ, get2, cmpS, vEqK, vTru]
      by_cases hb : h.big = 0
      · simp only [hb, decide_true, Bool.false_eq_true, if_false, if_true, get1, get0, biS, rdS, hcl, vLt, vOrd, vTru, List.length_map]
        by_cases hi : h.idx < (cells.length : Int)
        · have hi0 := hA.ok.i0
          have hget : cells[h.idx.toNat]? = some cells[h.idx.toNat] := List.getElem?_eq_getElem (by omega)
          have hc0 := hA.pos _ (List.mem_of_getElem? hget)
          generalize cells[h.idx.toNat] = cell at hget hc0
          have gcl : ∀ o, vGet (.obj cl) (.int h.idx) (mup M p o) = fun Q => Q (.int cell) (mup M p o) := fun o => by
            funext Q
            have := vGet_lst (M := mup M p o) (Q := Q) (k := h.idx.toNat) (d := .int cell) (hcl o) (by rw [List.getElem?_map, hget]; rfl)
            rw [show ((h.idx.toNat : Nat) : Int) = h.idx by omega] at this
            exact this
          simp only [hi, decide_true, if_true]
          refine wp_cons ?_
          simp only [DL.wpS, DL.wpE, List.getElem?_cons_zero, List.getElem?_cons_succ, get0, get1, gcl, wpTg, List.set_cons_succ, List.set_cons_zero]
          refine wp_cons ?_
          simp only [DL.wpS, DL.wpE, List.getElem?_cons_zero, List.getElem?_cons_succ, get1, addE, set1]
          refine wp_cons ?_
          have hs0 := hA.ok.s0
          have hs1 := hA.ok.s1
          simp only [DL.wpS, DL.wpE, DL.wpA, List.getElem?_cons_zero, List.getElem?_cons_succ, get3, addE]
          rw [mulE (by omega) (by decide)]
          simp only [addE, intE, modE (show (0 : Int) < 2147483629 by decide), set3]
          have a1 := Int.emod_nonneg (h.seed * 69621 + cell + 11) (show (2147483629 : Int) ≠ 0 by decide)
          have a2 := Int.emod_lt_of_pos (h.seed * 69621 + cell + 11) (show (0 : Int) < 2147483629 by decide)
          generalize (h.seed * 69621 + cell + 11) % 2147483629 = sd at a1 a2 ⊢
          refine wp_last ?_
          simp only [DL.wpS, wpT, DL.wpE, List.getElem?_cons_zero, List.getElem?_cons_succ, powE, cmpS, vGe, vOrd, vTru]
          have ok1 : HdOk { idx := h.idx + 1, big := h.big, seed := sd, cnt := h.cnt } := ⟨by show 0 ≤ h.idx + 1; omega, hA.ok.b0, a1, by show sd < 4294967296; omega, hA.ok.c0⟩
          by_cases hbig : (1000000000000000000 : Int) ≤ cell
          · simp only [hbig, decide_true, if_true]
            refine wp_last ?_
            simp only [DL.wpS, DL.wpE, List.getElem?_cons_zero, List.getElem?_cons_succ, set2]
            exact ⟨{ idx := h.idx + 1, big := cell, seed := sd, cnt := h.cnt }, _, rfl, rfl, ⟨ok1.i0, hc0, ok1.s0, ok1.s1, ok1.c0⟩, rfl⟩
          · simp only [hbig, decide_false, Bool.false_eq_true, if_false]
            exact wp_nil ⟨_, _, rfl, rfl, ok1, rfl⟩
        · simp only [hi, decide_false, Bool.false_eq_true, if_false]
          exact wp_nil nxt0
      · simp only [hb, decide_false, Bool.false_eq_true, if_false, Bool.not_true]
        exact wp_nil nxt0
    · rintro ρ' M' ⟨h', x2, rfl, rfl, ok', hc⟩
      refine ⟨_, Sub.rfl', wp_cons ?_⟩
      simp only [DL.wpS, wpT, DL.wpE, List.getElem?_cons_zero, List.getElem?_cons_succ, get2, cmpS, vGt, vOrd, vTru]
      by_cases hb : (0 : Int) < h'.big
      · simp only [hb, decide_true, if_true]
        refine wp_cons ?_
        simp only [DL.wpS, DL.wpE, DL.wpA, List.getElem?_cons_zero, List.getElem?_cons_succ, get2, intE, modE hm0, wpTg, List.set_cons_succ, List.set_cons_zero]
        refine wp_cons ?_
        simp only [DL.wpS, DL.wpE, List.getElem?_cons_zero, List.getElem?_cons_succ, get2, divE hm0 hm60, set2]
        refine wp_last ?_
        simp only [DL.wpS, DL.wpE, List.getElem?_cons_zero, List.getElem?_cons_succ]
        exact fin { h' with big := h'.big / many } ⟨ok'.i0, Int.ediv_nonneg ok'.b0 (by omega), ok'.s0, ok'.s1, ok'.c0⟩ (by show h'.cnt ≤ h.cnt + 1; omega) _ (Int.emod_nonneg _ (by omega)) (Int.emod_lt_of_pos _ hm0)
      · simp only [hb, decide_false, Bool.false_eq_true, if_false]
        refine wp_nil ?_
        refine wp_cons ?_
        simp only [DL.wpS, DL.wpE, List.getElem?_cons_zero, List.getElem?_cons_succ, get4, addE, set4]
        have hs0 := ok'.s0
        have hs1 := ok'.s1
        have hc0 := ok'.c0
        refine wp_cons ?_
        simp only [DL.wpS, DL.wpE, DL.wpA, List.getElem?_cons_zero, List.getElem?_cons_succ, get3, get4]
        rw [mulE (by decide) (by omega)]
        simp only [addE, intE]
        rw [mulE (by omega) (by decide)]
        simp only [intE, modE (show (0 : Int) < 2147483647 by decide), wpTg, List.set_cons_succ, List.set_cons_zero]
        have a1 := Int.emod_nonneg ((h'.seed + 7919 * (h'.cnt + 1)) * 48271) (show (2147483647 : Int) ≠ 0 by decide)
        have a2 := Int.emod_lt_of_pos ((h'.seed + 7919 * (h'.cnt + 1)) * 48271) (show (0 : Int) < 2147483647 by decide)
        generalize ((h'.seed + 7919 * (h'.cnt + 1)) * 48271) % 2147483647 = n1 at a1 a2 ⊢
        refine wp_cons ?_
        simp only [DL.wpS, DL.wpE, DL.wpA, List.getElem?_cons_zero, List.getElem?_cons_succ, divE (show (0 : Int) < 1009 by decide) (by decide), addE]
        rw [mulE (by omega) (by omega)]
        simp only [intE, modE (show (0 : Int) < 2147483647 by decide), wpTg, List.set_cons_succ, List.set_cons_zero]
        have b1 := Int.emod_nonneg (n1 * (n1 / 1009 + 69621)) (show (2147483647 : Int) ≠ 0 by decide)
        have b2 := Int.emod_lt_of_pos (n1 * (n1 / 1009 + 69621)) (show (0 : Int) < 2147483647 by decide)
        generalize (n1 * (n1 / 1009 + 69621)) % 2147483647 = n2 at b1 b2 ⊢
        refine wp_cons ?_
        simp only [DL.wpS, DL.wpE, DL.wpA, List.getElem?_cons_zero, List.getElem?_cons_succ, divE (show (0 : Int) < 2003 by decide) (by decide), addE]
        rw [mulE (by omega) (by omega)]
        simp only [intE, modE (show (0 : Int) < 2147483399 by decide), wpTg, List.set_cons_succ, List.set_cons_zero]
        generalize (n2 * (n2 / 2003 + 40692)) % 2147483399 = n3
        refine wp_last ?_
        simp only [DL.wpS, DL.wpE, DL.wpA, List.getElem?_cons_zero, List.getElem?_cons_succ, divE (show (0 : Int) < 16 by decide) (by decide), intE, modE hm0]
        exact fin { h' with cnt := h'.cnt + 1 } ⟨ok'.i0, ok'.b0, ok'.s0, ok'.s1, by show 0 ≤ h'.cnt + 1; omega⟩ (by show h'.cnt + 1 ≤ h.cnt + 1; omega) _ (Int.emod_nonneg _ (by omega)) (Int.emod_lt_of_pos _ hm0)
  · exact hh.elim
end H41
set_option Elab.async false
set_option linter.all false
set_option maxRecDepth 100000
set_option maxHeartbeats 1000000
namespace H41
open PySem PySem.Spec PyProof.Rows L2 DL
def iabs (i : Int) : Int := if i < 0 then -i else i
def sp_pot : SpD := fun ds M Q _ => match ds with
  | [.obj a] => ∃ ns : List Int, rdL M a = some (ns.map .int) ∧ ns.length ≤ 63 ∧ ∀ N p cl, Sub M N → M p = none → M cl = none → Hand N p cl 0 → Q (.obj p) N
  | _ => False
theorem h__law_pot : ∀ ds M Q0 E0, sp_pot ds M Q0 E0 → ds.length = 1 ∧ wpSs ⟨[], sub, fdOf cf⟩ (wF E0) none m__law_pot (endsF Q0) (startD N__law_pot.length ds) M := by
  intro ds M Q0 E0 hh
  unfold sp_pot at hh
  split at hh
  · rename_i a
    obtain ⟨ns, ha, hl, hq⟩ := hh
    refine ⟨rfl, ?_⟩
    unfold m__law_pot
    refine wp_cons ?_
    show DL.wpS _ _ _ _ _ [some (.obj a), none, none] M
    have ecut : cut (ns.map D.int) none (some 63) = ns.map D.int := by
      unfold cut
      rw [HT.sIx_none, show (63 : Int) = ((63 : Nat) : Int) from rfl, HT.sIx_nat, List.drop_zero, Nat.sub_zero]
      exact List.take_of_length_le (by rw [List.length_map]; omega)
    simp only [DL.wpS, DL.wpE, DL.wpA, DL.wpI, optI, List.getElem?_cons_zero, List.getElem?_cons_succ, vSlc, ha, ecut]
    intro p1 hp1
    simp only [itsOf, rdL_new]
    refine lc_map (fun x => match x with | .int i => .int (iabs i) | _ => .non) rdL_new _ _ (by rw [List.length_map]; exact Nat.le_trans hl (by decide)) (fun x hx K1 h1 => ?_) fun p2 hp2 => ?_
    · obtain ⟨i, _, rfl⟩ := List.mem_map.mp hx
      simp only [wpTg, wipeD, List.map_cons, List.map_nil, List.set_cons_succ, List.set_cons_zero, DL.wpE, DL.wpA, List.getElem?_cons_zero, List.getElem?_cons_succ, intE]
      exact h1
    · simp only [wpTg, List.set_cons_succ, List.set_cons_zero]
      refine wp_last ?_
      simp only [DL.wpS, DL.wpE, DL.wpA, List.getElem?_cons_zero, List.getElem?_cons_succ, biS, rdS, rdL_new, addE]
      intro p3 hp3
      obtain ⟨n32, hp3'⟩ := mup_none hp3
      obtain ⟨n21, hp2'⟩ := mup_none hp2
      have ecells : (ns.map D.int).map (fun x => match x with | .int i => .int (iabs i) | _ => .non) = (ns.map iabs).map D.int := by
        rw [List.map_map, List.map_map]; rfl
      refine rt_of (hq _ p3 p2 (((Sub.new hp1).trans (Sub.new hp2)).trans (Sub.new hp3)) (mup_none hp3').2 hp2' ⟨ns.map iabs, ⟨0, 0, 1 + (ns.length : Int), 0⟩, ⟨?_, ?_, Ne.symm n32, fun c hc => ?_, ?_⟩, ?_⟩) Sub.rfl'
      · rw [mup_same]
        simp [handL]
      · unfold rdL
        rw [mup_ne (Ne.symm n32), mup_same, ecells]
      · obtain ⟨i, _, rfl⟩ := List.mem_map.mp hc
        unfold iabs
        split <;> omega
      · exact ⟨Int.le_refl 0, Int.le_refl 0, by show (0 : Int) ≤ 1 + ns.length; omega, by show (1 : Int) + ns.length < 4294967296; omega, Int.le_refl 0⟩
      · exact Int.le_refl 0
  · exact hh.elim
def sp_any : SpD := fun ds M Q _ => match ds with
  | [.obj p, d] => ∃ (cl : Addr) (f : Nat) (xs : List D), Hand M p cl f ∧ f < 2 ^ 60 ∧ (d = .tup xs ∨ ∃ a, d = .obj a ∧ a ≠ p ∧ rdL M a = some xs) ∧ xs ≠ [] ∧ xs.length < 1000000 ∧ ∀ N x, Upd p M N → Hand N p cl (f + 1) → x ∈ xs → Q x N
  | _ => False
theorem h__law_any (k : Nat) : ∀ ds M Q0 E0, sp_any ds M Q0 E0 → ds.length = 2 ∧ wpSs ⟨[C__law_draw k sp_draw], sub, fdOf cf⟩ (wF E0) none m__law_any (endsF Q0) (startD N__law_any.length ds) M := by
  intro ds M Q0 E0 hh
  unfold sp_any at hh
  split at hh
  · rename_i p d
    obtain ⟨cl, f, xs, hH, hf, hd, hne, hlen, hq⟩ := hh
    refine ⟨rfl, ?_⟩
    unfold m__law_any
    refine wp_last ?_
    show DL.wpS _ _ _ _ _ [some (.obj p), some d] M
    have hpos : 0 < xs.length := List.length_pos_iff.mpr hne
    have hrd : rdS M d = some xs := by
      rcases hd with rfl | ⟨a, rfl, _, h⟩
      · rfl
      · exact h
    have elen : ∀ Q, biS .len [d] M Q = Q (.int xs.length) M := fun Q => by
      rcases hd with rfl | ⟨a, rfl, _, h⟩
      · rfl
      · simp only [biS, rdS, h]
    simp only [DL.wpS, DL.wpE, DL.wpA, List.getElem?_cons_zero, List.getElem?_cons_succ, elen]
    refine ⟨cl, f, hH, hf, by omega, by omega, fun N r hU hN r0 r1 => ?_⟩
    have hr : xs[r.toNat]? = some xs[r.toNat] := List.getElem?_eq_getElem (by omega)
    have hg : vGet d (.int r) N (endsF Q0).rt = (endsF Q0).rt xs[r.toNat] N := by
      rcases hd with rfl | ⟨a, rfl, hap, h⟩
      · have := vGet_tup (M := N) (Q := (endsF Q0).rt) hr
        rw [show ((r.toNat : Nat) : Int) = r by omega] at this
        exact this
      · have h' : rdL N a = some xs := by unfold rdL at h ⊢; rw [hU a hap]; exact h
        have := vGet_lst (M := N) (Q := (endsF Q0).rt) h' hr
        rw [show ((r.toNat : Nat) : Int) = r by omega] at this
        exact this
    show vGet d (.int r) N (endsF Q0).rt
    rw [hg]
    exact rt_of (hq N _ hU hN (List.mem_of_getElem? hr)) Sub.rfl'
  · exact hh.elim
end H41
set_option Elab.async false
set_option linter.all false
set_option maxRecDepth 100000
set_option maxHeartbeats 1000000
namespace H41
open PySem PySem.Spec PyProof.Rows L2 DL
def stepS (rs : List Row) : Option Nat → Nat → Option Nat
  | none, _ => none
  | some st, l => match rs[st]? with
    | some r => (r.2[l]?).join
    | none => none
def endS (rs : List Row) (o : Option Nat) (ls : List Nat) : Option Nat := ls.foldl (stepS rs) o
def flagS (rs : List Row) : Option Nat → Bool
  | none => false
  | some st => match rs[st]? with | some r => r.1 | none => false
theorem endS_none (rs : List Row) : ∀ ls, endS rs none ls = none
  | [] => rfl
  | l :: ls => endS_none rs ls
theorem way_end (rs : List Row) : ∀ (ls : List Nat) (st : Nat), (way rs st ls).isSome = flagS rs (endS rs (some st) ls)
  | [], st => by
    show _ = flagS rs (some st)
    simp only [way, flagS]
    cases rs[st]? with
    | none => rfl
    | some r => cases h : r.1 <;> simp [h]
  | l :: ls, st => by
    show _ = flagS rs (endS rs (stepS rs (some st) l) ls)
    simp only [way, stepS]
    cases rs[st]? with
    | none => simp only [endS_none]; rfl
    | some r =>
      simp only []
      cases e : r.2[l]? with
      | none => simp only [Option.join_none, endS_none]; rfl
      | some o =>
        cases o with
        | none => simp only [Option.join_some, endS_none]; rfl
        | some s => simp only [Option.join_some, Option.isSome_map]; exact way_end rs ls s
end H41
set_option Elab.async false
set_option linter.all false
set_option maxRecDepth 100000
set_option maxHeartbeats 1000000
namespace H41
open PySem PySem.Spec PyProof.Rows L2 DL
theorem Hand.mono {M : Mem} {p cl : Addr} {f g : Nat} (h : Hand M p cl f) (l : f ≤ g) : Hand M p cl g := by
  obtain ⟨cells, h', a, b⟩ := h
  exact ⟨cells, h', a, by omega⟩
theorem Hand.ne {M : Mem} {p cl : Addr} {f : Nat} (h : Hand M p cl f) : M p ≠ none := by
  obtain ⟨cells, h', a, b⟩ := h
  rw [a.at_]; exact fun z => nomatch z
theorem Hand.fresh {M : Mem} {p cl q : Addr} {f : Nat} (h : Hand M p cl f) (e : M q = none) : q ≠ p := fun z => h.ne (z ▸ e)
theorem Hand.kn {M : Mem} {p cl : Addr} {f : Nat} (h : Hand M p cl f) : DL.kn M (.obj p) = true := by
  obtain ⟨cells, h', a, b⟩ := h
  show (match M p with | some (.lst _) => some "list" | some (.ro _) => some "list" | some (.dct _) => some "dict" | _ => (none : Option String)).isSome = true
  rw [a.at_]; rfl
theorem Hand.up {M N : Mem} {p cl : Addr} {f : Nat} (h : Hand M p cl f) (e : N p = M p) (s : ∀ xs, rdL M cl = some xs → rdL N cl = some xs) : Hand N p cl f := by
  obtain ⟨cells, h', a, b⟩ := h
  exact ⟨cells, h', ⟨by rw [e]; exact a.at_, s _ a.cl_, a.ne, a.pos, a.ok⟩, b⟩
theorem Hand.new {M : Mem} {p cl q : Addr} {f : Nat} {o : MO} (h : Hand M p cl f) (e : M q = none) : Hand (mup M q o) p cl f := by
  refine h.up (mup_ne (Ne.symm (h.fresh e))) fun xs hx => ?_
  rw [rdL_up (Upd_none hx e)]; exact hx
/-- what stands beside the pot and its cells may change -/
theorem Hand.put {M : Mem} {p cl q : Addr} {f : Nat} {o : MO} (h : Hand M p cl f) (e : q ≠ p) (e2 : q ≠ cl) : Hand (mup M q o) p cl f := by
  refine h.up (mup_ne (Ne.symm e)) fun xs hx => ?_
  rw [rdL_up (Ne.symm e2)]; exact hx
theorem Hand.cell {M : Mem} {p cl : Addr} {f : Nat} (h : Hand M p cl f) : ∃ xs, rdL M cl = some xs ∧ cl ≠ p := by
  obtain ⟨cells, h', a, b⟩ := h
  exact ⟨_, a.cl_, a.ne⟩
theorem Upd.upx {p : Addr} {M N : Mem} (h : Upd p M N) : UpX p M N := fun a o ne e => by rw [h a ne]; exact e
theorem Upd.get {p q : Addr} {M N : Mem} {o : MO} (h : Upd p M N) (ne : q ≠ p) (e : M q = some o) : N q = some o := by rw [h q ne]; exact e
def sp_shape : SpD := fun ds M Q _ => match ds with
  | [.obj p, .obj a1, .obj a2] => ∃ (cl : Addr) (f : Nat) (ss ms : List Nat), Hand M p cl f ∧ f < 2 ^ 59 ∧ a1 ≠ p ∧ a2 ≠ p ∧ rdL M a1 = some (ss.map fun k : Nat => D.int (k : Nat)) ∧ (∀ s ∈ ss, 1 ≤ s ∧ s ≤ 8) ∧ ss ≠ [] ∧ ss.length < 1000 ∧
      rdL M a2 = some (ms.map fun k : Nat => D.int (k : Nat)) ∧ (∀ s ∈ ms, 1 ≤ s ∧ s ≤ 30) ∧ ms ≠ [] ∧ ms.length < 1000 ∧ ∀ N n rs, UpX p M N → Hand N p cl (f + 600) → ShOk n rs → n ∈ ss → Q (encShape n rs) N
  | _ => False
theorem h__law_shape (k k2 : Nat) : ∀ ds M Q0 E0, sp_shape ds M Q0 E0 → ds.length = 3 ∧ wpSs ⟨[C__law_any k sp_any, C__law_draw k2 sp_draw], sub, fdOf cf⟩ (wF E0) none m__law_shape (endsF Q0) (startD N__law_shape.length ds) M := by
  intro ds M Q0 E0 hh
  unfold sp_shape at hh
  split at hh
  · rename_i p a1 a2
    obtain ⟨cl, f, ss, ms, hH, hf, n1, n2, r1, b1, ne1, l1, r2, b2, ne2, l2, hq⟩ := hh
    refine ⟨rfl, ?_⟩
    unfold m__law_shape
    refine wp_cons ?_
    show DL.wpS _ _ _ _ _ [some (.obj p), some (.obj a1), some (.obj a2), none, none, none, none, none, none] M
    (try simp only [DL.wpS, DL.wpE, DL.wpA, wpT, wpTs, wpBo, DL.wpI, wpIf, wpTg, wpTgs, optI, List.getElem?_cons_zero, List.getElem?_cons_succ, List.set_cons_succ, List.set_cons_zero, vTru, cmpS, vIsK, vLt, vLe, vGt, vGe, vOrd, DL.isNon, addE, subE, biS, rdS, rdL_new, Bool.not_true, Bool.not_false, if_true, if_false, Bool.false_eq_true, Bool.true_eq_false, reduceIte, true_and, and_true, decide_true, decide_false, vGet_0, vGet_1, slcT, addT])
    refine ⟨cl, f, _, hH, by omega, .inr ⟨a1, rfl, n1, r1⟩, by simpa using ne1, by rw [List.length_map]; omega, fun N1 x U1 H1 m1 => ?_⟩
    obtain ⟨n, hn, rfl⟩ := List.mem_map.mp m1
    refine ⟨cl, f + 1, _, H1, by omega, .inr ⟨a2, rfl, n2, U1.upx.rdL n2 r2⟩, by simpa using ne2, by rw [List.length_map]; omega, fun N2 y U2 H2 m2 => ?_⟩
    obtain ⟨m, hm, rfl⟩ := List.mem_map.mp m2
    have U := U1.upx.trans U2.upx
    have bn := b1 n hn
    have bm := b2 m hm
    refine wp_cons ?_
    (try simp only [DL.wpS, DL.wpE, DL.wpA, wpT, wpTs, wpBo, DL.wpI, wpIf, wpTg, wpTgs, optI, List.getElem?_cons_zero, List.getElem?_cons_succ, List.set_cons_succ, List.set_cons_zero, vTru, cmpS, vIsK, vLt, vLe, vGt, vGe, vOrd, DL.isNon, addE, subE, biS, rdS, rdL_new, Bool.not_true, Bool.not_false, if_true, if_false, Bool.false_eq_true, Bool.true_eq_false, reduceIte, true_and, and_true, decide_true, decide_false, vGet_0, vGet_1, slcT, addT])
    intro q hq2
    have hqp := H2.fresh hq2
    have hqM : M q = none := U.none H2.ne hq2
    refine wp_cons ?_
    (try simp only [DL.wpS, DL.wpE, DL.wpA, wpT, wpTs, wpBo, DL.wpI, wpIf, wpTg, wpTgs, optI, List.getElem?_cons_zero, List.getElem?_cons_succ, List.set_cons_succ, List.set_cons_zero, vTru, cmpS, vIsK, vLt, vLe, vGt, vGe, vOrd, DL.isNon, addE, subE, biS, rdS, rdL_new, Bool.not_true, Bool.not_false, if_true, if_false, Bool.false_eq_true, Bool.true_eq_false, reduceIte, true_and, and_true, decide_true, decide_false, vGet_0, vGet_1, slcT, addT, rngOf])
    refine ⟨by omega, by omega, ?_⟩
    refine ⟨fun i ρ M' => ∃ (x6 x7 : Option D) (rs : List Row), ρ = [some (.obj p), some (.obj a1), some (.obj a2), some (.int (n : Nat)), some (.int (m : Nat)), some (.obj q), x6, x7, none] ∧ UpX p M M' ∧ Hand M' p cl (f + 2 + 17 * i) ∧ M' q = some (.lst (rs.map encRow)) ∧ rs.length = i ∧ (∀ r ∈ rs, r.2.length = n) ∧ (∀ r ∈ rs, ∀ k, some k ∈ r.2 → k < m) ∧ i ≤ m,
      ⟨none, none, [], rfl, U.new hq2, H2.new hq2, mup_same, rfl, by simp, by simp, Nat.zero_le _⟩, ?_⟩
    rintro i ρ M' ⟨x6, x7, rs, rfl, UM, HM, Mq, hl, w1, w2, him⟩
    simp only [range_get_z]
    by_cases hi : (i : Int) < (m : Int)
    · simp only [hi, if_true]
      (try simp only [DL.wpS, DL.wpE, DL.wpA, wpT, wpTs, wpBo, DL.wpI, wpIf, wpTg, wpTgs, optI, List.getElem?_cons_zero, List.getElem?_cons_succ, List.set_cons_succ, List.set_cons_zero, vTru, cmpS, vIsK, vLt, vLe, vGt, vGe, vOrd, DL.isNon, addE, subE, biS, rdS, rdL_new, Bool.not_true, Bool.not_false, if_true, if_false, Bool.false_eq_true, Bool.true_eq_false, reduceIte, true_and, and_true, decide_true, decide_false, vGet_0, vGet_1, slcT, addT])
      refine wp_cons ?_
      (try simp only [DL.wpS, DL.wpE, DL.wpA, wpT, wpTs, wpBo, DL.wpI, wpIf, wpTg, wpTgs, optI, List.getElem?_cons_zero, List.getElem?_cons_succ, List.set_cons_succ, List.set_cons_zero, vTru, cmpS, vIsK, vLt, vLe, vGt, vGe, vOrd, DL.isNon, addE, subE, biS, rdS, rdL_new, Bool.not_true, Bool.not_false, if_true, if_false, Bool.false_eq_true, Bool.true_eq_false, reduceIte, true_and, and_true, decide_true, decide_false, vGet_0, vGet_1, slcT, addT, rngOf])
      refine ⟨by omega, by omega, ?_⟩
      refine lc_inv (fun j acc M2 => ∃ os : List (Option Nat), acc = os.map encStep ∧ os.length = j ∧ (∀ k, some k ∈ os → k < m) ∧ UpX p M M2 ∧ Hand M2 p cl (f + 2 + 17 * i + 2 * j) ∧ M2 q = some (.lst (rs.map encRow)) ∧ j ≤ n) (fun _ _ _ _ => trivial) (fun j d acc M2 Kn hd hP hK => ?_) ⟨[], rfl, rfl, by simp, UM, HM, Mq, Nat.zero_le _⟩ ?_
      · obtain ⟨os, rfl, hj, ho, U2', H2', M2q, hjn⟩ := hP
        rw [range_get_z] at hd
        split at hd
        · rename_i hjn'
          cases hd
          simp only [wipeD, List.map_cons, List.map_nil]
          (try simp only [DL.wpS, DL.wpE, DL.wpA, wpT, wpTs, wpBo, DL.wpI, wpIf, wpTg, wpTgs, optI, List.getElem?_cons_zero, List.getElem?_cons_succ, List.set_cons_succ, List.set_cons_zero, vTru, cmpS, vIsK, vLt, vLe, vGt, vGe, vOrd, DL.isNon, addE, subE, biS, rdS, rdL_new, Bool.not_true, Bool.not_false, if_true, if_false, Bool.false_eq_true, Bool.true_eq_false, reduceIte, true_and, and_true, decide_true, decide_false, vGet_0, vGet_1, slcT, addT])
          refine ⟨cl, _, H2', by omega, by decide, by decide, fun N3 r U3 H3 r0 r1 => ?_⟩
          (try simp only [DL.wpS, DL.wpE, DL.wpA, wpT, wpTs, wpBo, DL.wpI, wpIf, wpTg, wpTgs, optI, List.getElem?_cons_zero, List.getElem?_cons_succ, List.set_cons_succ, List.set_cons_zero, vTru, cmpS, vIsK, vLt, vLe, vGt, vGe, vOrd, DL.isNon, addE, subE, biS, rdS, rdL_new, Bool.not_true, Bool.not_false, if_true, if_false, Bool.false_eq_true, Bool.true_eq_false, reduceIte, true_and, and_true, decide_true, decide_false, vGet_0, vGet_1, slcT, addT, vEqK])
          have U3' := U2'.trans U3.upx
          have N3q := U3.get hqp M2q
          have hb : os.length < big := by rw [hj]; unfold big; omega
          by_cases hr : r = 0
          · simp only [hr, decide_true, if_true]
            refine ⟨by rw [List.length_map]; exact hb, hK _ _ ⟨os ++ [none], by simp [encStep], by simp [hj], fun k hk => ?_, U3', H3.mono (by omega), N3q, by omega⟩⟩
            rcases List.mem_append.mp hk with h | h
            · exact ho k h
            · simp at h
          · simp only [hr, decide_false, Bool.false_eq_true, if_false]
            refine ⟨cl, _, H3, by omega, by omega, by omega, fun N4 r' U4 H4 r0' r1' => ?_⟩
            refine ⟨by rw [List.length_map]; exact hb, hK _ _ ⟨os ++ [some r'.toNat], ?_, by simp [hj], fun k hk => ?_, U3'.trans U4.upx, H4.mono (by omega), U4.get hqp N3q, by omega⟩⟩
            · simp [encStep]; omega
            · rcases List.mem_append.mp hk with h | h
              · exact ho k h
              · simp at h; omega
        · cases hd
      · rintro acc M2 ⟨os, rfl, hj, ho, U2', H2', M2q, hjn⟩ q2 hq2'
        have hj' : os.length = n := by rw [hj]; simp
        have hqq : q ≠ q2 := ne_none M2q hq2'
        replace H2' := H2'.mono (g := f + 2 + 17 * i + 2 * n) (by simp)
        refine wp_last ?_
        (try simp only [DL.wpS, DL.wpE, DL.wpA, wpT, wpTs, wpBo, DL.wpI, wpIf, wpTg, wpTgs, optI, List.getElem?_cons_zero, List.getElem?_cons_succ, List.set_cons_succ, List.set_cons_zero, vTru, cmpS, vIsK, vLt, vLe, vGt, vGe, vOrd, DL.isNon, addE, subE, biS, rdS, rdL_new, Bool.not_true, Bool.not_false, if_true, if_false, Bool.false_eq_true, Bool.true_eq_false, reduceIte, true_and, and_true, decide_true, decide_false, vGet_0, vGet_1, slcT, addT, recv, BM.ty])
        have H3 := H2'.new (o := .lst (os.map encStep)) hq2'
        have M3q : mup M2 q2 (.lst (os.map encStep)) q = some (.lst (rs.map encRow)) := by rw [mup_ne hqq]; exact M2q
        refine ⟨by rw [rdL_of M3q]; rfl, cl, _, H3, by omega, by decide, by decide, fun N5 r U5 H5 r0 r1 => ?_⟩
        have hq2p : q2 ≠ p := H2'.fresh hq2'
        have N5q2 : rdL N5 q2 = some (os.map encStep) := rdL_of (U5.get hq2p mup_same)
        have N5q := U5.get hqp M3q
        (try simp only [DL.wpS, DL.wpE, DL.wpA, wpT, wpTs, wpBo, DL.wpI, wpIf, wpTg, wpTgs, optI, List.getElem?_cons_zero, List.getElem?_cons_succ, List.set_cons_succ, List.set_cons_zero, vTru, cmpS, vIsK, vLt, vLe, vGt, vGe, vOrd, DL.isNon, addE, subE, biS, rdS, rdL_new, Bool.not_true, Bool.not_false, if_true, if_false, Bool.false_eq_true, Bool.true_eq_false, reduceIte, true_and, and_true, decide_true, decide_false, vGet_0, vGet_1, slcT, addT, N5q2, bmS, N5q])
        have U5' : UpX p M N5 := (U2'.new hq2').trans U5.upx
        refine ⟨by rw [List.length_map, hl]; unfold big; omega, ⟨_, Sub.rfl', _, _, rs ++ [(decide (0 < r), os)], rfl, U5'.put hqM, (H5.put hqp ?_).mono (by omega), by rw [mup_same]; simp [encRow], by simp [hl], ?_, ?_, by omega⟩⟩
        · intro e
          obtain ⟨xs, h1, h2⟩ := hH.cell
          rw [← e] at h1
          exact rdL_some h1 hqM
        · intro r' hr'
          rcases List.mem_append.mp hr' with h | h
          · exact w1 r' h
          · rw [List.mem_singleton] at h; rw [h]; exact hj'
        · intro r' hr'
          rcases List.mem_append.mp hr' with h | h
          · exact w2 r' h
          · rw [List.mem_singleton] at h; rw [h]; exact ho
    · simp only [hi, if_false]
      have him' : i = m := by omega
      refine wp_last ?_
      (try simp only [DL.wpS, DL.wpE, DL.wpA, wpT, wpTs, wpBo, DL.wpI, wpIf, wpTg, wpTgs, optI, List.getElem?_cons_zero, List.getElem?_cons_succ, List.set_cons_succ, List.set_cons_zero, vTru, cmpS, vIsK, vLt, vLe, vGt, vGe, vOrd, DL.isNon, addE, subE, biS, rdS, rdL_new, Bool.not_true, Bool.not_false, if_true, if_false, Bool.false_eq_true, Bool.true_eq_false, reduceIte, true_and, and_true, decide_true, decide_false, vGet_0, vGet_1, slcT, addT, rdL_of Mq])
      exact rt_of (hq M' n rs UM (HM.mono (by omega)) ⟨bn.1, bn.2, by omega, by omega, w1, fun r hr k hk => by rw [hl, him']; exact w2 r hr k hk⟩ hn) Sub.rfl'
  · exact hh.elim
end H41
set_option Elab.async false
set_option linter.all false
set_option maxRecDepth 100000
set_option maxHeartbeats 1000000
namespace H41
open PySem PySem.Spec PyProof.Rows L2 DL
theorem vEq_lnil' {neg : Bool} {ls : List Nat} {M : Mem} {a b : Addr} (h : rdL M a = some (ls.map fun k : Nat => D.int (k : Nat))) (h' : rdL M b = some []) : vEqK neg (.obj a) (.obj b) M = fun Q => Q (.bl (if neg then !ls.isEmpty else ls.isEmpty)) M := by
  have := vEq_lnil (neg := neg) (is := ls.map fun k : Nat => (k : Int)) (M := M) (a := a) (b := b) (by rw [List.map_map]; exact h) h'
  rw [this]; cases ls <;> rfl
def thereL (n : Nat) (r : Row) : List Nat := (List.range n).filter fun l => ((r.2[l]?).join).isSome
def gT (r : Row) : D → Bool | .int i => ((r.2[i.toNat]?).join).isSome | _ => false
theorem there_eq (n : Nat) (r : Row) : ((((List.range ((n : Nat) : Int).toNat).map fun k => D.int ((k : Nat) : Int)).filter (gT r)).map fun d => d) = (thereL n r).map fun k : Nat => D.int (k : Nat) := by
  unfold thereL
  rw [List.map_id', List.filter_map, Int.toNat_natCast]
  rfl
theorem endS_snoc (rs : List Row) (o : Option Nat) (ls : List Nat) (l : Nat) : endS rs o (ls ++ [l]) = stepS rs (endS rs o ls) l := by
  unfold endS; rw [List.foldl_append]; rfl
def sp_text : SpD := fun ds M Q _ => match ds with
  | [.obj p, s, .int most] => ∃ (cl : Addr) (f n : Nat) (rs : List Row), s = encShape n rs ∧ ShOk n rs ∧ Hand M p cl f ∧ f < 2 ^ 59 ∧ 0 ≤ most ∧ most ≤ 31 ∧ ∀ N, UpX p M N → Hand N p cl (f + 100) → Q .non N ∧ ∀ ls : List Nat, ls.length ≤ 31 → (∀ k ∈ ls, k < n) → (way rs 0 ls).isSome = true → Q (encText ls) N
  | _ => False
theorem h__law_text (k k2 : Nat) : ∀ ds M Q0 E0, sp_text ds M Q0 E0 → ds.length = 3 ∧ wpSs ⟨[C__law_draw k sp_draw, C__law_any k2 sp_any], sub, fdOf cf⟩ (wF E0) none m__law_text (endsF Q0) (startD N__law_text.length ds) M := by
  intro ds M Q0 E0 hh
  unfold sp_text at hh
  split at hh
  · rename_i p s most
    obtain ⟨cl, f, n, rs, rfl, hS, hH, hf, m0, m31, hq⟩ := hh
    refine ⟨rfl, ?_⟩
    unfold m__law_text
    refine wp_cons ?_
    show DL.wpS _ _ _ _ _ [some (.obj p), some (encShape n rs), some (.int most), none, none, none, none, none, none, none] M
    (try simp only [DL.wpS, DL.wpE, DL.wpA, wpT, wpTs, wpBo, DL.wpI, wpIf, wpTg, wpTgs, optI, List.getElem?_cons_zero, List.getElem?_cons_succ, List.set_cons_succ, List.set_cons_zero, vTru, cmpS, vIsK, vLt, vLe, vGt, vGe, vOrd, DL.isNon, addE, subE, biS, rdS, rdL_new, Bool.not_true, Bool.not_false, if_true, if_false, Bool.false_eq_true, Bool.true_eq_false, reduceIte, true_and, and_true, decide_true, decide_false, vGet_0, vGet_1, slcT, addT])
    intro q hqn
    have noncl : ∀ {N : Mem} {q : Addr}, UpX p M N → N p ≠ none → N q = none → q ≠ cl := fun U h e z => by
      obtain ⟨xs, h1, h2⟩ := hH.cell
      exact rdL_some (U.rdL h2 h1) (z ▸ e)
    refine wp_cons ?_
    (try simp only [DL.wpS, DL.wpE, DL.wpA, wpT, wpTs, wpBo, DL.wpI, wpIf, wpTg, wpTgs, optI, List.getElem?_cons_zero, List.getElem?_cons_succ, List.set_cons_succ, List.set_cons_zero, vTru, cmpS, vIsK, vLt, vLe, vGt, vGe, vOrd, DL.isNon, addE, subE, biS, rdS, rdL_new, Bool.not_true, Bool.not_false, if_true, if_false, Bool.false_eq_true, Bool.true_eq_false, reduceIte, true_and, and_true, decide_true, decide_false, vGet_0, vGet_1, slcT, addT, rngOf])
    refine ⟨by omega, by omega, ?_⟩
    refine ⟨fun i ρ M' => ∃ (st : Nat) (q : Addr) (ls : List Nat) (x5 x6 x7 x8 x9 : Option D), ρ = [some (.obj p), some (encShape n rs), some (.int most), some (.int (st : Nat)), some (.obj q), x5, x6, x7, x8, x9] ∧ UpX p M M' ∧ Hand M' p cl (f + 3 * i) ∧ q ≠ p ∧ M' q = some (.lst (ls.map fun k : Nat => D.int (k : Nat))) ∧ ls.length ≤ i ∧ (i : Int) ≤ most ∧ (∀ k ∈ ls, k < n) ∧ endS rs (some 0) ls = some st ∧ st < rs.length,
      ⟨0, q, [], none, none, none, none, none, rfl, UpX.rfl'.new hqn, hH.new hqn, hH.fresh hqn, mup_same, Nat.le_refl _, m0, by simp, rfl, hS.r1⟩, ?_⟩
    rintro i ρ M' ⟨st, q, ls, x5, x6, x7, x8, x9, rfl, UM, HM, hqp, Mq, hl, him, hls, he, hst⟩
    have f1 : rs[st]? = some rs[st] := List.getElem?_eq_getElem hst
    have hlen := hS.len _ (List.getElem_mem hst)
    have hto := hS.to _ (List.getElem_mem hst)
    generalize rs[st] = row at f1 hlen hto
    have ew : (way rs 0 ls).isSome = row.1 := by rw [way_end, he]; simp only [flagS, f1]
    have good : row.1 = true → ∀ N, UpX p M N → Hand N p cl (f + 100) → (endsF Q0).rt (encText ls) N := fun e N U H => rt_of ((hq N U H).2 ls (by omega) hls (by rw [ew, e])) Sub.rfl'
    have none_ : ∀ N, UpX p M N → Hand N p cl (f + 100) → (endsF Q0).rt .non N := fun N U H => rt_of ((hq N U H).1) Sub.rfl'
    simp only [range_get_z]
    by_cases hi : (i : Int) < most
    · simp only [hi, if_true]
      (try simp only [DL.wpS, DL.wpE, DL.wpA, wpT, wpTs, wpBo, DL.wpI, wpIf, wpTg, wpTgs, optI, List.getElem?_cons_zero, List.getElem?_cons_succ, List.set_cons_succ, List.set_cons_zero, vTru, cmpS, vIsK, vLt, vLe, vGt, vGe, vOrd, DL.isNon, addE, subE, biS, rdS, rdL_new, Bool.not_true, Bool.not_false, if_true, if_false, Bool.false_eq_true, Bool.true_eq_false, reduceIte, true_and, and_true, decide_true, decide_false, vGet_0, vGet_1, slcT, addT])
      refine wp_cons ?_
      (try simp only [DL.wpS, DL.wpE, DL.wpA, wpT, wpTs, wpBo, DL.wpI, wpIf, wpTg, wpTgs, optI, List.getElem?_cons_zero, List.getElem?_cons_succ, List.set_cons_succ, List.set_cons_zero, vTru, cmpS, vIsK, vLt, vLe, vGt, vGe, vOrd, DL.isNon, addE, subE, biS, rdS, rdL_new, Bool.not_true, Bool.not_false, if_true, if_false, Bool.false_eq_true, Bool.true_eq_false, reduceIte, true_and, and_true, decide_true, decide_false, vGet_0, vGet_1, slcT, addT, encShape, vGet_tup (enc_row f1), encRow])
      refine wp_cons ?_
      (try simp only [DL.wpS, DL.wpE, DL.wpA, wpT, wpTs, wpBo, DL.wpI, wpIf, wpTg, wpTgs, optI, List.getElem?_cons_zero, List.getElem?_cons_succ, List.set_cons_succ, List.set_cons_zero, vTru, cmpS, vIsK, vLt, vLe, vGt, vGe, vOrd, DL.isNon, addE, subE, biS, rdS, rdL_new, Bool.not_true, Bool.not_false, if_true, if_false, Bool.false_eq_true, Bool.true_eq_false, reduceIte, true_and, and_true, decide_true, decide_false, vGet_0, vGet_1, slcT, addT, encShape, rngOf])
      have n8 := hS.n8
      refine ⟨by omega, by omega, ?_⟩
      refine lc_pure (fun d => d) (gT row) trivial _ [] _ ?_ (fun d hd K1 K2 h1 h2 => ?_) ?_
      · simp [big]; omega
      · obtain ⟨l, hl', rfl⟩ := List.mem_map.mp hd
        have hln : l < n := by simpa using hl'
        simp only [wipeD, List.map_cons, List.map_nil]
        have e2 : row.2[l]? = some (row.2[l]'(by omega)) := List.getElem?_eq_getElem (by omega)
        generalize row.2[l]'(by omega) = o at e2
        (try simp only [DL.wpS, DL.wpE, DL.wpA, wpT, wpTs, wpBo, DL.wpI, wpIf, wpTg, wpTgs, optI, List.getElem?_cons_zero, List.getElem?_cons_succ, List.set_cons_succ, List.set_cons_zero, vTru, cmpS, vIsK, vLt, vLe, vGt, vGe, vOrd, DL.isNon, addE, subE, biS, rdS, rdL_new, Bool.not_true, Bool.not_false, if_true, if_false, Bool.false_eq_true, Bool.true_eq_false, reduceIte, true_and, and_true, decide_true, decide_false, vGet_0, vGet_1, slcT, addT, vGet_tup (enc_step e2)])
        have eg : gT row (.int (l : Nat)) = o.isSome := by simp [gT, e2]
        rw [eg] at h1 h2
        cases o with
        | none => simp only [encStep, DL.isNon, Bool.not_true, Bool.false_eq_true, if_false]; exact h2 rfl
        | some o => simp only [encStep, DL.isNon, Bool.not_false, if_true]; exact h1 rfl
      · rw [List.nil_append, there_eq]
        intro q2 hq2
        have hq2p := HM.fresh hq2
        have hqq : q ≠ q2 := ne_none Mq hq2
        have hth : ∀ l ∈ thereL n row, ∃ o, row.2[l]? = some (some o) := fun l h => by
          unfold thereL at h
          rw [List.mem_filter] at h
          cases e : row.2[l]? with
          | none => rw [e] at h; simp at h
          | some o => cases o with
            | none => rw [e] at h; simp at h
            | some o => exact ⟨o, rfl⟩
        have hthn : ∀ l ∈ thereL n row, l < n := fun l h => by
          unfold thereL at h
          rw [List.mem_filter] at h
          simpa using h.1
        have hthl : (thereL n row).length ≤ 8 := by
          unfold thereL
          have := List.length_filter_le (fun l => ((row.2[l]?).join).isSome) (List.range n)
          rw [List.length_range] at this
          omega
        generalize thereL n row = th at hth hthn hthl
        -- behind the first test
        refine wp_cut (fun ρ' M2 => ρ' = [some (.obj p), some (encShape n rs), some (.int most), some (.int (st : Nat)), some (.obj q), some (.int (i : Nat)), some (.bl row.1), some (.tup (row.2.map encStep)), some (.obj q2), x9] ∧ UpX p M M2 ∧ Hand M2 p cl (f + 3 * i + 1) ∧ M2 q = some (.lst (ls.map fun k : Nat => D.int (k : Nat))) ∧ rdL M2 q2 = some (th.map fun k : Nat => D.int (k : Nat))) ?_ ?_
        · have U3 := UM.new hq2 (o := .lst (th.map fun k : Nat => D.int (k : Nat)))
          have H3 := HM.new hq2 (o := .lst (th.map fun k : Nat => D.int (k : Nat)))
          have hM3 : mup M' q2 (.lst (th.map fun k : Nat => D.int (k : Nat))) q = some (.lst (ls.map fun k : Nat => D.int (k : Nat))) := by rw [mup_ne hqq]; exact Mq
          have hM4 : rdL (mup M' q2 (.lst (th.map fun k : Nat => D.int (k : Nat)))) q2 = some (th.map fun k : Nat => D.int (k : Nat)) := rdL_new
          generalize mup M' q2 (.lst (th.map fun k : Nat => D.int (k : Nat))) = M3 at U3 H3 hM3 hM4
          (try simp only [DL.wpS, DL.wpE, DL.wpA, wpT, wpTs, wpBo, DL.wpI, wpIf, wpTg, wpTgs, optI, List.getElem?_cons_zero, List.getElem?_cons_succ, List.set_cons_succ, List.set_cons_zero, vTru, cmpS, vIsK, vLt, vLe, vGt, vGe, vOrd, DL.isNon, addE, subE, biS, rdS, rdL_new, Bool.not_true, Bool.not_false, if_true, if_false, Bool.false_eq_true, Bool.true_eq_false, reduceIte, true_and, and_true, decide_true, decide_false, vGet_0, vGet_1, slcT, addT])
          cases hb : row.1 with
          | false =>
            simp only [Bool.false_eq_true, if_false]
            exact wp_nil ⟨rfl, U3, H3.mono (by omega), hM3, hM4⟩
          | true =>
            simp only [if_true]
            intro q3 hq3
            have h23 := Upd_none hM4 hq3
            have hq3q : q ≠ q3 := ne_none hM3 hq3
            (try simp only [DL.wpS, DL.wpE, DL.wpA, wpT, wpTs, wpBo, DL.wpI, wpIf, wpTg, wpTgs, optI, List.getElem?_cons_zero, List.getElem?_cons_succ, List.set_cons_succ, List.set_cons_zero, vTru, cmpS, vIsK, vLt, vLe, vGt, vGe, vOrd, DL.isNon, addE, subE, biS, rdS, rdL_new, Bool.not_true, Bool.not_false, if_true, if_false, Bool.false_eq_true, Bool.true_eq_false, reduceIte, true_and, and_true, decide_true, decide_false, vGet_0, vGet_1, slcT, addT, vEq_lnil' (rdL_up (o := .lst []) h23 ▸ hM4) rdL_new])
            cases hth : th.isEmpty with
            | true =>
              simp only [Bool.true_eq_false, if_false, if_true]
              refine wp_last ?_
              (try simp only [DL.wpS, DL.wpE, DL.wpA, wpT, wpTs, wpBo, DL.wpI, wpIf, wpTg, wpTgs, optI, List.getElem?_cons_zero, List.getElem?_cons_succ, List.set_cons_succ, List.set_cons_zero, vTru, cmpS, vIsK, vLt, vLe, vGt, vGe, vOrd, DL.isNon, addE, subE, biS, rdS, rdL_new, Bool.not_true, Bool.not_false, if_true, if_false, Bool.false_eq_true, Bool.true_eq_false, reduceIte, true_and, and_true, decide_true, decide_false, vGet_0, vGet_1, slcT, addT, rdL_up hq3q, rdL_of hM3])
              exact good hb _ (U3.new hq3) ((H3.new hq3).mono (by omega))
            | false =>
              simp only [if_true]
              refine ⟨cl, _, H3.new hq3, by omega, by decide, by decide, fun N r U4 H4 r0 r1 => ?_⟩
              have U4' := (U3.new hq3).trans U4.upx
              have N4 : N q = some (.lst (ls.map fun k : Nat => D.int (k : Nat))) := U4.get hqp (by rw [mup_ne hq3q]; exact hM3)
              have N5 : rdL N q2 = some (th.map fun k : Nat => D.int (k : Nat)) := U4.upx.rdL hq2p (by rw [rdL_up h23]; exact hM4)
              (try simp only [DL.wpS, DL.wpE, DL.wpA, wpT, wpTs, wpBo, DL.wpI, wpIf, wpTg, wpTgs, optI, List.getElem?_cons_zero, List.getElem?_cons_succ, List.set_cons_succ, List.set_cons_zero, vTru, cmpS, vIsK, vLt, vLe, vGt, vGe, vOrd, DL.isNon, addE, subE, biS, rdS, rdL_new, Bool.not_true, Bool.not_false, if_true, if_false, Bool.false_eq_true, Bool.true_eq_false, reduceIte, true_and, and_true, decide_true, decide_false, vGet_0, vGet_1, slcT, addT, vEqK])
              by_cases hr : r = 0
              · simp only [hr, decide_true, if_true]
                refine wp_last ?_
                (try simp only [DL.wpS, DL.wpE, DL.wpA, wpT, wpTs, wpBo, DL.wpI, wpIf, wpTg, wpTgs, optI, List.getElem?_cons_zero, List.getElem?_cons_succ, List.set_cons_succ, List.set_cons_zero, vTru, cmpS, vIsK, vLt, vLe, vGt, vGe, vOrd, DL.isNon, addE, subE, biS, rdS, rdL_new, Bool.not_true, Bool.not_false, if_true, if_false, Bool.false_eq_true, Bool.true_eq_false, reduceIte, true_and, and_true, decide_true, decide_false, vGet_0, vGet_1, slcT, addT, rdL_of N4])
                exact good hb _ U4' (H4.mono (by omega))
              · simp only [hr, decide_false, Bool.false_eq_true, if_false]
                exact wp_nil ⟨rfl, U4', H4, N4, N5⟩
        · rintro ρ' M2 ⟨rfl, U2, H2, M2q, M2q2⟩
          refine ⟨M2, Sub.rfl', wp_cons ?_⟩
          (try simp only [DL.wpS, DL.wpE, DL.wpA, wpT, wpTs, wpBo, DL.wpI, wpIf, wpTg, wpTgs, optI, List.getElem?_cons_zero, List.getElem?_cons_succ, List.set_cons_succ, List.set_cons_zero, vTru, cmpS, vIsK, vLt, vLe, vGt, vGe, vOrd, DL.isNon, addE, subE, biS, rdS, rdL_new, Bool.not_true, Bool.not_false, if_true, if_false, Bool.false_eq_true, Bool.true_eq_false, reduceIte, true_and, and_true, decide_true, decide_false, vGet_0, vGet_1, slcT, addT])
          intro q3 hq3
          have h23 := Upd_none M2q2 hq3
          have hq3q : q ≠ q3 := ne_none M2q hq3
          (try simp only [DL.wpS, DL.wpE, DL.wpA, wpT, wpTs, wpBo, DL.wpI, wpIf, wpTg, wpTgs, optI, List.getElem?_cons_zero, List.getElem?_cons_succ, List.set_cons_succ, List.set_cons_zero, vTru, cmpS, vIsK, vLt, vLe, vGt, vGe, vOrd, DL.isNon, addE, subE, biS, rdS, rdL_new, Bool.not_true, Bool.not_false, if_true, if_false, Bool.false_eq_true, Bool.true_eq_false, reduceIte, true_and, and_true, decide_true, decide_false, vGet_0, vGet_1, slcT, addT, vEq_lnil' (rdL_up (o := .lst []) h23 ▸ M2q2) rdL_new])
          have U3 := U2.new hq3 (o := .lst [])
          have H3 := H2.new hq3 (o := .lst [])
          cases hth' : th.isEmpty with
          | true =>
            simp only [if_true]
            refine wp_last ?_
            (try simp only [DL.wpS, DL.wpE, DL.wpA, wpT, wpTs, wpBo, DL.wpI, wpIf, wpTg, wpTgs, optI, List.getElem?_cons_zero, List.getElem?_cons_succ, List.set_cons_succ, List.set_cons_zero, vTru, cmpS, vIsK, vLt, vLe, vGt, vGe, vOrd, DL.isNon, addE, subE, biS, rdS, rdL_new, Bool.not_true, Bool.not_false, if_true, if_false, Bool.false_eq_true, Bool.true_eq_false, reduceIte, true_and, and_true, decide_true, decide_false, vGet_0, vGet_1, slcT, addT])
            exact none_ _ U3 (H3.mono (by omega))
          | false =>
            simp only [Bool.false_eq_true, if_false]
            refine wp_nil ?_
            -- the letter
            refine wp_cut (fun ρ' M3 => ∃ l, l ∈ th ∧ ρ' = [some (.obj p), some (encShape n rs), some (.int most), some (.int (st : Nat)), some (.obj q), some (.int (i : Nat)), some (.bl row.1), some (.tup (row.2.map encStep)), some (.obj q2), some (.int (l : Nat))] ∧ UpX p M M3 ∧ Hand M3 p cl (f + 3 * i + 3) ∧ M3 q = some (.lst (ls.map fun k : Nat => D.int (k : Nat)))) ?_ ?_
            · have hM3 : (mup M2 q3 (.lst [])) q = some (.lst (ls.map fun k : Nat => D.int (k : Nat))) := by rw [mup_ne hq3q]; exact M2q
              have hM4 : rdL (mup M2 q3 (.lst [])) q2 = some (th.map fun k : Nat => D.int (k : Nat)) := by rw [rdL_up h23]; exact M2q2
              generalize mup M2 q3 (.lst []) = M3 at U3 H3 hM3 hM4
              (try simp only [DL.wpS, DL.wpE, DL.wpA, wpT, wpTs, wpBo, DL.wpI, wpIf, wpTg, wpTgs, optI, List.getElem?_cons_zero, List.getElem?_cons_succ, List.set_cons_succ, List.set_cons_zero, vTru, cmpS, vIsK, vLt, vLe, vGt, vGe, vOrd, DL.isNon, addE, subE, biS, rdS, rdL_new, Bool.not_true, Bool.not_false, if_true, if_false, Bool.false_eq_true, Bool.true_eq_false, reduceIte, true_and, and_true, decide_true, decide_false, vGet_0, vGet_1, slcT, addT])
              refine ⟨cl, _, H3, by omega, by decide, by decide, fun N r U4 H4 r0 r1 => ?_⟩
              have U4' := U3.trans U4.upx
              have N4 : N q = some (.lst (ls.map fun k : Nat => D.int (k : Nat))) := U4.get hqp hM3
              have N5 : rdL N q2 = some (th.map fun k : Nat => D.int (k : Nat)) := U4.upx.rdL hq2p hM4
              (try simp only [DL.wpS, DL.wpE, DL.wpA, wpT, wpTs, wpBo, DL.wpI, wpIf, wpTg, wpTgs, optI, List.getElem?_cons_zero, List.getElem?_cons_succ, List.set_cons_succ, List.set_cons_zero, vTru, cmpS, vIsK, vLt, vLe, vGt, vGe, vOrd, DL.isNon, addE, subE, biS, rdS, rdL_new, Bool.not_true, Bool.not_false, if_true, if_false, Bool.false_eq_true, Bool.true_eq_false, reduceIte, true_and, and_true, decide_true, decide_false, vGet_0, vGet_1, slcT, addT, vEqK])
              by_cases hr : r = 0
              · simp only [hr, decide_true, if_true]
                cases th with
                | nil => cases hth'
                | cons l th =>
                  have := vGet_lst (k := 0) (Q := fun d M1 => ∃ l', l' ∈ l :: th ∧ [some (.obj p), some (encShape n rs), some (.int most), some (.int (st : Nat)), some (.obj q), some (.int (i : Nat)), some (.bl row.1), some (.tup (row.2.map encStep)), some (.obj q2), some d] = [some (.obj p), some (encShape n rs), some (.int most), some (.int (st : Nat)), some (.obj q), some (.int (i : Nat)), some (.bl row.1), some (.tup (row.2.map encStep)), some (.obj q2), some (.int (l' : Nat))] ∧ UpX p M M1 ∧ Hand M1 p cl (f + 3 * i + 3) ∧ M1 q = some (.lst (ls.map fun k : Nat => D.int (k : Nat)))) N5 (d := .int (l : Nat)) rfl
                  exact this.mpr ⟨l, List.mem_cons_self .., rfl, U4', H4.mono (by omega), N4⟩
              · simp only [hr, decide_false, Bool.false_eq_true, if_false]
                refine ⟨cl, _, _, H4, by omega, .inr ⟨q2, rfl, hq2p, N5⟩, by cases th <;> simp at hth' ⊢, by rw [List.length_map]; omega, fun N6 x U6 H6 hx => ?_⟩
                obtain ⟨l, hl2, rfl⟩ := List.mem_map.mp hx
                exact ⟨l, hl2, rfl, U4'.trans U6.upx, H6.mono (by omega), U6.get hqp N4⟩
            · rintro ρ' M3 ⟨l, hl2, rfl, U5, H5, M3q⟩
              obtain ⟨o, ho⟩ := hth l hl2
              refine ⟨M3, Sub.rfl', wp_last ?_⟩
              (try simp only [DL.wpS, DL.wpE, DL.wpA, wpT, wpTs, wpBo, DL.wpI, wpIf, wpTg, wpTgs, optI, List.getElem?_cons_zero, List.getElem?_cons_succ, List.set_cons_succ, List.set_cons_zero, vTru, cmpS, vIsK, vLt, vLe, vGt, vGe, vOrd, DL.isNon, addE, subE, biS, rdS, rdL_new, Bool.not_true, Bool.not_false, if_true, if_false, Bool.false_eq_true, Bool.true_eq_false, reduceIte, true_and, and_true, decide_true, decide_false, vGet_0, vGet_1, slcT, addT])
              intro q4 hq4
              have hq4q : q ≠ q4 := ne_none M3q hq4
              simp only [binS, vAdd, mup_ne hq4q, M3q, mup_same]
              refine ⟨by simp [big]; omega, fun q5 hq5 => ?_⟩
              obtain ⟨h54, hq5'⟩ := mup_none hq5
              (try simp only [DL.wpS, DL.wpE, DL.wpA, wpT, wpTs, wpBo, DL.wpI, wpIf, wpTg, wpTgs, optI, List.getElem?_cons_zero, List.getElem?_cons_succ, List.set_cons_succ, List.set_cons_zero, vTru, cmpS, vIsK, vLt, vLe, vGt, vGe, vOrd, DL.isNon, addE, subE, biS, rdS, rdL_new, Bool.not_true, Bool.not_false, if_true, if_false, Bool.false_eq_true, Bool.true_eq_false, reduceIte, true_and, and_true, decide_true, decide_false, vGet_0, vGet_1, slcT, addT, vGet_tup (enc_step ho), encStep])
              refine ⟨_, Sub.rfl', o, q5, ls ++ [l], _, _, _, _, _, rfl, (U5.new hq4).new hq5, ((H5.new hq4).new hq5).mono (by omega), (H5.new hq4).fresh hq5, by rw [mup_same]; simp, by simp; omega, by omega, ?_, ?_, hto o (List.mem_of_getElem? ho)⟩
              · intro k hk
                rcases List.mem_append.mp hk with h | h
                · exact hls k h
                · rw [List.mem_singleton] at h; rw [h]; exact hthn l hl2
              · rw [endS_snoc, he]; simp only [stepS, f1, ho, Option.join_some]
    · simp only [hi, if_false]
      refine wp_last ?_
      (try simp only [DL.wpS, DL.wpE, DL.wpA, wpT, wpTs, wpBo, DL.wpI, wpIf, wpTg, wpTgs, optI, List.getElem?_cons_zero, List.getElem?_cons_succ, List.set_cons_succ, List.set_cons_zero, vTru, cmpS, vIsK, vLt, vLe, vGt, vGe, vOrd, DL.isNon, addE, subE, biS, rdS, rdL_new, Bool.not_true, Bool.not_false, if_true, if_false, Bool.false_eq_true, Bool.true_eq_false, reduceIte, true_and, and_true, decide_true, decide_false, vGet_0, vGet_1, slcT, addT, encShape, vGet_tup (enc_row f1), encRow])
      cases hb : row.1 with
      | true =>
        simp only [if_true, rdL_of Mq]
        exact good hb _ UM (HM.mono (by omega))
      | false =>
        simp only [Bool.false_eq_true, if_false]
        exact none_ _ UM (HM.mono (by omega))
  · exact hh.elim
end H41
set_option Elab.async false
set_option linter.all false
set_option maxRecDepth 100000
set_option maxHeartbeats 1000000
namespace H41
open PySem PySem.Spec PyProof.Rows L2 DL
def goodT (n : Nat) (rs : List Row) (t : D) : Prop := ∃ ls : List Nat, t = encText ls ∧ ls.length ≤ 3000 ∧ (∀ k ∈ ls, k < n) ∧ (way rs 0 ls).isSome = true
def sp_texts : SpD := fun ds M Q _ => match ds with
  | [.obj p, s, .int many] => ∃ (cl : Addr) (f n : Nat) (rs : List Row), s = encShape n rs ∧ ShOk n rs ∧ Hand M p cl f ∧ f < 2 ^ 58 ∧ 0 ≤ many ∧ many ≤ 100 ∧ ∀ N ts, UpX p M N → Hand N p cl (f + 10300) → ts.length ≤ 100 → (∀ t ∈ ts, goodT n rs t) → Q (.tup ts) N
  | _ => False
theorem h__law_texts (k k2 : Nat) : ∀ ds M Q0 E0, sp_texts ds M Q0 E0 → ds.length = 3 ∧ wpSs ⟨[C__law_text k sp_text, C__law_draw k2 sp_draw], sub, fdOf cf⟩ (wF E0) none m__law_texts (endsF Q0) (startD N__law_texts.length ds) M := by
  intro ds M Q0 E0 hh
  unfold sp_texts at hh
  split at hh
  · rename_i p s many
    obtain ⟨cl, f, n, rs, rfl, hS, hH, hf, m0, m9, hq⟩ := hh
    refine ⟨rfl, ?_⟩
    unfold m__law_texts
    refine wp_cons ?_
    show DL.wpS _ _ _ _ _ [some (.obj p), some (encShape n rs), some (.int many), none, none, none] M
    (try simp only [DL.wpS, DL.wpE, DL.wpA, wpT, wpTs, wpBo, DL.wpI, wpIf, wpTg, wpTgs, optI, List.getElem?_cons_zero, List.getElem?_cons_succ, List.set_cons_succ, List.set_cons_zero, vTru, cmpS, vIsK, vLt, vLe, vGt, vGe, vOrd, DL.isNon, addE, subE, biS, rdS, rdL_new, Bool.not_true, Bool.not_false, if_true, if_false, Bool.false_eq_true, Bool.true_eq_false, reduceIte, true_and, and_true, decide_true, decide_false, vGet_0, vGet_1, slcT, addT, rngOf])
    refine ⟨by omega, by omega, ?_⟩
    refine lc_inv (fun j acc M2 => acc.length = j ∧ (∀ t ∈ acc, t = .non ∨ goodT n rs t) ∧ UpX p M M2 ∧ Hand M2 p cl (f + 102 * j) ∧ (j : Int) ≤ many) (fun _ _ _ _ => trivial) (fun j d acc M2 Kn hd hP hK => ?_) ⟨rfl, by simp, UpX.rfl', hH, m0⟩ ?_
    · obtain ⟨hj, ha, U2, H2, hjm⟩ := hP
      rw [range_get_z] at hd
      split at hd
      · cases hd
        simp only [wipeD, List.map_cons, List.map_nil]
        (try simp only [DL.wpS, DL.wpE, DL.wpA, wpT, wpTs, wpBo, DL.wpI, wpIf, wpTg, wpTgs, optI, List.getElem?_cons_zero, List.getElem?_cons_succ, List.set_cons_succ, List.set_cons_zero, vTru, cmpS, vIsK, vLt, vLe, vGt, vGe, vOrd, DL.isNon, addE, subE, biS, rdS, rdL_new, Bool.not_true, Bool.not_false, if_true, if_false, Bool.false_eq_true, Bool.true_eq_false, reduceIte, true_and, and_true, decide_true, decide_false, vGet_0, vGet_1, slcT, addT])
        refine ⟨cl, _, H2, by omega, by decide, by decide, fun N r U3 H3 r0 r1 => ?_⟩
        (try simp only [DL.wpS, DL.wpE, DL.wpA, wpT, wpTs, wpBo, DL.wpI, wpIf, wpTg, wpTgs, optI, List.getElem?_cons_zero, List.getElem?_cons_succ, List.set_cons_succ, List.set_cons_zero, vTru, cmpS, vIsK, vLt, vLe, vGt, vGe, vOrd, DL.isNon, addE, subE, biS, rdS, rdL_new, Bool.not_true, Bool.not_false, if_true, if_false, Bool.false_eq_true, Bool.true_eq_false, reduceIte, true_and, and_true, decide_true, decide_false, vGet_0, vGet_1, slcT, addT])
        refine ⟨cl, _, n, rs, rfl, hS, H3, by omega, by omega, by omega, fun N4 U4 H4 => ⟨?_, fun ls l1 l2 l3 => ?_⟩⟩
        · refine ⟨by unfold big; omega, hK _ _ ⟨by simp [hj], fun t ht => ?_, (U2.trans U3.upx).trans U4, H4.mono (by omega), by omega⟩⟩
          rcases List.mem_append.mp ht with h | h
          · exact ha t h
          · rw [List.mem_singleton] at h; exact .inl h
        · refine ⟨by unfold big; omega, hK _ _ ⟨by simp [hj], fun t ht => ?_, (U2.trans U3.upx).trans U4, H4.mono (by omega), by omega⟩⟩
          rcases List.mem_append.mp ht with h | h
          · exact ha t h
          · rw [List.mem_singleton] at h; exact .inr ⟨ls, h, by omega, l2, l3⟩
      · cases hd
    · rintro acc M2 ⟨hj, ha, U2, H2, hjm⟩ q hq2
      replace H2 := H2.mono (g := f + 10200) (by simp; omega)
      have hl : acc.length ≤ 100 := by rw [hj]; simp; omega
      clear hj hjm
      refine wp_last ?_
      (try simp only [DL.wpS, DL.wpE, DL.wpA, wpT, wpTs, wpBo, DL.wpI, wpIf, wpTg, wpTgs, optI, List.getElem?_cons_zero, List.getElem?_cons_succ, List.set_cons_succ, List.set_cons_zero, vTru, cmpS, vIsK, vLt, vLe, vGt, vGe, vOrd, DL.isNon, addE, subE, biS, rdS, rdL_new, Bool.not_true, Bool.not_false, if_true, if_false, Bool.false_eq_true, Bool.true_eq_false, reduceIte, true_and, and_true, decide_true, decide_false, vGet_0, vGet_1, slcT, addT, itsOf])
      refine lc_pure (fun d => d) (fun d => !DL.isNon d) rdL_new _ [] _ (by simp [big]; omega) (fun d hd K1 K2 h1 h2 => ?_) ?_
      · simp only [wipeD, List.map_cons, List.map_nil]
        (try simp only [DL.wpS, DL.wpE, DL.wpA, wpT, wpTs, wpBo, DL.wpI, wpIf, wpTg, wpTgs, optI, List.getElem?_cons_zero, List.getElem?_cons_succ, List.set_cons_succ, List.set_cons_zero, vTru, cmpS, vIsK, vLt, vLe, vGt, vGe, vOrd, DL.isNon, addE, subE, biS, rdS, rdL_new, Bool.not_true, Bool.not_false, if_true, if_false, Bool.false_eq_true, Bool.true_eq_false, reduceIte, true_and, and_true, decide_true, decide_false, vGet_0, vGet_1, slcT, addT])
        by_cases hn : DL.isNon d = true
        · have e : vIsK true d .non (mup M2 q (.lst acc)) = fun Q => Q (.bl (!DL.isNon d)) (mup M2 q (.lst acc)) := by funext Q; cases d <;> rfl
          first
          | (simp only [hn, Bool.not_true, Bool.false_eq_true, if_false]; exact h2 (by simp [hn]))
          | (cases d <;> simp [DL.isNon] at hn h1 h2 ⊢ <;> assumption)
        · cases d <;> simp [DL.isNon] at hn h1 h2 ⊢ <;> assumption
      · rw [List.nil_append, List.map_id']
        intro q2 hq2'
        refine rt_of (hq _ _ ((U2.new hq2).new hq2') (((H2.new hq2).new hq2').mono (by omega)) (Nat.le_trans (List.length_filter_le _ _) hl) fun t ht => ?_) Sub.rfl'
        rw [List.mem_filter] at ht
        rcases ha t ht.1 with h | h
        · rw [h] at ht; simp [DL.isNon] at ht
        · exact h
  · exact hh.elim
end H41
set_option linter.all false
/-! F1: the least tuples of lengths: reckoned choice by choice, whatever the depth. -/
namespace Fi
/-- room that a tuple takes, in parts of 2 ** -D -/
def room (D : Nat) (ls : List Nat) : Nat := (ls.map fun l => 2 ^ (D - l)).sum
def costZ : List Int → List Nat → Int
  | c :: cs, l :: ls => c * (l : Int) + costZ cs ls
  | _, _ => 0
def Ok (D n R : Nat) (ls : List Nat) : Prop := ls.length = n ∧ (∀ l ∈ ls, 1 ≤ l ∧ l ≤ D) ∧ room D ls ≤ R
def lexle : List Nat → List Nat → Prop
  | [], _ => True
  | _ :: _, [] => False
  | a :: as, b :: bs => a < b ∨ (a = b ∧ lexle as bs)
theorem lexle_refl : ∀ as, lexle as as
  | [] => trivial
  | a :: as => .inr ⟨rfl, lexle_refl as⟩
theorem lexle_antisymm : ∀ {as bs : List Nat}, as.length = bs.length → lexle as bs → lexle bs as → as = bs
  | [], [], _, _, _ => rfl
  | a :: as, b :: bs, h, h1, h2 => by
    have hl : as.length = bs.length := by simpa using h
    rcases h1 with h1 | ⟨h1, h1'⟩ <;> rcases h2 with h2 | ⟨h2, h2'⟩
    · omega
    · omega
    · omega
    · rw [h1, lexle_antisymm hl h1' h2']
theorem lexle_total : ∀ {as bs : List Nat}, as.length = bs.length → lexle as bs ∨ lexle bs as
  | [], [], _ => .inl trivial
  | a :: as, b :: bs, h => by
    have hl : as.length = bs.length := by simpa using h
    rcases Nat.lt_trichotomy a b with q | q | q
    · exact .inl (.inl q)
    · rcases lexle_total hl with z | z
      · exact .inl (.inr ⟨q, z⟩)
      · exact .inr (.inr ⟨q.symm, z⟩)
    · exact .inr (.inl q)
/-- the least of the cheapest -/
def Best (D R : Nat) (cs : List Int) (L : List Nat) : Prop := Ok D cs.length R L ∧ ∀ ls, Ok D cs.length R ls → costZ cs L < costZ cs ls ∨ (costZ cs L = costZ cs ls ∧ lexle L ls)
theorem Best.unique {D R : Nat} {cs : List Int} {L L' : List Nat} (h : Best D R cs L) (h' : Best D R cs L') : L = L' := by
  rcases h.2 L' h'.1 with a | ⟨a, b⟩ <;> rcases h'.2 L h.1 with c | ⟨c, d⟩
  · omega
  · omega
  · omega
  · exact lexle_antisymm (by rw [h.1.1, h'.1.1]) b d
theorem room_cons (D l : Nat) (ls : List Nat) : room D (l :: ls) = 2 ^ (D - l) + room D ls := by simp [room]
theorem room_append (D : Nat) (as bs : List Nat) : room D (as ++ bs) = room D as + room D bs := by simp [room]
theorem room_scale {D E : Nat} (h : D ≤ E) : ∀ {ls : List Nat}, (∀ l ∈ ls, l ≤ D) → room E ls = 2 ^ (E - D) * room D ls
  | [], _ => by simp [room]
  | l :: ls, hl => by
    have h1 := hl l (List.mem_cons_self ..)
    rw [room_cons, room_cons, room_scale h fun x hx => hl x (List.mem_cons_of_mem _ hx), Nat.mul_add, ← Nat.pow_add]
    congr 2
    omega
/-- fitting doesn't hang on the depth -/
theorem ok_depth {D E n : Nat} {ls : List Nat} (hD : ∀ l ∈ ls, l ≤ D) (hE : ∀ l ∈ ls, l ≤ E) (h : Ok D n (2 ^ D) ls) : Ok E n (2 ^ E) ls := by
  refine ⟨h.1, fun l hl => ⟨(h.2.1 l hl).1, hE l hl⟩, ?_⟩
  have key : room (D + E) ls ≤ 2 ^ (D + E) := by
    rw [room_scale (Nat.le_add_right D E) hD, show D + E - D = E by omega, Nat.pow_add, Nat.mul_comm (2 ^ D)]
    exact Nat.mul_le_mul_left _ h.2.2
  rw [room_scale (Nat.le_add_left E D) hE, show D + E - E = D by omega, Nat.pow_add] at key
  exact Nat.le_of_mul_le_mul_left key (Nat.pow_pos (by decide))
/-! ### a full tuple is not deep -/
theorem full_deep : ∀ (m : Nat) (ls : List Nat), (∀ l ∈ ls, l ≤ m) → m ∈ ls → room m ls = 2 ^ m → m + 1 ≤ ls.length
  | 0, ls, _, hm, _ => List.length_pos_of_mem hm
  | m + 1, ls, hl, hm, hs => by
    -- those of the greatest length, and the others
    have split : ∀ ls : List Nat, (∀ l ∈ ls, l ≤ m + 1) → room (m + 1) ls = ls.count (m + 1) + 2 * room m (ls.filter fun l => decide (l ≤ m)) ∧ ls.length = ls.count (m + 1) + (ls.filter fun l => decide (l ≤ m)).length := by
      intro ls
      induction ls with
      | nil => intro _; exact ⟨rfl, rfl⟩
      | cons l ls ih =>
        intro h
        obtain ⟨a, b⟩ := ih fun x hx => h x (List.mem_cons_of_mem _ hx)
        have h1 := h l (List.mem_cons_self ..)
        rw [room_cons, a, List.length_cons, b]
        by_cases e : l = m + 1
        · subst e
          have : ((m + 1) :: ls).filter (fun l => decide (l ≤ m)) = ls.filter fun l => decide (l ≤ m) := by
            rw [List.filter_cons_of_neg]; simp
          rw [this]
          simp
          omega
        · have hle : l ≤ m := by omega
          have : (l :: ls).filter (fun l => decide (l ≤ m)) = l :: ls.filter fun l => decide (l ≤ m) := by
            rw [List.filter_cons_of_pos]; simp [hle]
          rw [this, room_cons, List.count_cons_of_ne (by omega), List.length_cons]
          have : m + 1 - l = m - l + 1 := by omega
          rw [this, Nat.pow_succ]
          omega
    obtain ⟨s1, s2⟩ := split ls hl
    have hc := List.count_pos_iff.mpr hm
    have he : ls.count (m + 1) % 2 = 0 := by
      rw [hs, Nat.pow_succ] at s1
      omega
    obtain ⟨ls', els⟩ : ∃ ls' : List Nat, ls' = (ls.filter fun l => decide (l ≤ m)) ++ List.replicate (ls.count (m + 1) / 2) m := ⟨_, rfl⟩
    have hsum : room m ls' = 2 ^ m := by
      have : room m (List.replicate (ls.count (m + 1) / 2) m) = ls.count (m + 1) / 2 := by
        unfold room
        rw [List.map_replicate, Nat.sub_self, Nat.pow_zero, List.sum_replicate_nat, Nat.mul_one]
      rw [els, room_append, this]
      rw [hs, Nat.pow_succ] at s1
      omega
    have ih := full_deep m ls' (fun l h => by
      rw [els] at h
      rcases List.mem_append.mp h with h | h
      · exact of_decide_eq_true (List.mem_filter.mp h).2
      · rw [(List.mem_replicate.mp h).2]; exact Nat.le_refl _) (by rw [els]; exact List.mem_append_right _ (List.mem_replicate.mpr ⟨by omega, rfl⟩)) hsum
    have hl' : ls'.length = (ls.filter fun l => decide (l ≤ m)).length + ls.count (m + 1) / 2 := by
      rw [els, List.length_append, List.length_replicate]
    omega
/-! ### the best is not deep -/
theorem exists_max : ∀ {ls : List Nat}, ls ≠ [] → ∃ m ∈ ls, ∀ l ∈ ls, l ≤ m
  | [], h => absurd rfl h
  | [a], _ => ⟨a, List.mem_singleton.mpr rfl, fun l h => by rw [List.mem_singleton.mp h]; exact Nat.le_refl _⟩
  | a :: b :: r, _ => by
    obtain ⟨m, h1, h2⟩ := exists_max (ls := b :: r) (by simp)
    by_cases h : a ≤ m
    · exact ⟨m, List.mem_cons_of_mem _ h1, fun l hl => by rcases List.mem_cons.mp hl with rfl | q; exact h; exact h2 l q⟩
    · exact ⟨a, List.mem_cons_self .., fun l hl => by rcases List.mem_cons.mp hl with rfl | q; exact Nat.le_refl _; have := h2 l q; omega⟩
/-- one of a length made shorter by one -/
theorem shorter : ∀ {cs : List Int} {ls : List Nat} {m : Nat} (D : Nat), m + 1 ∈ ls → m + 1 ≤ D → (∀ c ∈ cs, 0 ≤ c) → cs.length = ls.length → ∃ ls', ls'.length = ls.length ∧ (∀ l ∈ ls', l = m ∨ l ∈ ls) ∧ room D ls' = room D ls + 2 ^ (D - (m + 1)) ∧ costZ cs ls' ≤ costZ cs ls ∧ ¬ lexle ls ls'
  | c :: cs, l :: ls, m, D, hm, hD, hc, hl => by
    by_cases e : l = m + 1
    · subst e
      refine ⟨m :: ls, rfl, fun x hx => ?_, ?_, ?_, ?_⟩
      · rcases List.mem_cons.mp hx with rfl | q
        · exact .inl rfl
        · exact .inr (List.mem_cons_of_mem _ q)
      · rw [room_cons, room_cons]
        have : D - m = D - (m + 1) + 1 := by omega
        rw [this, Nat.pow_succ]; omega
      · have h0 := hc c (List.mem_cons_self ..)
        show c * (m : Int) + _ ≤ c * ((m + 1 : Nat) : Int) + _
        rw [show ((m + 1 : Nat) : Int) = (m : Int) + 1 from rfl, Int.mul_add]
        omega
      · rintro (h | ⟨h, _⟩) <;> omega
    · have hm' : m + 1 ∈ ls := by
        rcases List.mem_cons.mp hm with q | q
        · exact absurd q.symm e
        · exact q
      obtain ⟨ls', h1, h2, h3, h4, h5⟩ := shorter D hm' hD (fun x hx => hc x (List.mem_cons_of_mem _ hx)) (by simpa using hl)
      refine ⟨l :: ls', by simp [h1], fun x hx => ?_, ?_, ?_, ?_⟩
      · rcases List.mem_cons.mp hx with rfl | q
        · exact .inr (List.mem_cons_self ..)
        · rcases h2 x q with z | z
          · exact .inl z
          · exact .inr (List.mem_cons_of_mem _ z)
      · rw [room_cons, room_cons, h3]; omega
      · show c * (l : Int) + _ ≤ c * (l : Int) + _
        omega
      · rintro (h | ⟨_, h⟩)
        · omega
        · exact h5 h
  | [], l :: ls, _, _, _, _, _, hl => by simp at hl
  | _, [], _, _, hm, _, _, _ => nomatch hm
theorem best_deep {D : Nat} {cs : List Int} {L : List Nat} (h : Best D (2 ^ D) cs L) (hn : 2 ≤ cs.length) (hc : ∀ c ∈ cs, 0 ≤ c) : ∀ l ∈ L, l ≤ cs.length - 1 := by
  obtain ⟨⟨h1, h2, h3⟩, h4⟩ := h
  obtain ⟨m, hm, hmx⟩ := exists_max (ls := L) fun e => by rw [e] at h1; simp at h1; omega
  have hmD := (h2 m hm).2
  by_cases hbad : m ≤ cs.length - 1
  · exact fun l hl => Nat.le_trans (hmx l hl) hbad
  · exfalso
    have hs := room_scale hmD hmx
    have hle : room m L ≤ 2 ^ m := by
      have hp : 2 ^ (D - m) * 2 ^ m = 2 ^ D := by rw [← Nat.pow_add]; congr 1; omega
      rw [hs, ← hp] at h3
      exact Nat.le_of_mul_le_mul_left h3 (Nat.pow_pos (by decide))
    rcases Nat.lt_or_eq_of_le hle with hlt | heq
    · obtain ⟨k, rfl⟩ : ∃ k, m = k + 1 := ⟨m - 1, by omega⟩
      obtain ⟨L', a1, a2, a3, a4, a5⟩ := shorter D hm hmD hc h1.symm
      have hfit : Ok D cs.length (2 ^ D) L' := by
        refine ⟨by rw [a1, h1], fun l hl => ?_, ?_⟩
        · rcases a2 l hl with rfl | q
          · omega
          · exact h2 l q
        · rw [a3, hs]
          have hp : 2 ^ (D - (k + 1)) * 2 ^ (k + 1) = 2 ^ D := by rw [← Nat.pow_add]; congr 1; omega
          rw [← hp]
          have := Nat.mul_le_mul_left (2 ^ (D - (k + 1))) hlt
          rw [Nat.mul_succ] at this
          exact this
      rcases h4 L' hfit with q | ⟨_, q⟩
      · omega
      · exact a5 q
    · have := full_deep m L hmx hm heq
      omega
/-- the depth doesn't matter -/
theorem best_depth {D E : Nat} {cs : List Int} {L L' : List Nat} (h : Best D (2 ^ D) cs L) (h' : Best E (2 ^ E) cs L') (hn : 2 ≤ cs.length) (hD : cs.length - 1 ≤ D) (hE : cs.length - 1 ≤ E) (hc : ∀ c ∈ cs, 0 ≤ c) : L = L' := by
  have d := best_deep h hn hc
  have d' := best_deep h' hn hc
  have o : Ok E cs.length (2 ^ E) L := ok_depth (fun l hl => Nat.le_trans (d l hl) hD) (fun l hl => Nat.le_trans (d l hl) hE) h.1
  have o' : Ok D cs.length (2 ^ D) L' := ok_depth (fun l hl => Nat.le_trans (d' l hl) hE) (fun l hl => Nat.le_trans (d' l hl) hD) h'.1
  rcases h.2 L' o' with a | ⟨a, b⟩ <;> rcases h'.2 L o with c | ⟨c, e⟩
  · omega
  · omega
  · omega
  · exact lexle_antisymm (by rw [h.1.1, h'.1.1]) b e
/-! ### choice by choice -/
/-- the cheapest of some ways to begin -/
def stepO (f : Nat → Option Int) : Nat → Option Int
  | 0 => none
  | i + 1 => match f (i + 1) with
    | none => stepO f i
    | some v => match stepO f i with
      | none => some v
      | some g => if v < g then some v else some g
/-- the least cost in some room -/
def opt (D : Nat) : List Int → Nat → Option Int
  | [], _ => some 0
  | c :: cs, R => stepO (fun m => if 2 ^ (D - m) ≤ R then (opt D cs (R - 2 ^ (D - m))).map (c * (m : Int) + ·) else none) D
theorem stepO_none {f : Nat → Option Int} : ∀ {n : Nat}, stepO f n = none → ∀ m, 1 ≤ m → m ≤ n → f m = none
  | 0, _, m, h1, h2 => by omega
  | n + 1, h, m, h1, h2 => by
    unfold stepO at h
    cases e : f (n + 1) with
    | some v => rw [e] at h; dsimp only at h; split at h <;> first | cases h | (split at h <;> cases h)
    | none =>
      rw [e] at h
      by_cases q : m = n + 1
      · rw [q, e]
      · exact stepO_none h m h1 (by omega)
theorem stepO_some {f : Nat → Option Int} : ∀ {n : Nat} {v : Int}, stepO f n = some v → (∃ m, 1 ≤ m ∧ m ≤ n ∧ f m = some v) ∧ ∀ m, 1 ≤ m → m ≤ n → ∀ u, f m = some u → v ≤ u
  | 0, _, h => nomatch h
  | n + 1, v, h => by
    unfold stepO at h
    cases e : f (n + 1) with
    | none =>
      rw [e] at h
      obtain ⟨⟨m, a, b, c⟩, d⟩ := stepO_some h
      refine ⟨⟨m, a, by omega, c⟩, fun k k1 k2 u hu => ?_⟩
      by_cases q : k = n + 1
      · rw [q, e] at hu; cases hu
      · exact d k k1 (by omega) u hu
    | some w =>
      rw [e] at h
      dsimp only at h
      cases g : stepO f n with
      | none =>
        rw [g] at h
        cases h
        refine ⟨⟨n + 1, by omega, by omega, e⟩, fun k k1 k2 u hu => ?_⟩
        by_cases q : k = n + 1
        · rw [q, e] at hu; cases hu; exact Int.le_refl _
        · rw [stepO_none g k k1 (by omega)] at hu; cases hu
      | some y =>
        rw [g] at h
        dsimp only at h
        obtain ⟨⟨m, a, b, c⟩, d⟩ := stepO_some g
        split at h
        · cases h
          refine ⟨⟨n + 1, by omega, by omega, e⟩, fun k k1 k2 u hu => ?_⟩
          by_cases q : k = n + 1
          · rw [q, e] at hu; cases hu; exact Int.le_refl _
          · have := d k k1 (by omega) u hu; omega
        · cases h
          refine ⟨⟨m, a, by omega, c⟩, fun k k1 k2 u hu => ?_⟩
          by_cases q : k = n + 1
          · rw [q, e] at hu; cases hu; omega
          · exact d k k1 (by omega) u hu
theorem ok_cons {D n R l : Nat} {ls : List Nat} : Ok D (n + 1) R (l :: ls) ↔ (1 ≤ l ∧ l ≤ D) ∧ 2 ^ (D - l) ≤ R ∧ Ok D n (R - 2 ^ (D - l)) ls := by
  unfold Ok
  rw [room_cons]
  simp only [List.length_cons, List.mem_cons, forall_eq_or_imp]
  constructor
  · rintro ⟨a, ⟨b, c⟩, d⟩; exact ⟨b, by omega, by omega, c, by omega⟩
  · rintro ⟨b, d, a, c, e⟩; exact ⟨by omega, ⟨b, c⟩, by omega⟩
/-- what opt tells -/
theorem opt_ok (D : Nat) : ∀ (cs : List Int) (R : Nat), match opt D cs R with
    | none => ∀ ls, ¬ Ok D cs.length R ls
    | some v => (∃ ls, Ok D cs.length R ls ∧ costZ cs ls = v) ∧ ∀ ls, Ok D cs.length R ls → v ≤ costZ cs ls
  | [], R => by
    show (∃ ls, Ok D 0 R ls ∧ costZ [] ls = 0) ∧ _
    refine ⟨⟨[], ⟨rfl, by simp, by simp [room]⟩, rfl⟩, fun ls h => ?_⟩
    have : ls = [] := List.eq_nil_of_length_eq_zero h.1
    rw [this]; exact Int.le_refl _
  | c :: cs, R => by
    have ih := opt_ok D cs
    cases e : opt D (c :: cs) R with
    | none =>
      intro ls h
      match ls, h with
      | [], h => have := h.1; simp at this
      | l :: ls, h =>
        obtain ⟨⟨a1, a2⟩, b, o⟩ := ok_cons.mp h
        have := stepO_none e l a1 a2
        rw [if_pos b] at this
        have i := ih (R - 2 ^ (D - l))
        cases q : opt D cs (R - 2 ^ (D - l)) with
        | none => rw [q] at i; exact i ls o
        | some v => rw [q] at this; cases this
    | some v =>
      obtain ⟨⟨m, m1, m2, m3⟩, mn⟩ := stepO_some e
      refine ⟨?_, fun ls h => ?_⟩
      · split at m3
        · rename_i hb
          have i := ih (R - 2 ^ (D - m))
          cases q : opt D cs (R - 2 ^ (D - m)) with
          | none => rw [q] at m3; cases m3
          | some w =>
            rw [q] at m3 i
            cases m3
            obtain ⟨⟨ls, o, ec⟩, _⟩ := i
            exact ⟨m :: ls, ok_cons.mpr ⟨⟨m1, m2⟩, hb, o⟩, by show c * (m : Int) + costZ cs ls = _; rw [ec]⟩
        · cases m3
      · match ls, h with
        | [], h => have := h.1; simp at this
        | l :: ls, h =>
          obtain ⟨⟨a1, a2⟩, b, o⟩ := ok_cons.mp h
          have i := ih (R - 2 ^ (D - l))
          cases q : opt D cs (R - 2 ^ (D - l)) with
          | none => rw [q] at i; exact absurd o (i ls)
          | some w =>
            rw [q] at i
            have := mn l a1 a2 (c * (l : Int) + w) (by rw [if_pos b, q]; rfl)
            have := i.2 ls o
            show v ≤ c * (l : Int) + costZ cs ls
            omega
/-- a tuple that is picked choice by choice: each time the least length that still costs least -/
def Picked (D : Nat) : List Int → Nat → List Nat → Prop
  | [], _, ls => ls = []
  | c :: cs, R, ls => ∃ m r, ls = m :: r ∧ (1 ≤ m ∧ m ≤ D) ∧ 2 ^ (D - m) ≤ R ∧ (opt D cs (R - 2 ^ (D - m))).map (c * (m : Int) + ·) = opt D (c :: cs) R ∧
      (∀ k, 1 ≤ k → k < m → 2 ^ (D - k) ≤ R → (opt D cs (R - 2 ^ (D - k))).map (c * (k : Int) + ·) ≠ opt D (c :: cs) R) ∧ Picked D cs (R - 2 ^ (D - m)) r
theorem picked_best {D : Nat} : ∀ {cs : List Int} {R : Nat} {L : List Nat}, (opt D cs R).isSome = true → Picked D cs R L → Best D R cs L ∧ opt D cs R = some (costZ cs L)
  | [], R, L, _, h => by
    have h' : L = [] := h
    subst h'
    refine ⟨⟨⟨rfl, by simp, by simp [room]⟩, fun ls o => .inr ⟨?_, trivial⟩⟩, rfl⟩
    have : ls = [] := List.eq_nil_of_length_eq_zero o.1
    rw [this]
  | c :: cs, R, L, hs, h => by
    obtain ⟨m, r, rfl, ⟨m1, m2⟩, hb, he, hno, hr⟩ := h
    obtain ⟨v, hv⟩ := Option.isSome_iff_exists.mp hs
    have he' := he
    rw [hv] at he
    obtain ⟨w, hw, hwv⟩ := Option.map_eq_some_iff.mp he
    obtain ⟨ib, ie⟩ := picked_best (by rw [hw]; rfl) hr
    have hcost : v = costZ (c :: cs) (m :: r) := by
      show v = c * (m : Int) + costZ cs r
      rw [hw] at ie
      have : w = costZ cs r := Option.some.inj ie
      rw [← this, ← hwv]
    have o1 := opt_ok D (c :: cs) R
    rw [hv] at o1
    refine ⟨⟨ok_cons.mpr ⟨⟨m1, m2⟩, hb, ib.1⟩, fun ls o => ?_⟩, by rw [hv, hcost]⟩
    rw [← hcost]
    rcases Int.lt_or_eq_of_le (o1.2 ls o) with q | q
    · exact .inl q
    · refine .inr ⟨q, ?_⟩
      match ls, o with
      | [], o => have := o.1; simp at this
      | l :: ls, o =>
        obtain ⟨⟨a1, a2⟩, b, ol⟩ := ok_cons.mp o
        have q' : v = c * (l : Int) + costZ cs ls := q
        have o2 := opt_ok D cs (R - 2 ^ (D - l))
        cases e : opt D cs (R - 2 ^ (D - l)) with
        | none => rw [e] at o2; exact absurd ol (o2 ls)
        | some u =>
          rw [e] at o2
          have u1 := o2.2 ls ol
          obtain ⟨lu, ou, eu⟩ := o2.1
          have u2 := o1.2 (l :: lu) (ok_cons.mpr ⟨⟨a1, a2⟩, b, ou⟩)
          have u2' : v ≤ c * (l : Int) + costZ cs lu := u2
          have hu : u = costZ cs ls := by omega
          have ach : (opt D cs (R - 2 ^ (D - l))).map (c * (l : Int) + ·) = opt D (c :: cs) R := by
            rw [e, hv]
            show some (c * (l : Int) + u) = some v
            congr 1
            omega
          rcases Nat.lt_trichotomy m l with z | z | z
          · exact .inl z
          · subst z
            refine .inr ⟨rfl, ?_⟩
            rcases ib.2 ls ol with y | ⟨_, y⟩
            · rw [hw] at e
              have : w = u := Option.some.inj e
              have h4 : w = costZ cs r := by rw [hw] at ie; exact Option.some.inj ie
              omega
            · exact y
          · exact absurd ach (hno l a1 z b)
/-- enough room for all -/
theorem opt_some {D : Nat} (h1 : 1 ≤ D) : ∀ (cs : List Int) (R : Nat), cs.length ≤ R → (opt D cs R).isSome = true := fun cs R h => by
  have := opt_ok D cs R
  cases e : opt D cs R with
  | some v => rfl
  | none =>
    rw [e] at this
    refine absurd ⟨List.length_replicate (n := cs.length) (a := D), fun l hl => ?_, ?_⟩ (this (List.replicate cs.length D))
    · rw [(List.mem_replicate.mp hl).2]; exact ⟨h1, Nat.le_refl _⟩
    · unfold room
      rw [List.map_replicate, Nat.sub_self, Nat.pow_zero, List.sum_replicate_nat, Nat.mul_one]
      exact h
end Fi
set_option Elab.async false
set_option linter.all false
set_option maxRecDepth 100000
set_option maxHeartbeats 1000000
namespace H41
open PySem PySem.Spec PyProof.Rows L2 DL
/-! ### the program's reckoning is the plain one -/
def begF (cs : List Int) (c : Int) (R m : Nat) : Option Int := if 2 ^ (8 - m) ≤ R then (Fi.opt 8 cs (R - 2 ^ (8 - m))).map (c * (m : Int) + ·) else none
theorem pow_cast (k : Nat) : ((2 : Int) ^ k) = ((2 ^ k : Nat) : Int) := by simp
theorem rest_nat {nxt : CRow} {cs : List Int} (h : ∀ k, k ≤ 256 → nxt[k]? = some (Fi.opt 8 cs k)) {R m : Nat} (hR : R ≤ 256) : restF nxt ((R : Nat) - 2 ^ (8 - m)) = if 2 ^ (8 - m) ≤ R then Fi.opt 8 cs (R - 2 ^ (8 - m)) else none := by
  unfold restF
  rw [pow_cast]
  by_cases hb : 2 ^ (8 - m) ≤ R
  · have h1 : (0 : Int) ≤ (R : Nat) - ((2 ^ (8 - m) : Nat) : Int) := by omega
    have h2 : ((R : Nat) - ((2 ^ (8 - m) : Nat) : Int) : Int).toNat = R - 2 ^ (8 - m) := by omega
    rw [if_pos h1, if_pos hb, h2, h _ (Nat.le_trans (Nat.sub_le ..) hR)]
    rfl
  · rw [if_neg (by omega), if_neg hb]
theorem cheap_step {nxt : CRow} {cs : List Int} (h : ∀ k, k ≤ 256 → nxt[k]? = some (Fi.opt 8 cs k)) {c : Int} {R : Nat} (hR : R ≤ 256) : ∀ i, cheapN nxt c (R : Nat) i = Fi.stepO (begF cs c R) i
  | 0 => rfl
  | i + 1 => by
    show stepC nxt c (R : Nat) (cheapN nxt c (R : Nat) i) (i + 1) = _
    rw [cheap_step h hR i]
    have e : Fi.stepO (begF cs c R) (i + 1) = (match begF cs c R (i + 1) with
      | none => Fi.stepO (begF cs c R) i
      | some v => match Fi.stepO (begF cs c R) i with
        | none => some v
        | some g => if v < g then some v else some g) := rfl
    rw [e]
    generalize Fi.stepO (begF cs c R) i = g
    unfold stepC
    rw [rest_nat h hR]
    unfold begF
    by_cases hb : 2 ^ (8 - (i + 1)) ≤ R
    · rw [if_pos hb, if_pos hb]
      cases Fi.opt 8 cs (R - 2 ^ (8 - (i + 1))) with
      | none => rfl
      | some v => rfl
    · rw [if_neg hb, if_neg hb]
theorem nxt_opt : ∀ (cs : List Int) (k : Nat), k ≤ 256 → (nxtF cs)[k]? = some (Fi.opt 8 cs k)
  | [], k, hk => by
    show lastRow[k]? = some (some 0)
    unfold lastRow
    rw [List.getElem?_replicate, if_pos (by omega)]
  | c :: cs, k, hk => by
    show (newRow (nxtF cs) c)[k]? = _
    unfold newRow
    rw [List.getElem?_map, List.getElem?_range (by omega)]
    show some (cheapF (nxtF cs) c (k : Nat)) = _
    unfold cheapF
    rw [cheap_step (nxt_opt cs) hk]
    rfl
theorem least_picked : ∀ (cs : List Int) (R : Nat), R ≤ 256 → (Fi.opt 8 cs R).isSome = true → Fi.Picked 8 cs R (leastF cs (R : Nat))
  | [], R, _, _ => rfl
  | c :: cs, R, hR, hs => by
    obtain ⟨v, hv⟩ := Option.isSome_iff_exists.mp hs
    have hch : cheapF (nxtF cs) c (R : Nat) = some v := by
      unfold cheapF
      rw [cheap_step (nxt_opt cs) hR]
      exact hv
    have okE : ∀ m, okAt (nxtF cs) c (R : Nat) m = decide (begF cs c R m = some v) := fun m => by
      unfold okAt
      rw [rest_nat (nxt_opt cs) hR, hch]
      unfold begF
      by_cases hb : 2 ^ (8 - m) ≤ R
      · rw [if_pos hb, if_pos hb]
        cases Fi.opt 8 cs (R - 2 ^ (8 - m)) with
        | none => simp
        | some w => simp
      · rw [if_neg hb, if_neg hb]; simp
    obtain ⟨⟨m0, a1, a2, a3⟩, _⟩ := Fi.stepO_some (f := begF cs c R) hv
    have hp : ∃ m, ((List.range 8).map (· + 1)).find? (okAt (nxtF cs) c (R : Nat)) = some m := by
      cases e : ((List.range 8).map (· + 1)).find? (okAt (nxtF cs) c (R : Nat)) with
      | some m => exact ⟨m, rfl⟩
      | none =>
        have := List.find?_eq_none.mp e m0 (List.mem_map.mpr ⟨m0 - 1, by rw [List.mem_range]; omega, by omega⟩)
        rw [okE, a3] at this
        simp at this
    obtain ⟨m, hm⟩ := hp
    have epick : pickF (nxtF cs) c (R : Nat) = m := by unfold pickF; rw [hm]; rfl
    rw [List.find?_eq_some_iff_getElem] at hm
    obtain ⟨ok, i, hi, ei, no⟩ := hm
    have hi8 : i < 8 := by simpa using hi
    have em : m = i + 1 := by rw [← ei]; simp
    rw [okE] at ok
    have ok' : begF cs c R m = some v := of_decide_eq_true ok
    have hb : 2 ^ (8 - m) ≤ R := by
      unfold begF at ok'
      split at ok'
      · assumption
      · cases ok'
    have ok2 : (Fi.opt 8 cs (R - 2 ^ (8 - m))).map (c * (m : Int) + ·) = some v := by
      unfold begF at ok'
      rw [if_pos hb] at ok'; exact ok'
    have er : ((R : Nat) : Int) - 2 ^ (8 - m) = ((R - 2 ^ (8 - m) : Nat) : Int) := by rw [pow_cast]; omega
    refine ⟨m, leastF cs ((R - 2 ^ (8 - m) : Nat) : Int), ?_, by omega, hb, by rw [ok2, hv], fun k k1 k2 kb e => ?_, least_picked cs _ (Nat.le_trans (Nat.sub_le ..) hR) ?_⟩
    · show pickF (nxtF cs) c (R : Nat) :: leastF cs ((R : Nat) - 2 ^ (8 - pickF (nxtF cs) c (R : Nat))) = _
      rw [epick, er]
    · have := no (k - 1) (by omega)
      have e2 : ((List.range 8).map (· + 1))[k - 1]'(by simp; omega) = k := by simp; omega
      rw [e2, okE] at this
      have e3 : begF cs c R k = some v := by unfold begF; rw [if_pos kb, e, hv]
      rw [e3] at this
      simp at this
    · obtain ⟨w, hw, _⟩ := Option.map_eq_some_iff.mp ok2
      rw [hw]; rfl
/-- the program's lengths are the least of the cheapest -/
theorem least_best {cs : List Int} (h : cs.length ≤ 256) : Fi.Best 8 256 cs (leastF cs 256) :=
  (Fi.picked_best (Fi.opt_some (by decide) cs 256 h) (least_picked cs 256 (by decide) (Fi.opt_some (by decide) cs 256 h))).1
theorem least_by {cs : List Int} {D : Nat} {L : List Nat} (h : Fi.Best D (2 ^ D) cs L) (h2 : 2 ≤ cs.length) (h9 : cs.length ≤ 9) (hD : cs.length - 1 ≤ D) (hc : ∀ c ∈ cs, 0 ≤ c) : leastF cs 256 = L :=
  Fi.best_depth (D := 8) (least_best (by omega)) h h2 (by omega) hD hc
end H41
set_option Elab.async false
set_option linter.all false
set_option maxRecDepth 100000
set_option maxHeartbeats 1000000
namespace H41
open PySem PySem.Spec PyProof.Rows L2 DL
/-! ### equal data without objects -/
def sp_no : SpD := fun _ _ _ _ => False
def sp_eq (k : Nat) : SpD := fun ds M Q _ => match ds with
  | [d, e] => d = e ∧ plD k d = true ∧ (∀ xs, d = .tup xs → Kw M d) ∧ Q (.bl true) M
  | _ => False
theorem plD_up : ∀ (n : Nat) (d : D), plD n d = true → plD (n + 1) d = true := by
  intro n
  induction n with
  | zero => intro d h; cases h
  | succ n ih =>
    intro d h
    cases d with
    | tup xs =>
      have h' : xs.all (plD n) = true := h
      show xs.all (plD (n + 1)) = true
      rw [List.all_eq_true] at h' ⊢
      exact fun x hx => ih x (h' x hx)
    | _ => exact h
theorem plD_le {n m : Nat} (h : n ≤ m) {d : D} (k : plD n d = true) : plD m d = true := by
  obtain ⟨j, rfl⟩ : ∃ j, m = n + j := ⟨m - n, by omega⟩
  clear h
  induction j with
  | zero => exact k
  | succ j ih => exact plD_up _ _ ih
mutual
theorem eqv_self : ∀ p : PyData, p.canLay0 = true → PyData.eqv p p = true
  | .none, _ => by simp [PyData.eqv]
  | .bool b, _ => by simp [PyData.eqv]
  | .int b, _ => by simp [PyData.eqv]
  | .str b, _ => by simp [PyData.eqv]
  | .list xs, h => by simp only [PyData.eqv]; exact eqv_selfs xs (by simpa [PyData.canLay0] using h)
  | .tuple xs, h => by simp only [PyData.eqv]; exact eqv_selfs xs (by simpa [PyData.canLay0] using h)
  | .dict _, h => by simp [PyData.canLay0] at h
theorem eqv_selfs : ∀ ps : List PyData, PyData.canLayAll0 ps = true → PyData.eqvAll ps ps = true
  | [], _ => by simp [PyData.eqvAll]
  | p :: ps, h => by
    rw [PyData.canLayAll0, Bool.and_eq_true] at h
    simp only [PyData.eqvAll, eqv_self p h.1, eqv_selfs ps h.2, Bool.and_self]
end
theorem h__law_is (k j : Nat) : ∀ ds M Q0 E0, sp_eq (j + 1) ds M Q0 E0 → ds.length = 2 ∧ wpSs ⟨[C__law_is k (sp_eq j)], sub, fdOf cf⟩ (wF E0) none m__law_is (endsF Q0) (startD N__law_is.length ds) M := by
  intro ds M Q0 E0 h
  unfold sp_eq at h
  split at h
  · rename_i d e
    obtain ⟨rfl, hp, hk, hq⟩ := h
    refine ⟨rfl, ?_⟩
    unfold m__law_is
    refine wp_cons ?_
    show DL.wpS _ _ _ _ _ [some d, some d, none] M
    have kd : kn M d = true := by
      cases d with
      | obj a => cases hp
      | _ => rfl
    have pp0 : (∀ xs, d ≠ .tup xs) → plD 59 d = true := fun hn => by
      cases d with
      | tup xs => exact absurd rfl (hn xs)
      | obj a => cases hp
      | _ => exact hp
    (try simp only [DL.wpS, DL.wpE, DL.wpA, wpT, wpTs, wpBo, DL.wpI, wpIf, wpTg, wpTgs, optI, List.getElem?_cons_zero, List.getElem?_cons_succ, List.set_cons_succ, List.set_cons_zero, vTru, cmpS, vIsK, vLt, vLe, vGt, vGe, vOrd, DL.isNon, addE, subE, biS, rdS, rdL_new, Bool.not_true, Bool.not_false, if_true, if_false, Bool.false_eq_true, Bool.true_eq_false, reduceIte, true_and, and_true, decide_true, decide_false, vGet_0, vGet_1, slcT, addT, isit_tl kd])
    cases d with
    | tup xs =>
      have kt := hk xs rfl
      obtain ⟨hl, hx⟩ := kt.tup'
      simp only [isTp, Bool.true_or, if_true]
      refine wp_cons ?_
      (try simp only [DL.wpS, DL.wpE, DL.wpA, wpT, wpTs, wpBo, DL.wpI, wpIf, wpTg, wpTgs, optI, List.getElem?_cons_zero, List.getElem?_cons_succ, List.set_cons_succ, List.set_cons_zero, vTru, cmpS, vIsK, vLt, vLe, vGt, vGe, vOrd, DL.isNon, addE, subE, biS, rdS, rdL_new, Bool.not_true, Bool.not_false, if_true, if_false, Bool.false_eq_true, Bool.true_eq_false, reduceIte, true_and, and_true, decide_true, decide_false, vGet_0, vGet_1, slcT, addT, isi_tup kd, isi_list kd, isTp, isL, vEqK])
      refine wp_nil ?_
      refine wp_last ?_
      (try simp only [DL.wpS, DL.wpE, DL.wpA, wpT, wpTs, wpBo, DL.wpI, wpIf, wpTg, wpTgs, optI, List.getElem?_cons_zero, List.getElem?_cons_succ, List.set_cons_succ, List.set_cons_zero, vTru, cmpS, vIsK, vLt, vLe, vGt, vGe, vOrd, DL.isNon, addE, subE, biS, rdS, rdL_new, Bool.not_true, Bool.not_false, if_true, if_false, Bool.false_eq_true, Bool.true_eq_false, reduceIte, true_and, and_true, decide_true, decide_false, vGet_0, vGet_1, slcT, addT, vEqK, rngOf])
      refine ⟨by omega, by omega, ?_⟩
      refine lc_map (fun _ => .bl true) trivial _ _ (by simp [big]; omega) (fun d hd K1 h1 => ?_) fun p hp' => ?_
      · obtain ⟨i, hi, rfl⟩ := List.mem_map.mp hd
        have hil : i < xs.length := by simpa using hi
        have hx' : xs[i]? = some xs[i] := List.getElem?_eq_getElem hil
        have hm := List.mem_of_getElem? hx'
        generalize xs[i] = x at hx' hm
        simp only [wipeD, List.map_cons, List.map_nil]
        (try simp only [DL.wpS, DL.wpE, DL.wpA, wpT, wpTs, wpBo, DL.wpI, wpIf, wpTg, wpTgs, optI, List.getElem?_cons_zero, List.getElem?_cons_succ, List.set_cons_succ, List.set_cons_zero, vTru, cmpS, vIsK, vLt, vLe, vGt, vGe, vOrd, DL.isNon, addE, subE, biS, rdS, rdL_new, Bool.not_true, Bool.not_false, if_true, if_false, Bool.false_eq_true, Bool.true_eq_false, reduceIte, true_and, and_true, decide_true, decide_false, vGet_0, vGet_1, slcT, addT, vGet_tup hx'])
        have hp2 : xs.all (plD j) = true := hp
        exact ⟨rfl, List.all_eq_true.mp hp2 x hm, fun ys _ => hx x hm, h1⟩
      · simp only [biS, rdL_new, mapM_asBl]
        refine rt_of (M' := M) ?_ (Sub.new hp')
        have : ((List.map (fun k : Nat => D.int (k : Nat)) (List.range (xs.length : Int).toNat)).map fun _ : D => true).all id = true := by simp
        rw [this]; exact hq
    | obj a => cases hp
    | _ =>
      simp only [isTp, isL, Bool.or_self, Bool.false_eq_true, if_false]
      refine wp_nil ?_
      refine wp_last ?_
      have pp := pp0 (fun _ h => nomatch h)
      have ee : eqX _ _ = true := eqv_self _ (toP_pl _ M _ hp).2
      (try simp only [DL.wpS, DL.wpE, DL.wpA, wpT, wpTs, wpBo, DL.wpI, wpIf, wpTg, wpTgs, optI, List.getElem?_cons_zero, List.getElem?_cons_succ, List.set_cons_succ, List.set_cons_zero, vTru, cmpS, vIsK, vLt, vLe, vGt, vGe, vOrd, DL.isNon, addE, subE, biS, rdS, rdL_new, Bool.not_true, Bool.not_false, if_true, if_false, Bool.false_eq_true, Bool.true_eq_false, reduceIte, true_and, and_true, decide_true, decide_false, vGet_0, vGet_1, slcT, addT, isi_bool kd, isB, vEqK, vEq_pl pp pp, ee])
      first
      | exact rt_of hq Sub.rfl'
      | (simp; exact rt_of hq Sub.rfl')
  · exact h.elim
end H41
set_option Elab.async false
set_option linter.all false
set_option maxRecDepth 100000
set_option maxHeartbeats 1000000
namespace H41
open PySem PySem.Spec PyProof.Rows L2 DL
/-! ### choices -/
def chD (n : Nat) (r : Row) : List D := ((thereL n r).map fun k : Nat => D.int (k : Nat)) ++ if r.1 = true then [D.int (n : Nat)] else []
def sp_choices : SpD := fun ds M Q _ => match ds with
  | [s, .int st] => ∃ (n : Nat) (rs : List Row) (k : Nat) (r : Row), s = encShape n rs ∧ ShOk n rs ∧ st = (k : Nat) ∧ rs[k]? = some r ∧ ∀ q, M q = none → Q (.obj q) (mup M q (.lst (chD n r)))
  | _ => False
theorem there_len (n : Nat) (r : Row) : (thereL n r).length ≤ n := by
  unfold thereL
  have := List.length_filter_le (fun l => ((r.2[l]?).join).isSome) (List.range n)
  rw [List.length_range] at this
  exact this
theorem h__law_choices : ∀ ds M Q0 E0, sp_choices ds M Q0 E0 → ds.length = 2 ∧ wpSs ⟨[], sub, fdOf cf⟩ (wF E0) none m__law_choices (endsF Q0) (startD N__law_choices.length ds) M := by
  intro ds M Q0 E0 hh
  unfold sp_choices at hh
  split at hh
  · rename_i s st
    obtain ⟨n, rs, k, row, rfl, hS, rfl, f1, hq⟩ := hh
    refine ⟨rfl, ?_⟩
    have n8 := hS.n8
    have hlen := hS.len _ (List.mem_of_getElem? f1)
    unfold m__law_choices
    refine wp_cons ?_
    show DL.wpS _ _ _ _ _ [some (encShape n rs), some (.int (k : Nat)), none, none, none] M
    (try simp only [DL.wpS, DL.wpE, DL.wpA, wpT, wpTs, wpBo, DL.wpI, wpIf, wpTg, wpTgs, optI, List.getElem?_cons_zero, List.getElem?_cons_succ, List.set_cons_succ, List.set_cons_zero, vTru, cmpS, vIsK, vLt, vLe, vGt, vGe, vOrd, DL.isNon, addE, subE, biS, rdS, rdL_new, Bool.not_true, Bool.not_false, if_true, if_false, Bool.false_eq_true, Bool.true_eq_false, reduceIte, true_and, and_true, decide_true, decide_false, vGet_0, vGet_1, slcT, addT, encShape, vGet_tup (enc_row f1), encRow])
    refine wp_last ?_
    (try simp only [DL.wpS, DL.wpE, DL.wpA, wpT, wpTs, wpBo, DL.wpI, wpIf, wpTg, wpTgs, optI, List.getElem?_cons_zero, List.getElem?_cons_succ, List.set_cons_succ, List.set_cons_zero, vTru, cmpS, vIsK, vLt, vLe, vGt, vGe, vOrd, DL.isNon, addE, subE, biS, rdS, rdL_new, Bool.not_true, Bool.not_false, if_true, if_false, Bool.false_eq_true, Bool.true_eq_false, reduceIte, true_and, and_true, decide_true, decide_false, vGet_0, vGet_1, slcT, addT, encShape, rngOf])
    refine ⟨by omega, by omega, ?_⟩
    refine lc_pure (fun d => d) (gT row) trivial _ [] _ ?_ (fun d hd K1 K2 h1 h2 => ?_) ?_
    · simp [big]; omega
    · obtain ⟨l, hl', rfl⟩ := List.mem_map.mp hd
      have hln : l < n := by simpa using hl'
      simp only [wipeD, List.map_cons, List.map_nil]
      have e2 : row.2[l]? = some (row.2[l]'(by omega)) := List.getElem?_eq_getElem (by omega)
      generalize row.2[l]'(by omega) = o at e2
      (try simp only [DL.wpS, DL.wpE, DL.wpA, wpT, wpTs, wpBo, DL.wpI, wpIf, wpTg, wpTgs, optI, List.getElem?_cons_zero, List.getElem?_cons_succ, List.set_cons_succ, List.set_cons_zero, vTru, cmpS, vIsK, vLt, vLe, vGt, vGe, vOrd, DL.isNon, addE, subE, biS, rdS, rdL_new, Bool.not_true, Bool.not_false, if_true, if_false, Bool.false_eq_true, Bool.true_eq_false, reduceIte, true_and, and_true, decide_true, decide_false, vGet_0, vGet_1, slcT, addT, vGet_tup (enc_step e2)])
      have eg : gT row (.int (l : Nat)) = o.isSome := by simp [gT, e2]
      rw [eg] at h1 h2
      cases o with
      | none => simp only [encStep, DL.isNon, Bool.not_true, Bool.false_eq_true, if_false]; exact h2 rfl
      | some o => simp only [encStep, DL.isNon, Bool.not_false, if_true]; exact h1 rfl
    · rw [List.nil_append, there_eq]
      have htl := there_len n row
      intro p1 hp1
      have fin : ∀ (p2 : Addr) (ys : List D), ys.length ≤ 1 → ((thereL n row).map fun k : Nat => D.int (k : Nat)) ++ ys = chD n row → mup M p1 (.lst ((thereL n row).map fun k : Nat => D.int (k : Nat))) p2 = none → binS .Add (.obj p1) (.obj p2) (mup (mup M p1 (.lst ((thereL n row).map fun k : Nat => D.int (k : Nat)))) p2 (.lst ys)) (endsF Q0).rt := fun p2 ys hy e hp2 => by
        rw [addL (a := p1) (b := p2) (get_up mup_same hp2) mup_same]
        refine ⟨by simp [big]; omega, fun q hq' => ?_⟩
        have h1 := (mup_none (mup_none hq').2).2
        rw [e]
        refine rt_of (hq q h1) (sub_mup ((Sub.new hp1).trans (Sub.new hp2)))
      cases hb : row.1 with
      | true =>
        simp only [if_true]
        intro p2 hp2
        exact fin p2 _ (by simp) (by simp [chD, hb]) hp2
      | false =>
        simp only [Bool.false_eq_true, if_false]
        intro p2 hp2
        exact fin p2 _ (by simp) (by simp [chD, hb]) hp2
  · exact hh.elim
/-! ### a table of ints -/
structure TabAt (M0 N : Mem) (q : Addr) (T : List (List Int)) (qs : List Addr) : Prop where
  at_ : N q = some (.lst (qs.map .obj))
  len : qs.length = T.length
  row : ∀ (i : Nat) (a : Addr) (r : List Int), qs[i]? = some a → T[i]? = some r → N a = some (.lst (r.map .int))
  nd : qs.Nodup
  ne : q ∉ qs
  new : ∀ a ∈ qs, M0 a = none
  newq : M0 q = none
  sub : Sub M0 N
theorem Sub.put0 {M N : Mem} {q : Addr} {o : MO} (h : Sub M N) (e : M q = none) : Sub M (mup N q o) := fun a u e' => by
  have : a ≠ q := fun z => by rw [z, e] at e'; cases e'
  rw [mup_ne this]; exact h a u e'
theorem TabAt.set {M0 N : Mem} {q : Addr} {T : List (List Int)} {qs : List Addr} (h : TabAt M0 N q T qs) {i : Nat} {a : Addr} {r : List Int} (ha : qs[i]? = some a) (r' : List Int) : TabAt M0 (mup N a (.lst (r'.map .int))) q (T.set i r') qs := by
  have ma := List.mem_of_getElem? ha
  have qa : q ≠ a := fun z => h.ne (z ▸ ma)
  refine ⟨by rw [mup_ne qa]; exact h.at_, by rw [List.length_set]; exact h.len, fun j b u hb hu => ?_, h.nd, h.ne, h.new, h.newq, Sub.put0 h.sub (h.new a ma)⟩
  by_cases e : i = j
  · subst e
    rw [ha] at hb; cases hb
    have hi : i < T.length := by rw [← h.len]; exact some_lt ha
    rw [List.getElem?_set_self hi] at hu
    cases hu
    exact mup_same
  · rw [List.getElem?_set_ne e] at hu
    have : b ≠ a := fun z => by
      subst z
      exact e ((List.getElem?_inj (some_lt ha) h.nd).mp (ha.trans hb.symm))
    rw [mup_ne this]
    exact h.row j b u hb hu
def chK (n k : Nat) : Option Nat := if k < n then some k else none
def rowC (n : Nat) (cs : List (Nat × Option Nat)) (st : Nat) : List Int := (List.range (n + 1)).map fun k => ((cs.count (st, chK n k) : Nat) : Int)
def tabC (n m : Nat) (cs : List (Nat × Option Nat)) : List (List Int) := (List.range m).map (rowC n cs)
theorem tab_get {n m : Nat} {cs : List (Nat × Option Nat)} {st : Nat} (h : st < m) : (tabC n m cs)[st]? = some (rowC n cs st) := by
  unfold tabC
  rw [List.getElem?_map, List.getElem?_range h]; rfl
theorem row_get {n : Nat} {cs : List (Nat × Option Nat)} {st j : Nat} (h : j ≤ n) : (rowC n cs st)[j]? = some ((cs.count (st, chK n j) : Nat) : Int) := by
  unfold rowC
  rw [List.getElem?_map, List.getElem?_range (by omega)]; rfl
theorem chK_inj {n j k : Nat} (hj : j ≤ n) (hk : k ≤ n) (h : chK n j = chK n k) : j = k := by
  unfold chK at h
  split at h <;> split at h
  · simpa using h
  · cases h
  · cases h
  · omega
theorem tab_tick {n m : Nat} {cs : List (Nat × Option Nat)} {st j : Nat} (hst : st < m) (hj : j ≤ n) : tabC n m (cs ++ [(st, chK n j)]) = (tabC n m cs).set st ((rowC n cs st).set j (((cs.count (st, chK n j) : Nat) : Int) + 1)) := by
  refine List.ext_getElem? fun i => ?_
  by_cases hi : i < m
  · rw [tab_get hi]
    by_cases e : st = i
    · subst e
      rw [List.getElem?_set_self (by simpa [tabC] using hi)]
      congr 1
      refine List.ext_getElem? fun k => ?_
      by_cases hk : k ≤ n
      · rw [row_get hk]
        by_cases e2 : j = k
        · subst e2
          rw [List.getElem?_set_self (by simp [rowC]; omega), List.count_append]
          simp
        · rw [List.getElem?_set_ne e2, row_get hk, List.count_append]
          have : ¬ ((st, chK n j) = (st, chK n k)) := fun z => e2 (chK_inj hj hk (Prod.mk.inj z).2)
          rw [List.count_cons_of_ne this]
          simp
      · rw [List.getElem?_eq_none (by simp [rowC]; omega), List.getElem?_eq_none (by simp [rowC]; omega)]
    · rw [List.getElem?_set_ne e, tab_get hi]
      congr 1
      unfold rowC
      refine List.map_congr_left fun k _ => ?_
      rw [List.count_append]
      have : ¬ ((st, chK n j) = (i, chK n k)) := fun z => e (Prod.mk.inj z).1
      rw [List.count_cons_of_ne this]
      simp
  · rw [List.getElem?_eq_none (by simp [tabC]; omega), List.getElem?_eq_none (by simp [tabC]; omega)]
def sp_counts : SpD := fun ds M Q _ => match ds with
  | [s, .tup ts] => ∃ (n : Nat) (rs : List Row), s = encShape n rs ∧ ShOk n rs ∧ areTexts n rs (.tup ts) = true ∧ ∀ N q qs, TabAt M N q (tabC n rs.length (taken rs (.tup ts))) qs → Q (.obj q) N
  | _ => False
theorem tab_idx {M0 N : Mem} {q : Addr} {T : List (List Int)} {qs : List Addr} (h : TabAt M0 N q T qs) {i : Nat} {a : Addr} (ha : qs[i]? = some a) : vGet (.obj q) (.int (i : Nat)) N = fun Q => Q (.obj a) N := by
  funext Q
  exact vGet_lst (rdL_of h.at_) (by rw [List.getElem?_map, ha]; rfl)
theorem isDct_lst {M : Mem} {a : Addr} {xs : List D} (h : M a = some (.lst xs)) : isDct M (.obj a) = false := by unfold isDct; dsimp only; rw [h]
theorem setG_lst {M : Mem} {a : Addr} {xs : List D} {j : Nat} {v : D} (h : M a = some (.lst xs)) (hj : j < xs.length) : vSetG (.obj a) (.int (j : Nat)) v M = fun R => R (mup M a (.lst (xs.set j v))) := by
  funext R
  unfold vSetG vSetI
  rw [isDct_lst h]
  have e : ixN xs.length ((j : Nat) : Int) = some j := by
    unfold ixN
    have h1 : (0 : Int) ≤ (j : Nat) := by omega
    have h2 : ((j : Nat) : Int) < (xs.length : Nat) := by omega
    simp [h1, h2, hj]
  simp only [Bool.false_eq_true, if_false, h, e]
theorem h__law_counts : ∀ ds M Q0 E0, sp_counts ds M Q0 E0 → ds.length = 2 ∧ wpSs ⟨[], sub, fdOf cf⟩ (wF E0) none m__law_counts (endsF Q0) (startD N__law_counts.length ds) M := by
  intro ds M Q0 E0 hh
  unfold sp_counts at hh
  split at hh
  · rename_i s ts
    obtain ⟨n, rs, rfl, hS, hA, hq⟩ := hh
    refine ⟨rfl, ?_⟩
    have n8 := hS.n8
    have r30 := hS.r30
    unfold m__law_counts
    refine wp_cons ?_
    show DL.wpS _ _ _ _ _ [some (encShape n rs), some (.tup ts), none, none, none, none, none] M
    (try simp only [DL.wpS, DL.wpE, DL.wpA, wpT, wpTs, wpBo, DL.wpI, wpIf, wpTg, wpTgs, optI, List.getElem?_cons_zero, List.getElem?_cons_succ, List.set_cons_succ, List.set_cons_zero, vTru, cmpS, vIsK, vLt, vLe, vGt, vGe, vOrd, DL.isNon, addE, subE, biS, rdS, rdL_new, Bool.not_true, Bool.not_false, if_true, if_false, Bool.false_eq_true, Bool.true_eq_false, reduceIte, true_and, and_true, decide_true, decide_false, vGet_0, vGet_1, slcT, addT, encShape, itsOf])
    have el : (encRows rs).length = rs.length := by unfold encRows; simp
    refine lc_inv (fun j acc M2 => ∃ qs : List Addr, acc = qs.map .obj ∧ qs.length = j ∧ qs.Nodup ∧ Sub M M2 ∧ (∀ a ∈ qs, M a = none ∧ M2 a = some (.lst (List.replicate (n + 1) (.int 0)))) ∧ j ≤ rs.length) (fun _ _ _ _ => trivial) (fun j d acc M2 Kn hd hP hK => ?_) ⟨[], rfl, rfl, List.nodup_nil, Sub.rfl', by simp, Nat.zero_le _⟩ ?_
    · obtain ⟨qs, rfl, hj, hnd, hs, hqs, hjl⟩ := hP
      have hjl' := some_lt hd
      rw [el] at hjl'
      simp only [wipeD, List.map_cons, List.map_nil]
      (try simp only [DL.wpS, DL.wpE, DL.wpA, wpT, wpTs, wpBo, DL.wpI, wpIf, wpTg, wpTgs, optI, List.getElem?_cons_zero, List.getElem?_cons_succ, List.set_cons_succ, List.set_cons_zero, vTru, cmpS, vIsK, vLt, vLe, vGt, vGe, vOrd, DL.isNon, addE, subE, biS, rdS, rdL_new, Bool.not_true, Bool.not_false, if_true, if_false, Bool.false_eq_true, Bool.true_eq_false, reduceIte, true_and, and_true, decide_true, decide_false, vGet_0, vGet_1, slcT, addT])
      intro p1 hp1
      rw [mulL mup_same]
      refine ⟨⟨by omega, by omega, by simp [big]; omega⟩, fun p2 hp2 => ⟨by simp [big]; omega, ?_⟩⟩
      obtain ⟨n21, hp2'⟩ := mup_none hp2
      have hM2 : M p2 = none := by
        cases e : M p2 with
        | none => rfl
        | some o => rw [hs p2 o e] at hp2'; cases hp2'
      refine hK _ _ ⟨qs ++ [p2], by simp, by simp [hj], ?_, (hs.trans (Sub.new hp1)).trans (Sub.new hp2), fun a ha => ?_, by omega⟩
      · refine List.nodup_append.mpr ⟨hnd, by simp, fun a ha b hb => ?_⟩
        rw [List.mem_singleton] at hb; subst hb
        intro z; subst z
        rw [(hqs a ha).2] at hp2'; cases hp2'
      · rcases List.mem_append.mp ha with h | h
        · obtain ⟨x1, x2⟩ := hqs a h
          exact ⟨x1, get_up (get_up x2 hp1) hp2⟩
        · rw [List.mem_singleton] at h; subst h
          refine ⟨hM2, ?_⟩
          rw [mup_same]
          congr 2
          have : ((n : Int) + 1).toNat = n + 1 := by omega
          rw [this]
          simp
    · rintro acc M2 ⟨qs, rfl, hj, hnd, hs, hqs, hjl⟩ q hqn
      rw [el] at hj
      have hMq : M q = none := by
        cases e : M q with
        | none => rfl
        | some o => rw [hs q o e] at hqn; cases hqn
      have hT0 : TabAt M (mup M2 q (.lst (qs.map .obj))) q (tabC n rs.length []) qs := by
        refine ⟨mup_same, by simp [tabC, hj], fun i a r ha hr => ?_, hnd, (fun z => by rw [(hqs q z).2] at hqn; cases hqn), fun a ha => (hqs a ha).1, hMq, hs.trans (Sub.new hqn)⟩
        have hi : i < rs.length := by rw [← hj]; exact some_lt ha
        rw [tab_get hi] at hr
        cases hr
        rw [get_up (hqs a (List.mem_of_getElem? ha)).2 hqn]
        congr 2
        simp [rowC]
        rw [show (D.int ∘ fun k : Nat => (0 : Int)) = fun _ => D.int 0 from rfl, List.map_const', List.length_range]
      clear hqs hqn hs
      generalize mup M2 q (.lst (qs.map .obj)) = N0 at hT0
      refine wp_cut (fun ρ' M' => ∃ x4 x5 x6, ρ' = [some (encShape n rs), some (.tup ts), some (.obj q), none, x4, x5, x6] ∧ TabAt M M' q (tabC n rs.length (taken rs (.tup ts))) qs) ?_ ?_
      · (try simp only [DL.wpS, DL.wpE, DL.wpA, wpT, wpTs, wpBo, DL.wpI, wpIf, wpTg, wpTgs, optI, List.getElem?_cons_zero, List.getElem?_cons_succ, List.set_cons_succ, List.set_cons_zero, vTru, cmpS, vIsK, vLt, vLe, vGt, vGe, vOrd, DL.isNon, addE, subE, biS, rdS, rdL_new, Bool.not_true, Bool.not_false, if_true, if_false, Bool.false_eq_true, Bool.true_eq_false, reduceIte, true_and, and_true, decide_true, decide_false, vGet_0, vGet_1, slcT, addT, itsOf])
        refine ⟨fun i ρ M' => ∃ x4 x5 x6, ρ = [some (encShape n rs), some (.tup ts), some (.obj q), none, x4, x5, x6] ∧ i ≤ ts.length ∧ TabAt M M' q (tabC n rs.length (takenL rs (ts.take i))) qs, ⟨none, none, none, rfl, Nat.zero_le _, hT0⟩, ?_⟩
        rintro i ρ M1 ⟨x4, x5, x6, rfl, hi, hT⟩
        cases hx : ts[i]? with
        | none =>
          have := none_eq hx hi
          subst this
          rw [List.take_length] at hT
          exact ⟨x4, x5, x6, rfl, hT⟩
        | some t =>
          have ht : t ∈ ts := List.mem_of_getElem? hx
          have hil := some_lt hx
          have hA' : ts.all (fun t => textOk n t && (way rs 0 (lets t)).isSome) = true := hA
          have h1 := List.all_eq_true.mp hA' t ht
          rw [Bool.and_eq_true] at h1
          obtain ⟨h1, h2⟩ := h1
          obtain ⟨e1, e2⟩ := text_lets h1
          generalize hls : lets t = ls at e1 e2 h2
          subst e1
          obtain ⟨w, hw⟩ := Option.isSome_iff_exists.mp h2
          have etk : takenL rs (ts.take (i + 1)) = takenL rs (ts.take i) ++ w := by
            rw [take_snoc hx, takenL_snoc, lets_enc, hw]; rfl
          (try simp only [DL.wpS, DL.wpE, DL.wpA, wpT, wpTs, wpBo, DL.wpI, wpIf, wpTg, wpTgs, optI, List.getElem?_cons_zero, List.getElem?_cons_succ, List.set_cons_succ, List.set_cons_zero, vTru, cmpS, vIsK, vLt, vLe, vGt, vGe, vOrd, DL.isNon, addE, subE, biS, rdS, rdL_new, Bool.not_true, Bool.not_false, if_true, if_false, Bool.false_eq_true, Bool.true_eq_false, reduceIte, true_and, and_true, decide_true, decide_false, vGet_0, vGet_1, slcT, addT])
          refine wp_cons ?_
          (try simp only [DL.wpS, DL.wpE, DL.wpA, wpT, wpTs, wpBo, DL.wpI, wpIf, wpTg, wpTgs, optI, List.getElem?_cons_zero, List.getElem?_cons_succ, List.set_cons_succ, List.set_cons_zero, vTru, cmpS, vIsK, vLt, vLe, vGt, vGe, vOrd, DL.isNon, addE, subE, biS, rdS, rdL_new, Bool.not_true, Bool.not_false, if_true, if_false, Bool.false_eq_true, Bool.true_eq_false, reduceIte, true_and, and_true, decide_true, decide_false, vGet_0, vGet_1, slcT, addT])
          refine wp_cut (fun ρ' M' => ∃ st pre x6, ρ' = [some (encShape n rs), some (.tup ts), some (.obj q), none, some (encText ls), some (.int (st : Nat)), x6] ∧ TabAt M M' q (tabC n rs.length (takenL rs (ts.take i) ++ pre)) qs ∧ st < rs.length ∧ w = pre ++ [(st, none)]) ?_ ?_
          · (try simp only [DL.wpS, DL.wpE, DL.wpA, wpT, wpTs, wpBo, DL.wpI, wpIf, wpTg, wpTgs, optI, List.getElem?_cons_zero, List.getElem?_cons_succ, List.set_cons_succ, List.set_cons_zero, vTru, cmpS, vIsK, vLt, vLe, vGt, vGe, vOrd, DL.isNon, addE, subE, biS, rdS, rdL_new, Bool.not_true, Bool.not_false, if_true, if_false, Bool.false_eq_true, Bool.true_eq_false, reduceIte, true_and, and_true, decide_true, decide_false, vGet_0, vGet_1, slcT, addT, encText, itsOf])
            refine ⟨fun j ρ M' => ∃ st pre x6, ρ = [some (encShape n rs), some (.tup ts), some (.obj q), none, some (encText ls), some (.int (st : Nat)), x6] ∧ j ≤ ls.length ∧ TabAt M M' q (tabC n rs.length (takenL rs (ts.take i) ++ pre)) qs ∧ st < rs.length ∧ some w = (way rs st (ls.drop j)).map (pre ++ ·), ⟨0, [], x6, rfl, Nat.zero_le _, by rw [List.append_nil]; exact hT, hS.r1, by rw [← hw]; simp⟩, ?_⟩
            rintro j ρ M3 ⟨st, pre, y6, rfl, hj2, hT3, hst, hwy⟩
            have f1 : rs[st]? = some rs[st] := List.getElem?_eq_getElem hst
            rw [List.getElem?_map]
            cases hy : ls[j]? with
            | none =>
              have := none_eq hy hj2
              subst this
              rw [List.drop_length] at hwy
              simp only [way, f1] at hwy
              refine ⟨st, pre, y6, rfl, hT3, hst, ?_⟩
              split at hwy
              · simpa using hwy
              · cases hwy
            | some l =>
              have hl : l < n := e2 l (List.mem_of_getElem? hy)
              have hjl' := some_lt hy
              obtain ⟨r, o, g1, g2, g3⟩ := way_lt hS hst hl
              have hdr : ls.drop j = l :: ls.drop (j + 1) := by
                rw [List.drop_eq_getElem_cons hjl']
                congr 1
                exact (List.getElem?_eq_some_iff.mp hy).2
              rw [hdr] at hwy
              simp only [way, g1, g2] at hwy
              cases o with
              | none => simp at hwy
              | some s' =>
                have hqs : qs[st]? = some (qs[st]'(by rw [hT3.len]; simpa [tabC] using hst)) := List.getElem?_eq_getElem _
                generalize qs[st]'(by rw [hT3.len]; simpa [tabC] using hst) = a at hqs
                have hrow := hT3.row st a _ hqs (tab_get hst)
                have hget : vGet (.obj a) (.int (l : Nat)) M3 = fun Q => Q (.int (((takenL rs (ts.take i) ++ pre).count (st, chK n l) : Nat) : Int)) M3 := by
                  funext Q
                  exact vGet_lst (rdL_of hrow) (by rw [List.getElem?_map, row_get (Nat.le_of_lt hl)]; rfl)
                simp only [Option.map_some]
                (try simp only [DL.wpS, DL.wpE, DL.wpA, wpT, wpTs, wpBo, DL.wpI, wpIf, wpTg, wpTgs, optI, List.getElem?_cons_zero, List.getElem?_cons_succ, List.set_cons_succ, List.set_cons_zero, vTru, cmpS, vIsK, vLt, vLe, vGt, vGe, vOrd, DL.isNon, addE, subE, biS, rdS, rdL_new, Bool.not_true, Bool.not_false, if_true, if_false, Bool.false_eq_true, Bool.true_eq_false, reduceIte, true_and, and_true, decide_true, decide_false, vGet_0, vGet_1, slcT, addT])
                refine wp_cons ?_
                (try simp only [DL.wpS, DL.wpE, DL.wpA, wpT, wpTs, wpBo, DL.wpI, wpIf, wpTg, wpTgs, optI, List.getElem?_cons_zero, List.getElem?_cons_succ, List.set_cons_succ, List.set_cons_zero, vTru, cmpS, vIsK, vLt, vLe, vGt, vGe, vOrd, DL.isNon, addE, subE, biS, rdS, rdL_new, Bool.not_true, Bool.not_false, if_true, if_false, Bool.false_eq_true, Bool.true_eq_false, reduceIte, true_and, and_true, decide_true, decide_false, vGet_0, vGet_1, slcT, addT, tab_idx hT3 hqs, hget])
                rw [setG_lst hrow (by simp [rowC]; omega)]
                refine wp_last ?_
                (try simp only [DL.wpS, DL.wpE, DL.wpA, wpT, wpTs, wpBo, DL.wpI, wpIf, wpTg, wpTgs, optI, List.getElem?_cons_zero, List.getElem?_cons_succ, List.set_cons_succ, List.set_cons_zero, vTru, cmpS, vIsK, vLt, vLe, vGt, vGe, vOrd, DL.isNon, addE, subE, biS, rdS, rdL_new, Bool.not_true, Bool.not_false, if_true, if_false, Bool.false_eq_true, Bool.true_eq_false, reduceIte, true_and, and_true, decide_true, decide_false, vGet_0, vGet_1, slcT, addT, encShape, vGet_tup (enc_row g1), encRow, vGet_tup (enc_step g2), encStep])
                have hT4 := hT3.set (r := rowC n (takenL rs (ts.take i) ++ pre) st) hqs ((rowC n (takenL rs (ts.take i) ++ pre) st).set l ((((takenL rs (ts.take i) ++ pre).count (st, chK n l) : Nat) : Int) + 1))
                rw [← tab_tick hst (Nat.le_of_lt hl), List.map_set] at hT4
                have ech : chK n l = some l := by simp [chK, hl]
                refine ⟨_, Sub.rfl', s', pre ++ [(st, some l)], _, rfl, hjl', ?_, g3 s' rfl, ?_⟩
                · rw [← List.append_assoc, ← ech]; exact hT4
                · rw [hwy]
                  simp [Option.map_map, Function.comp_def]
          · rintro ρ' M3 ⟨st, pre, y6, rfl, hT3, hst, rfl⟩
            refine ⟨M3, Sub.rfl', wp_last ?_⟩
            have hqs : qs[st]? = some (qs[st]'(by rw [hT3.len]; simpa [tabC] using hst)) := List.getElem?_eq_getElem _
            generalize qs[st]'(by rw [hT3.len]; simpa [tabC] using hst) = a at hqs
            have hrow := hT3.row st a _ hqs (tab_get hst)
            have hget : vGet (.obj a) (.int (n : Nat)) M3 = fun Q => Q (.int (((takenL rs (ts.take i) ++ pre).count (st, chK n n) : Nat) : Int)) M3 := by
              funext Q
              exact vGet_lst (rdL_of hrow) (by rw [List.getElem?_map, row_get (Nat.le_refl _)]; rfl)
            (try simp only [DL.wpS, DL.wpE, DL.wpA, wpT, wpTs, wpBo, DL.wpI, wpIf, wpTg, wpTgs, optI, List.getElem?_cons_zero, List.getElem?_cons_succ, List.set_cons_succ, List.set_cons_zero, vTru, cmpS, vIsK, vLt, vLe, vGt, vGe, vOrd, DL.isNon, addE, subE, biS, rdS, rdL_new, Bool.not_true, Bool.not_false, if_true, if_false, Bool.false_eq_true, Bool.true_eq_false, reduceIte, true_and, and_true, decide_true, decide_false, vGet_0, vGet_1, slcT, addT, encShape, tab_idx hT3 hqs, hget])
            rw [setG_lst hrow (by simp [rowC])]
            have hT4 := hT3.set (r := rowC n (takenL rs (ts.take i) ++ pre) st) hqs ((rowC n (takenL rs (ts.take i) ++ pre) st).set n ((((takenL rs (ts.take i) ++ pre).count (st, chK n n) : Nat) : Int) + 1))
            rw [← tab_tick hst (Nat.le_refl _), List.map_set] at hT4
            have ech : chK n n = none := by simp [chK]
            refine ⟨_, Sub.rfl', _, _, _, rfl, hil, ?_⟩
            rw [etk, ← List.append_assoc, ← ech]
            exact hT4
      · rintro ρ' M' ⟨x4, x5, x6, rfl, hT⟩
        refine ⟨M', Sub.rfl', wp_last ?_⟩
        (try simp only [DL.wpS, DL.wpE, DL.wpA, wpT, wpTs, wpBo, DL.wpI, wpIf, wpTg, wpTgs, optI, List.getElem?_cons_zero, List.getElem?_cons_succ, List.set_cons_succ, List.set_cons_zero, vTru, cmpS, vIsK, vLt, vLe, vGt, vGe, vOrd, DL.isNon, addE, subE, biS, rdS, rdL_new, Bool.not_true, Bool.not_false, if_true, if_false, Bool.false_eq_true, Bool.true_eq_false, reduceIte, true_and, and_true, decide_true, decide_false, vGet_0, vGet_1, slcT, addT])
        exact rt_of (hq M' q qs hT) Sub.rfl'
  · exact hh.elim
end H41
set_option Elab.async false
set_option linter.all false
set_option maxRecDepth 100000
set_option maxHeartbeats 1000000
namespace H41
open PySem PySem.Spec PyProof.Rows L2 DL
/-! ### the law's reckoning, kept in a dict -/
def keyM (i R : Nat) : D := .tup [.int (i : Nat), .int (R : Nat)]
structure Memo (cs : List Int) (kvs : List (D × D)) : Prop where
  nd : (kvs.map (·.1)).Nodup
  ok : ∀ p ∈ kvs, ∃ (i R : Nat) (v : Int), p = (keyM i R, .int v) ∧ i ≤ 9 ∧ R ≤ 1024 ∧ Fi.opt 10 (cs.drop i) R = some v
theorem keyM_inj {i R i' R' : Nat} (h : keyM i R = keyM i' R') : i = i' ∧ R = R' := by
  unfold keyM at h
  simp at h
  omega
theorem nkey_keyM (i R : Nat) : ∃ q, nkey (keyM i R) = some q ∧ q.depth ≤ 8 := ⟨_, rfl, by simp [NestedKey.depth, NestedKey.depthAll]⟩
theorem Memo.nil (cs : List Int) : Memo cs [] := ⟨by simp, fun _ h => nomatch h⟩
theorem Memo.key {cs : List Int} {kvs : List (D × D)} (g : Memo cs kvs) (i R : Nat) : keyOk kvs (keyM i R) = true := by
  unfold keyOk
  obtain ⟨q, e1, e2⟩ := nkey_keyM i R
  rw [e1]
  have h : (kvs.all fun p => isTup p.1) = true := List.all_eq_true.mpr fun p hp => by
    obtain ⟨i', R', v, e, _⟩ := g.ok p hp
    rw [e]; rfl
  rw [h]
  simp [isTup, keyM, e2]
theorem Memo.look {cs : List Int} {kvs : List (D × D)} (g : Memo cs kvs) {i R : Nat} {d : D} (h : dlook kvs (keyM i R) = some d) : ∃ v, d = .int v ∧ Fi.opt 10 (cs.drop i) R = some v := by
  unfold dlook at h
  obtain ⟨p, hp, rfl⟩ := Option.map_eq_some_iff.mp h
  obtain ⟨i', R', v, rfl, _, _, ho⟩ := g.ok p (List.mem_of_find?_eq_some hp)
  have := List.find?_some hp
  have := eqD_eq _ _ this
  obtain ⟨rfl, rfl⟩ := keyM_inj this
  exact ⟨v, rfl, ho⟩
theorem Memo.put {cs : List Int} {kvs : List (D × D)} (g : Memo cs kvs) {i R : Nat} {v : Int} (hi : i ≤ 9) (hR : R ≤ 1024) (ho : Fi.opt 10 (cs.drop i) R = some v) : Memo cs (dput kvs (keyM i R) (.int v)) := by
  constructor
  · rw [dput_keys]
    split
    · exact g.nd
    · rename_i h
      rw [List.nodup_append]
      refine ⟨g.nd, by simp, fun a ha b hb => ?_⟩
      rw [List.mem_singleton] at hb
      subst hb
      rintro rfl
      obtain ⟨p, hp, e⟩ := List.mem_map.mp ha
      exact h (List.any_eq_true.mpr ⟨p, hp, eqD_iff.mpr e⟩)
  · intro e he
    unfold dput at he
    split at he
    · obtain ⟨p, hp, e1⟩ := List.mem_map.mp he
      split at e1
      · rename_i h
        rw [eqD_iff] at h
        exact ⟨i, R, v, by rw [← e1, h], hi, hR, ho⟩
      · rw [← e1]; exact g.ok p hp
    · rcases List.mem_append.mp he with h | h
      · exact g.ok e h
      · rw [List.mem_singleton] at h
        exact ⟨i, R, v, h, hi, hR, ho⟩
def codeM : D → Nat | .tup [.int i, .int R] => i.toNat * 1025 + R.toNat | _ => 0
theorem Memo.len {cs : List Int} {kvs : List (D × D)} (g : Memo cs kvs) : kvs.length ≤ 10250 := by
  have h1 : (kvs.map fun p => codeM p.1).Nodup := by
    have nd := g.nd
    unfold List.Nodup at nd ⊢
    rw [List.pairwise_map] at nd ⊢
    refine nd.imp_of_mem fun {a b} ha hb ne e => ne ?_
    obtain ⟨i, R, v, rfl, h1, h2, _⟩ := g.ok a ha
    obtain ⟨i', R', v', rfl, h3, h4, _⟩ := g.ok b hb
    simp only [codeM, keyM, Int.toNat_natCast] at e ⊢
    have : i = i' := by omega
    subst this
    have : R = R' := by omega
    rw [this]
  have := nodup_lt 10250 _ h1 fun x hx => by
    obtain ⟨p, hp, rfl⟩ := List.mem_map.mp hx
    obtain ⟨i, R, v, rfl, h1, h2, _⟩ := g.ok p hp
    simp only [codeM, keyM, Int.toNat_natCast]
    omega
  simpa using this
theorem shr10 {M : Mem} {m : Nat} (h1 : 1 ≤ m) (h6 : m ≤ 10) : binS .RShift (.int 1024) (.int (m : Nat)) M = fun Q => Q (.int ((2 ^ (10 - m) : Nat) : Int)) M := by
  funext Q
  have : (1024 : Int) / 2 ^ m = ((2 ^ (10 - m) : Nat) : Int) := by
    rcases m with _ | _ | _ | _ | _ | _ | _ | _ | _ | _ | _ | m
    · omega
    all_goals first | decide | omega
  have h0 : (0 : Int) ≤ (m : Nat) := by omega
  simp only [binS, vShr, vI, h0, true_and, Int.toNat_natCast, this]
theorem opt_short {D : Nat} {cs : List Int} {R : Nat} (h : R < cs.length) : Fi.opt D cs R = none := by
  have := Fi.opt_ok D cs R
  cases e : Fi.opt D cs R with
  | none => rfl
  | some v =>
    rw [e] at this
    obtain ⟨⟨ls, ⟨h1, h2, h3⟩, _⟩, _⟩ := this
    have : ∀ ls : List Nat, ls.length ≤ Fi.room D ls := by
      intro ls
      induction ls with
      | nil => exact Nat.zero_le _
      | cons l ls ih =>
        rw [Fi.room_cons, List.length_cons]
        have := Nat.pow_pos (n := D - l) (show 0 < 2 by decide)
        omega
    have := this ls
    omega
def beg10 (cs : List Int) (c : Int) (R m : Nat) : Option Int := if 2 ^ (10 - m) ≤ R then (Fi.opt 10 cs (R - 2 ^ (10 - m))).map (c * (m : Int) + ·) else none
def sp_cheap (j : Nat) : SpD := fun ds M Q _ => match ds with
  | [.obj a, .int at_, .int room, .obj kd] => ∃ (cs : List Int) (i R : Nat) (kvs : List (D × D)), rdL M a = some (cs.map .int) ∧ a ≠ kd ∧ cs.length ≤ 9 ∧ (∀ c ∈ cs, 0 ≤ c ∧ cOk c) ∧ at_ = (i : Nat) ∧ room = (R : Nat) ∧ i ≤ cs.length ∧ cs.length - i < j ∧ cs.length - i ≤ R ∧ R ≤ 1024 ∧ M kd = some (.dct kvs) ∧ Memo cs kvs ∧
      ∀ N kvs' v, Upd kd M N → N kd = some (.dct kvs') → Memo cs kvs' → Fi.opt 10 (cs.drop i) R = some v → Q (.int v) N
  | _ => False
theorem isDct_dct {M : Mem} {a : Addr} {kvs : List (D × D)} (h : M a = some (.dct kvs)) : isDct M (.obj a) = true := by unfold isDct; dsimp only; rw [h]
theorem Upd.rfl' {p : Addr} {M : Mem} : Upd p M M := fun _ _ => rfl
theorem Upd.trans {p : Addr} {M N O : Mem} (h : Upd p M N) (h' : Upd p N O) : Upd p M O := fun a ne => by rw [h' a ne, h a ne]
theorem Upd.rdL {p a : Addr} {M N : Mem} {xs : List D} (h : Upd p M N) (ne : a ≠ p) (e : DL.rdL M a = some xs) : DL.rdL N a = some xs := by unfold DL.rdL at e ⊢; rw [h a ne]; exact e
theorem h__law_cheapest (k j : Nat) : ∀ ds M Q0 E0, sp_cheap (j + 1) ds M Q0 E0 → ds.length = 4 ∧ wpSs ⟨[C__law_cheapest k (sp_cheap j)], sub, fdOf cf⟩ (wF E0) none m__law_cheapest (endsF Q0) (startD N__law_cheapest.length ds) M := by
  intro ds M Q0 E0 hh
  unfold sp_cheap at hh
  split at hh
  · rename_i a at_ room kd
    obtain ⟨cs, i, R, kvs, ha, hak, hl, hc, rfl, rfl, hi, hj, hR, hR2, hk, hm, hq⟩ := hh
    refine ⟨rfl, ?_⟩
    unfold m__law_cheapest
    refine wp_cons ?_
    show DL.wpS _ _ _ _ _ [some (.obj a), some (.int (i : Nat)), some (.int (R : Nat)), some (.obj kd), none, none, none, none] M
    (try simp only [DL.wpS, DL.wpE, DL.wpA, wpT, wpTs, wpBo, DL.wpI, wpIf, wpTg, wpTgs, optI, List.getElem?_cons_zero, List.getElem?_cons_succ, List.set_cons_succ, List.set_cons_zero, vTru, cmpS, vIsK, vLt, vLe, vGt, vGe, vOrd, DL.isNon, addE, subE, biS, rdS, rdL_new, Bool.not_true, Bool.not_false, if_true, if_false, Bool.false_eq_true, Bool.true_eq_false, reduceIte, true_and, and_true, decide_true, decide_false, vGet_0, vGet_1, slcT, addT, ha, List.length_map, vEqK])
    by_cases hil : (i : Int) = (cs.length : Nat)
    · simp only [hil, decide_true, if_true]
      refine wp_last ?_
      (try simp only [DL.wpS, DL.wpE, DL.wpA, wpT, wpTs, wpBo, DL.wpI, wpIf, wpTg, wpTgs, optI, List.getElem?_cons_zero, List.getElem?_cons_succ, List.set_cons_succ, List.set_cons_zero, vTru, cmpS, vIsK, vLt, vLe, vGt, vGe, vOrd, DL.isNon, addE, subE, biS, rdS, rdL_new, Bool.not_true, Bool.not_false, if_true, if_false, Bool.false_eq_true, Bool.true_eq_false, reduceIte, true_and, and_true, decide_true, decide_false, vGet_0, vGet_1, slcT, addT])
      refine rt_of (hq M kvs 0 Upd.rfl' hk hm ?_) Sub.rfl'
      have : i = cs.length := by omega
      rw [this, List.drop_length]; rfl
    · simp only [hil, decide_false, Bool.false_eq_true, if_false]
      refine wp_nil ?_
      have hi' : i < cs.length := by omega
      have ec : cs[i]? = some cs[i] := List.getElem?_eq_getElem hi'
      have hdr : cs.drop i = cs[i] :: cs.drop (i + 1) := List.drop_eq_getElem_cons hi'
      have hci := hc _ (List.getElem_mem hi')
      generalize cs[i] = c at ec hdr hci
      have hopt : Fi.opt 10 (cs.drop i) R = Fi.stepO (beg10 (cs.drop (i + 1)) c R) 10 := by rw [hdr]; rfl
      have hsome : (Fi.opt 10 (cs.drop i) R).isSome = true := Fi.opt_some (by decide) _ _ (by rw [List.length_drop]; exact hR)
      refine wp_cut (fun ρ' M' => ∃ x4 x5 x6 x7 kvs' v, ρ' = [some (.obj a), some (.int (i : Nat)), some (.int (R : Nat)), some (.obj kd), x4, x5, x6, x7] ∧ Upd kd M M' ∧ M' kd = some (.dct kvs') ∧ Memo cs kvs' ∧ dlook kvs' (keyM i R) = some (.int v) ∧ Fi.opt 10 (cs.drop i) R = some v) ?_ ?_
      · (try simp only [DL.wpS, DL.wpE, DL.wpA, wpT, wpTs, wpBo, DL.wpI, wpIf, wpTg, wpTgs, optI, List.getElem?_cons_zero, List.getElem?_cons_succ, List.set_cons_succ, List.set_cons_zero, vTru, cmpS, vIsK, vLt, vLe, vGt, vGe, vOrd, DL.isNon, addE, subE, biS, rdS, rdL_new, Bool.not_true, Bool.not_false, if_true, if_false, Bool.false_eq_true, Bool.true_eq_false, reduceIte, true_and, and_true, decide_true, decide_false, vGet_0, vGet_1, slcT, addT, vInG, isDct_dct hk, vDIn, hk])
        refine ⟨hm.key i R, ?_⟩
        cases hd : dlook kvs (.tup [.int (i : Nat), .int (R : Nat)]) with
        | some d =>
          obtain ⟨v, rfl, ho⟩ := hm.look hd
          simp only [Option.isSome_some, Bool.not_true, Bool.false_eq_true, if_false]
          exact wp_nil ⟨none, none, none, none, kvs, v, rfl, Upd.rfl', hk, hm, hd, ho⟩
        | none =>
          simp only [Option.isSome_none, Bool.not_false, if_true]
          refine wp_cons ?_
          (try simp only [DL.wpS, DL.wpE, DL.wpA, wpT, wpTs, wpBo, DL.wpI, wpIf, wpTg, wpTgs, optI, List.getElem?_cons_zero, List.getElem?_cons_succ, List.set_cons_succ, List.set_cons_zero, vTru, cmpS, vIsK, vLt, vLe, vGt, vGe, vOrd, DL.isNon, addE, subE, biS, rdS, rdL_new, Bool.not_true, Bool.not_false, if_true, if_false, Bool.false_eq_true, Bool.true_eq_false, reduceIte, true_and, and_true, decide_true, decide_false, vGet_0, vGet_1, slcT, addT])
          refine wp_cut (fun ρ' M' => ∃ x5 x6 x7 kvs', ρ' = [some (.obj a), some (.int (i : Nat)), some (.int (R : Nat)), some (.obj kd), some (encO (Fi.stepO (beg10 (cs.drop (i + 1)) c R) 10)), x5, x6, x7] ∧ Upd kd M M' ∧ M' kd = some (.dct kvs') ∧ Memo cs kvs') ?_ ?_
          · (try simp only [DL.wpS, DL.wpE, DL.wpA, wpT, wpTs, wpBo, DL.wpI, wpIf, wpTg, wpTgs, optI, List.getElem?_cons_zero, List.getElem?_cons_succ, List.set_cons_succ, List.set_cons_zero, vTru, cmpS, vIsK, vLt, vLe, vGt, vGe, vOrd, DL.isNon, addE, subE, biS, rdS, rdL_new, Bool.not_true, Bool.not_false, if_true, if_false, Bool.false_eq_true, Bool.true_eq_false, reduceIte, true_and, and_true, decide_true, decide_false, vGet_0, vGet_1, slcT, addT, rngOf])
            refine ⟨⟨by decide, by decide, by decide, by decide⟩, ?_⟩
            refine ⟨fun m ρ M' => ∃ x5 x6 x7 kvs', ρ = [some (.obj a), some (.int (i : Nat)), some (.int (R : Nat)), some (.obj kd), some (encO (Fi.stepO (beg10 (cs.drop (i + 1)) c R) m)), x5, x6, x7] ∧ Upd kd M M' ∧ M' kd = some (.dct kvs') ∧ Memo cs kvs' ∧ m ≤ 10, ⟨none, none, none, kvs, rfl, Upd.rfl', hk, hm, by decide⟩, ?_⟩
            rintro m ρ M1 ⟨x5, x6, x7, kv1, rfl, hU, hk1, hm1, hm10⟩
            rw [List.getElem?_map]
            by_cases hlt : m < 10
            · rw [List.getElem?_range (by omega)]
              have em : (1 : Int) + ((m : Nat) : Int) = ((m + 1 : Nat) : Int) := by omega
              simp only [Option.map_some]
              rw [em]
              (try simp only [DL.wpS, DL.wpE, DL.wpA, wpT, wpTs, wpBo, DL.wpI, wpIf, wpTg, wpTgs, optI, List.getElem?_cons_zero, List.getElem?_cons_succ, List.set_cons_succ, List.set_cons_zero, vTru, cmpS, vIsK, vLt, vLe, vGt, vGe, vOrd, DL.isNon, addE, subE, biS, rdS, rdL_new, Bool.not_true, Bool.not_false, if_true, if_false, Bool.false_eq_true, Bool.true_eq_false, reduceIte, true_and, and_true, decide_true, decide_false, vGet_0, vGet_1, slcT, addT])
              refine wp_cons ?_
              (try simp only [DL.wpS, DL.wpE, DL.wpA, wpT, wpTs, wpBo, DL.wpI, wpIf, wpTg, wpTgs, optI, List.getElem?_cons_zero, List.getElem?_cons_succ, List.set_cons_succ, List.set_cons_zero, vTru, cmpS, vIsK, vLt, vLe, vGt, vGe, vOrd, DL.isNon, addE, subE, biS, rdS, rdL_new, Bool.not_true, Bool.not_false, if_true, if_false, Bool.false_eq_true, Bool.true_eq_false, reduceIte, true_and, and_true, decide_true, decide_false, vGet_0, vGet_1, slcT, addT, shr10 (show 1 ≤ m + 1 by omega) (show m + 1 ≤ 10 by omega)])
              have ha1 := hU.rdL hak ha
              have hget : vGet (.obj a) (.int (i : Nat)) M1 = fun Q => Q (.int c) M1 := by
                funext Q; exact vGet_lst ha1 (by rw [List.getElem?_map, ec]; rfl)
              refine wp_cut (fun ρ' M' => ∃ kv2, ρ' = [some (.obj a), some (.int (i : Nat)), some (.int (R : Nat)), some (.obj kd), some (encO (Fi.stepO (beg10 (cs.drop (i + 1)) c R) m)), some (.int ((m + 1 : Nat) : Int)), some (.int ((R : Nat) - ((2 ^ (10 - (m + 1)) : Nat) : Int))), some (encO (if 2 ^ (10 - (m + 1)) ≤ R then Fi.opt 10 (cs.drop (i + 1)) (R - 2 ^ (10 - (m + 1))) else none))] ∧ Upd kd M M' ∧ M' kd = some (.dct kv2) ∧ Memo cs kv2) ?_ ?_
              · (try simp only [DL.wpS, DL.wpE, DL.wpA, wpT, wpTs, wpBo, DL.wpI, wpIf, wpTg, wpTgs, optI, List.getElem?_cons_zero, List.getElem?_cons_succ, List.set_cons_succ, List.set_cons_zero, vTru, cmpS, vIsK, vLt, vLe, vGt, vGe, vOrd, DL.isNon, addE, subE, biS, rdS, rdL_new, Bool.not_true, Bool.not_false, if_true, if_false, Bool.false_eq_true, Bool.true_eq_false, reduceIte, true_and, and_true, decide_true, decide_false, vGet_0, vGet_1, slcT, addT, ha1, List.length_map])
                have hrem : (cs.drop (i + 1)).length = cs.length - (i + 1) := List.length_drop
                generalize 2 ^ (10 - (m + 1)) = z
                by_cases hcnd : ((cs.length : Nat) : Int) - (i : Nat) - 1 ≤ (R : Nat) - (z : Int)
                · simp only [hcnd, decide_true, if_true]
                  have hzR : z ≤ R := by omega
                  refine ⟨cs, i + 1, R - z, kv1, ha1, hak, hl, hc, by omega, by omega, by omega, by omega, by omega, by omega, hk1, hm1, fun N kv2 v hU2 hk2 hm2 ho => ?_⟩
                  simp only [hzR, if_true, ho]
                  exact ⟨kv2, rfl, hU.trans hU2, hk2, hm2⟩
                · simp only [hcnd, decide_false, Bool.false_eq_true, if_false]
                  have : (if z ≤ R then Fi.opt 10 (cs.drop (i + 1)) (R - z) else none) = none := by
                    split
                    · exact opt_short (by omega)
                    · rfl
                  rw [this]
                  exact ⟨kv1, rfl, hU, hk1, hm1⟩
              · rintro ρ' M2 ⟨kv2, rfl, hU2, hk2, hm2⟩
                refine ⟨M2, Sub.rfl', wp_last ?_⟩
                have ha2 := hU2.rdL hak ha
                have hget2 : vGet (.obj a) (.int (i : Nat)) M2 = fun Q => Q (.int c) M2 := by
                  funext Q; exact vGet_lst ha2 (by rw [List.getElem?_map, ec]; rfl)
                have estep : Fi.stepO (beg10 (cs.drop (i + 1)) c R) (m + 1) = (match beg10 (cs.drop (i + 1)) c R (m + 1) with
                  | none => Fi.stepO (beg10 (cs.drop (i + 1)) c R) m
                  | some v => match Fi.stepO (beg10 (cs.drop (i + 1)) c R) m with
                    | none => some v
                    | some g => if v < g then some v else some g) := rfl
                rw [estep]
                have ebeg : beg10 (cs.drop (i + 1)) c R (m + 1) = (if 2 ^ (10 - (m + 1)) ≤ R then Fi.opt 10 (cs.drop (i + 1)) (R - 2 ^ (10 - (m + 1))) else none).map (c * ((m + 1 : Nat) : Int) + ·) := by
                  unfold beg10
                  split <;> rfl
                rw [ebeg]
                generalize (if 2 ^ (10 - (m + 1)) ≤ R then Fi.opt 10 (cs.drop (i + 1)) (R - 2 ^ (10 - (m + 1))) else none) = o
                generalize Fi.stepO (beg10 (cs.drop (i + 1)) c R) m = g
                (try simp only [DL.wpS, DL.wpE, DL.wpA, wpT, wpTs, wpBo, DL.wpI, wpIf, wpTg, wpTgs, optI, List.getElem?_cons_zero, List.getElem?_cons_succ, List.set_cons_succ, List.set_cons_zero, vTru, cmpS, vIsK, vLt, vLe, vGt, vGe, vOrd, DL.isNon, addE, subE, biS, rdS, rdL_new, Bool.not_true, Bool.not_false, if_true, if_false, Bool.false_eq_true, Bool.true_eq_false, reduceIte, true_and, and_true, decide_true, decide_false, vGet_0, vGet_1, slcT, addT])
                have mulc : ∀ M : Mem, binS .Mult (.int c) (.int ((m + 1 : Nat) : Int)) M = fun Q => Q (.int (c * ((m + 1 : Nat) : Int))) M := fun M => mulE hci.2 (by omega)
                cases o with
                | none =>
                  simp only [encO, DL.isNon, Bool.not_true, Bool.false_eq_true, if_false, Option.map_none]
                  exact wp_nil ⟨M2, Sub.rfl', _, _, _, kv2, rfl, hU2, hk2, hm2, by omega⟩
                | some r =>
                  cases g with
                  | none =>
                    simp only [encO, DL.isNon, Bool.not_false, if_true, Bool.true_eq_false, if_false, Option.map_some]
                    refine wp_last ?_
                    (try simp only [DL.wpS, DL.wpE, DL.wpA, wpT, wpTs, wpBo, DL.wpI, wpIf, wpTg, wpTgs, optI, List.getElem?_cons_zero, List.getElem?_cons_succ, List.set_cons_succ, List.set_cons_zero, vTru, cmpS, vIsK, vLt, vLe, vGt, vGe, vOrd, DL.isNon, addE, subE, biS, rdS, rdL_new, Bool.not_true, Bool.not_false, if_true, if_false, Bool.false_eq_true, Bool.true_eq_false, reduceIte, true_and, and_true, decide_true, decide_false, vGet_0, vGet_1, slcT, addT, hget2, mulc])
                    refine ⟨M2, Sub.rfl', some (.int ((m + 1 : Nat) : Int)), some (.int ((R : Nat) - ((2 ^ (10 - (m + 1)) : Nat) : Int))), some (.int r), kv2, ?_, hU2, hk2, hm2, by omega⟩
                    rw [Int.add_comm r]
                  | some y =>
                    simp only [encO, DL.isNon, Bool.not_false, if_true, Bool.false_eq_true, if_false, Option.map_some]
                    (try simp only [DL.wpS, DL.wpE, DL.wpA, wpT, wpTs, wpBo, DL.wpI, wpIf, wpTg, wpTgs, optI, List.getElem?_cons_zero, List.getElem?_cons_succ, List.set_cons_succ, List.set_cons_zero, vTru, cmpS, vIsK, vLt, vLe, vGt, vGe, vOrd, DL.isNon, addE, subE, biS, rdS, rdL_new, Bool.not_true, Bool.not_false, if_true, if_false, Bool.false_eq_true, Bool.true_eq_false, reduceIte, true_and, and_true, decide_true, decide_false, vGet_0, vGet_1, slcT, addT, hget2, mulc])
                    rw [Int.add_comm r]
                    by_cases hlt2 : c * ((m + 1 : Nat) : Int) + r < y
                    · simp only [hlt2, decide_true, if_true]
                      refine wp_last ?_
                      (try simp only [DL.wpS, DL.wpE, DL.wpA, wpT, wpTs, wpBo, DL.wpI, wpIf, wpTg, wpTgs, optI, List.getElem?_cons_zero, List.getElem?_cons_succ, List.set_cons_succ, List.set_cons_zero, vTru, cmpS, vIsK, vLt, vLe, vGt, vGe, vOrd, DL.isNon, addE, subE, biS, rdS, rdL_new, Bool.not_true, Bool.not_false, if_true, if_false, Bool.false_eq_true, Bool.true_eq_false, reduceIte, true_and, and_true, decide_true, decide_false, vGet_0, vGet_1, slcT, addT, hget2, mulc])
                      refine ⟨M2, Sub.rfl', some (.int ((m + 1 : Nat) : Int)), some (.int ((R : Nat) - ((2 ^ (10 - (m + 1)) : Nat) : Int))), some (.int r), kv2, ?_, hU2, hk2, hm2, by omega⟩
                      rw [Int.add_comm r]
                    · simp only [hlt2, decide_false, Bool.false_eq_true, if_false]
                      exact wp_nil ⟨M2, Sub.rfl', _, _, _, kv2, rfl, hU2, hk2, hm2, by omega⟩
            · rw [List.getElem?_eq_none (by rw [List.length_range]; omega)]
              have : m = 10 := by omega
              subst this
              exact ⟨x5, x6, x7, kv1, rfl, hU, hk1, hm1⟩
          · rintro ρ' M2 ⟨x5, x6, x7, kv2, rfl, hU2, hk2, hm2⟩
            obtain ⟨v, hv⟩ := Option.isSome_iff_exists.mp hsome
            rw [← hopt, hv]
            refine ⟨M2, Sub.rfl', wp_last ?_⟩
            have hlen := hm2.len
            (try simp only [DL.wpS, DL.wpE, DL.wpA, wpT, wpTs, wpBo, DL.wpI, wpIf, wpTg, wpTgs, optI, List.getElem?_cons_zero, List.getElem?_cons_succ, List.set_cons_succ, List.set_cons_zero, vTru, cmpS, vIsK, vLt, vLe, vGt, vGe, vOrd, DL.isNon, addE, subE, biS, rdS, rdL_new, Bool.not_true, Bool.not_false, if_true, if_false, Bool.false_eq_true, Bool.true_eq_false, reduceIte, true_and, and_true, decide_true, decide_false, vGet_0, vGet_1, slcT, addT, vSetG, isDct_dct hk2, vDSet, hk2, encO])
            refine ⟨hm2.key i R, by unfold big; omega, _, _, _, _, dput kv2 (keyM i R) (.int v), v, rfl, fun b hb => by rw [mup_ne hb]; exact hU2 b hb, mup_same, hm2.put (by omega) hR2 hv, ?_, rfl⟩
            rw [dlook_put, if_pos rfl]
      · rintro ρ' M2 ⟨x4, x5, x6, x7, kv2, v, rfl, hU2, hk2, hm2, hd, ho⟩
        refine ⟨M2, Sub.rfl', wp_last ?_⟩
        have hd' : dlook kv2 (.tup [.int (i : Nat), .int (R : Nat)]) = some (.int v) := hd
        (try simp only [DL.wpS, DL.wpE, DL.wpA, wpT, wpTs, wpBo, DL.wpI, wpIf, wpTg, wpTgs, optI, List.getElem?_cons_zero, List.getElem?_cons_succ, List.set_cons_succ, List.set_cons_zero, vTru, cmpS, vIsK, vLt, vLe, vGt, vGe, vOrd, DL.isNon, addE, subE, biS, rdS, rdL_new, Bool.not_true, Bool.not_false, if_true, if_false, Bool.false_eq_true, Bool.true_eq_false, reduceIte, true_and, and_true, decide_true, decide_false, vGet_0, vGet_1, slcT, addT, vGet, isDct_dct hk2, vDIdx, hk2, hd'])
        exact ⟨hm2.key i R, rt_of (hq M2 kv2 v hU2 hk2 hm2 ho) Sub.rfl'⟩
  · exact hh.elim
end H41
set_option Elab.async false
set_option linter.all false
set_option maxRecDepth 100000
set_option maxHeartbeats 1000000
namespace H41
open PySem PySem.Spec PyProof.Rows L2 DL
def lsF (cs : List Int) (e : Bool) : List Nat := if cs.length < 2 then List.replicate cs.length (if e then 1 else 0) else leastF cs 256
def mostN : Nat := 8
def sp_lleast : SpD := fun ds M Q _ => match ds with
  | [.obj a, .bl e] => ∃ cs : List Int, rdL M a = some (cs.map .int) ∧ cs.length ≤ mostN + 1 ∧ (∀ c ∈ cs, 0 ≤ c ∧ cOk c) ∧ ∀ q, M q = none → Q (.obj q) (mup M q (.lst ((lsF cs e).map fun m : Nat => D.int (m : Nat))))
  | _ => False
theorem fresh_of' {M N : Mem} (s : Sub M N) {p : Addr} (h : N p = none) : M p = none := by
  cases e : M p with
  | none => rfl
  | some o => rw [s p o e] at h; cases h
theorem Upd.sub {M N N' : Mem} {p : Addr} (s : Sub M N) (h : M p = none) (u : Upd p N N') : Sub M N' := fun a o e => by
  have : a ≠ p := fun z => by rw [z, h] at e; cases e
  rw [u a this]; exact s a o e
theorem h__law_least (k : Nat) : ∀ ds M Q0 E0, sp_lleast ds M Q0 E0 → ds.length = 2 ∧ wpSs ⟨[C__law_cheapest k (sp_cheap 10)], sub, fdOf cf⟩ (wF E0) none m__law_least (endsF Q0) (startD N__law_least.length ds) M := by
  intro ds M Q0 E0 hh
  unfold sp_lleast at hh
  split at hh
  · rename_i a e
    obtain ⟨cs, ha, hl, hc, hq⟩ := hh
    replace hl : cs.length ≤ 9 := hl
    refine ⟨rfl, ?_⟩
    unfold m__law_least
    refine wp_cons ?_
    show DL.wpS _ _ _ _ _ [some (.obj a), some (.bl e), none, none, none, none, none, none, none, none] M
    (try simp only [DL.wpS, DL.wpE, DL.wpA, wpT, wpTs, wpBo, DL.wpI, wpIf, wpTg, wpTgs, optI, List.getElem?_cons_zero, List.getElem?_cons_succ, List.set_cons_succ, List.set_cons_zero, vTru, cmpS, vIsK, vLt, vLe, vGt, vGe, vOrd, DL.isNon, addE, subE, biS, rdS, rdL_new, Bool.not_true, Bool.not_false, if_true, if_false, Bool.false_eq_true, Bool.true_eq_false, reduceIte, true_and, and_true, decide_true, decide_false, vGet_0, vGet_1, slcT, addT, ha, List.length_map])
    by_cases h2 : (cs.length : Int) < 2
    · simp only [h2, decide_true, if_true]
      refine wp_last ?_
      (try simp only [DL.wpS, DL.wpE, DL.wpA, wpT, wpTs, wpBo, DL.wpI, wpIf, wpTg, wpTgs, optI, List.getElem?_cons_zero, List.getElem?_cons_succ, List.set_cons_succ, List.set_cons_zero, vTru, cmpS, vIsK, vLt, vLe, vGt, vGe, vOrd, DL.isNon, addE, subE, biS, rdS, rdL_new, Bool.not_true, Bool.not_false, if_true, if_false, Bool.false_eq_true, Bool.true_eq_false, reduceIte, true_and, and_true, decide_true, decide_false, vGet_0, vGet_1, slcT, addT])
      intro p hp
      have hap : a ≠ p := Upd_none ha hp
      simp only [rdL_up hap, ha, List.length_map]
      rw [mulL mup_same]
      refine ⟨⟨by omega, by omega, by simp [big]; omega⟩, fun q hq' => ?_⟩
      obtain ⟨nqp, hq0⟩ := mup_none hq'
      have es : lsF cs e = List.replicate cs.length (if e then 1 else 0) := by unfold lsF; rw [if_pos (by omega)]
      have := hq q hq0
      rw [es] at this
      have e3 : (List.replicate ((cs.length : Nat) : Int).toNat [D.int (if e = true then 1 else 0)]).flatten = (List.replicate cs.length (if e then 1 else 0)).map fun m : Nat => D.int (m : Nat) := by
        rw [Int.toNat_natCast, List.map_replicate]
        have : ∀ n : Nat, (List.replicate n [D.int (if e = true then 1 else 0)]).flatten = List.replicate n (D.int (((if e then 1 else 0) : Nat) : Int)) := by
          intro n
          induction n with
          | zero => rfl
          | succ n ih => rw [List.replicate_succ, List.flatten_cons, ih, List.replicate_succ]; cases e <;> rfl
        exact this _
      rw [e3]
      exact rt_of this (sub_mup (Sub.new hp))
    · simp only [h2, decide_false, Bool.false_eq_true, if_false]
      refine wp_nil ?_
      refine wp_cons ?_
      (try simp only [DL.wpS, DL.wpE, DL.wpA, wpT, wpTs, wpBo, DL.wpI, wpIf, wpTg, wpTgs, optI, List.getElem?_cons_zero, List.getElem?_cons_succ, List.set_cons_succ, List.set_cons_zero, vTru, cmpS, vIsK, vLt, vLe, vGt, vGe, vOrd, DL.isNon, addE, subE, biS, rdS, rdL_new, Bool.not_true, Bool.not_false, if_true, if_false, Bool.false_eq_true, Bool.true_eq_false, reduceIte, true_and, and_true, decide_true, decide_false, vGet_0, vGet_1, slcT, addT])
      intro kd hkd fd hfd
      have hkf : kd ≠ fd := ne_none mup_same hfd
      have hMf : M fd = none := (mup_none hfd).2
      have hak : a ≠ kd := Upd_none ha hkd
      have haf : a ≠ fd := Upd_none ha hMf
      have s0 := (Sub.new hkd (o := .dct [])).trans (Sub.new hfd (o := .lst []))
      have k0 : mup (mup M kd (.dct [])) fd (.lst []) kd = some (.dct []) := get_up mup_same hfd
      have f0 : mup (mup M kd (.dct [])) fd (.lst []) fd = some (.lst []) := mup_same
      generalize mup (mup M kd (.dct [])) fd (.lst []) = M0 at s0 k0 f0
      refine wp_cons ?_
      (try simp only [DL.wpS, DL.wpE, DL.wpA, wpT, wpTs, wpBo, DL.wpI, wpIf, wpTg, wpTgs, optI, List.getElem?_cons_zero, List.getElem?_cons_succ, List.set_cons_succ, List.set_cons_zero, vTru, cmpS, vIsK, vLt, vLe, vGt, vGe, vOrd, DL.isNon, addE, subE, biS, rdS, rdL_new, Bool.not_true, Bool.not_false, if_true, if_false, Bool.false_eq_true, Bool.true_eq_false, reduceIte, true_and, and_true, decide_true, decide_false, vGet_0, vGet_1, slcT, addT, rdL_sub s0 ha, List.length_map, rngOf])
      refine ⟨by omega, by omega, ?_⟩
      refine ⟨fun i ρ M' => ∃ (pre : List Nat) (R : Nat) (kvs : List (D × D)) (x5 x6 x7 x8 x9 : Option D), ρ = [some (.obj a), some (.bl e), some (.obj kd), some (.int (R : Nat)), some (.obj fd), x5, x6, x7, x8, x9] ∧ Sub M M' ∧ M' kd = some (.dct kvs) ∧ Memo cs kvs ∧ M' fd = some (.lst (pre.map fun m : Nat => D.int (m : Nat))) ∧ pre.length = i ∧ i ≤ cs.length ∧ cs.length - i ≤ R ∧ R ≤ 1024 ∧ ∀ r, Fi.Picked 10 (cs.drop i) R r → Fi.Picked 10 cs 1024 (pre ++ r),
        ⟨[], 1024, [], none, none, none, none, none, rfl, s0, k0, .nil cs, f0, rfl, Nat.zero_le _, by omega, Nat.le_refl _, fun r h => h⟩, ?_⟩
      rintro i ρ M1 ⟨pre, R, kvs, x5, x6, x7, x8, x9, rfl, hs, hk1, hm1, hf1, hpl, hi, hR, hR2, hpk⟩
      simp only [range_get_z]
      by_cases hin : (i : Int) < (cs.length : Nat)
      · simp only [hin, if_true]
        have hi' : i < cs.length := by omega
        have ec : cs[i]? = some cs[i] := List.getElem?_eq_getElem hi'
        have hdr : cs.drop i = cs[i] :: cs.drop (i + 1) := List.drop_eq_getElem_cons hi'
        have hci := hc _ (List.getElem_mem hi')
        generalize cs[i] = c at ec hdr hci
        (try simp only [DL.wpS, DL.wpE, DL.wpA, wpT, wpTs, wpBo, DL.wpI, wpIf, wpTg, wpTgs, optI, List.getElem?_cons_zero, List.getElem?_cons_succ, List.set_cons_succ, List.set_cons_zero, vTru, cmpS, vIsK, vLt, vLe, vGt, vGe, vOrd, DL.isNon, addE, subE, biS, rdS, rdL_new, Bool.not_true, Bool.not_false, if_true, if_false, Bool.false_eq_true, Bool.true_eq_false, reduceIte, true_and, and_true, decide_true, decide_false, vGet_0, vGet_1, slcT, addT])
        refine wp_cons ?_
        (try simp only [DL.wpS, DL.wpE, DL.wpA, wpT, wpTs, wpBo, DL.wpI, wpIf, wpTg, wpTgs, optI, List.getElem?_cons_zero, List.getElem?_cons_succ, List.set_cons_succ, List.set_cons_zero, vTru, cmpS, vIsK, vLt, vLe, vGt, vGe, vOrd, DL.isNon, addE, subE, biS, rdS, rdL_new, Bool.not_true, Bool.not_false, if_true, if_false, Bool.false_eq_true, Bool.true_eq_false, reduceIte, true_and, and_true, decide_true, decide_false, vGet_0, vGet_1, slcT, addT])
        refine ⟨cs, i, R, kvs, rdL_sub hs ha, hak, hl, hc, rfl, rfl, hi, by omega, hR, hR2, hk1, hm1, fun M2 kv2 v hU2 hk2 hm2 ho => ?_⟩
        have hs2 := Upd.sub hs hkd hU2
        have hf2 := (hU2 fd (Ne.symm hkf)).trans hf1
        have hob : Fi.stepO (beg10 (cs.drop (i + 1)) c R) 10 = some v := by rw [← ho, hdr]; rfl
        obtain ⟨⟨m0, b1, b2, b3⟩, _⟩ := Fi.stepO_some hob
        refine wp_cut (fun ρ' M' => ∃ m x8 x9 kv3, ρ' = [some (.obj a), some (.bl e), some (.obj kd), some (.int (R : Nat)), some (.obj fd), some (.int (i : Nat)), some (.int v), some (.int (m : Nat)), x8, x9] ∧ Upd kd M2 M' ∧ M' kd = some (.dct kv3) ∧ Memo cs kv3 ∧ 1 ≤ m ∧ m ≤ 10 ∧ beg10 (cs.drop (i + 1)) c R m = some v ∧ ∀ j, 1 ≤ j → j < m → beg10 (cs.drop (i + 1)) c R j ≠ some v) ?_ ?_
        · (try simp only [DL.wpS, DL.wpE, DL.wpA, wpT, wpTs, wpBo, DL.wpI, wpIf, wpTg, wpTgs, optI, List.getElem?_cons_zero, List.getElem?_cons_succ, List.set_cons_succ, List.set_cons_zero, vTru, cmpS, vIsK, vLt, vLe, vGt, vGe, vOrd, DL.isNon, addE, subE, biS, rdS, rdL_new, Bool.not_true, Bool.not_false, if_true, if_false, Bool.false_eq_true, Bool.true_eq_false, reduceIte, true_and, and_true, decide_true, decide_false, vGet_0, vGet_1, slcT, addT, rngOf])
          refine ⟨⟨by decide, by decide, by decide, by decide⟩, ?_⟩
          refine ⟨fun m ρ M' => ∃ x7 x8 x9 kv3, ρ = [some (.obj a), some (.bl e), some (.obj kd), some (.int (R : Nat)), some (.obj fd), some (.int (i : Nat)), some (.int v), x7, x8, x9] ∧ Upd kd M2 M' ∧ M' kd = some (.dct kv3) ∧ Memo cs kv3 ∧ m ≤ 10 ∧ ∀ j, 1 ≤ j → j ≤ m → beg10 (cs.drop (i + 1)) c R j ≠ some v, ⟨x7, x8, x9, kv2, rfl, Upd.rfl', hk2, hm2, by decide, fun j h1 h2 => by omega⟩, ?_⟩
          rintro m ρ M3 ⟨x7, x8, x9, kv3, rfl, hU3, hk3, hm3, hm10, hno⟩
          rw [List.getElem?_map]
          by_cases hlt : m < 10
          · rw [List.getElem?_range (by omega)]
            have em : (1 : Int) + ((m : Nat) : Int) = ((m + 1 : Nat) : Int) := by omega
            simp only [Option.map_some]
            rw [em]
            (try simp only [DL.wpS, DL.wpE, DL.wpA, wpT, wpTs, wpBo, DL.wpI, wpIf, wpTg, wpTgs, optI, List.getElem?_cons_zero, List.getElem?_cons_succ, List.set_cons_succ, List.set_cons_zero, vTru, cmpS, vIsK, vLt, vLe, vGt, vGe, vOrd, DL.isNon, addE, subE, biS, rdS, rdL_new, Bool.not_true, Bool.not_false, if_true, if_false, Bool.false_eq_true, Bool.true_eq_false, reduceIte, true_and, and_true, decide_true, decide_false, vGet_0, vGet_1, slcT, addT])
            refine wp_cons ?_
            (try simp only [DL.wpS, DL.wpE, DL.wpA, wpT, wpTs, wpBo, DL.wpI, wpIf, wpTg, wpTgs, optI, List.getElem?_cons_zero, List.getElem?_cons_succ, List.set_cons_succ, List.set_cons_zero, vTru, cmpS, vIsK, vLt, vLe, vGt, vGe, vOrd, DL.isNon, addE, subE, biS, rdS, rdL_new, Bool.not_true, Bool.not_false, if_true, if_false, Bool.false_eq_true, Bool.true_eq_false, reduceIte, true_and, and_true, decide_true, decide_false, vGet_0, vGet_1, slcT, addT, shr10 (show 1 ≤ m + 1 by omega) (show m + 1 ≤ 10 by omega)])
            have hs3 := Upd.sub hs2 hkd hU3
            have ha3 := rdL_sub hs3 ha
            refine wp_cut (fun ρ' M' => ∃ kv4, ρ' = [some (.obj a), some (.bl e), some (.obj kd), some (.int (R : Nat)), some (.obj fd), some (.int (i : Nat)), some (.int v), some (.int ((m + 1 : Nat) : Int)), some (.int ((R : Nat) - ((2 ^ (10 - (m + 1)) : Nat) : Int))), some (encO (if 2 ^ (10 - (m + 1)) ≤ R then Fi.opt 10 (cs.drop (i + 1)) (R - 2 ^ (10 - (m + 1))) else none))] ∧ Upd kd M2 M' ∧ M' kd = some (.dct kv4) ∧ Memo cs kv4) ?_ ?_
            · (try simp only [DL.wpS, DL.wpE, DL.wpA, wpT, wpTs, wpBo, DL.wpI, wpIf, wpTg, wpTgs, optI, List.getElem?_cons_zero, List.getElem?_cons_succ, List.set_cons_succ, List.set_cons_zero, vTru, cmpS, vIsK, vLt, vLe, vGt, vGe, vOrd, DL.isNon, addE, subE, biS, rdS, rdL_new, Bool.not_true, Bool.not_false, if_true, if_false, Bool.false_eq_true, Bool.true_eq_false, reduceIte, true_and, and_true, decide_true, decide_false, vGet_0, vGet_1, slcT, addT, ha3, List.length_map])
              have hrem : (cs.drop (i + 1)).length = cs.length - (i + 1) := List.length_drop
              generalize 2 ^ (10 - (m + 1)) = z
              by_cases hcnd : ((cs.length : Nat) : Int) - (i : Nat) - 1 ≤ (R : Nat) - (z : Int)
              · simp only [hcnd, decide_true, if_true]
                have hzR : z ≤ R := by omega
                refine ⟨cs, i + 1, R - z, kv3, ha3, hak, hl, hc, by omega, by omega, by omega, by omega, by omega, by omega, hk3, hm3, fun N kv4 w hU4 hk4 hm4 ho4 => ?_⟩
                simp only [hzR, if_true, ho4]
                exact ⟨kv4, rfl, hU3.trans hU4, hk4, hm4⟩
              · simp only [hcnd, decide_false, Bool.false_eq_true, if_false]
                have : (if z ≤ R then Fi.opt 10 (cs.drop (i + 1)) (R - z) else none) = none := by
                  split
                  · exact opt_short (by omega)
                  · rfl
                rw [this]
                exact ⟨kv3, rfl, hU3, hk3, hm3⟩
            · rintro ρ' M4 ⟨kv4, rfl, hU4, hk4, hm4⟩
              refine ⟨M4, Sub.rfl', wp_last ?_⟩
              have hs4 := Upd.sub hs2 hkd hU4
              have ha4 := rdL_sub hs4 ha
              have hget4 : vGet (.obj a) (.int (i : Nat)) M4 = fun Q => Q (.int c) M4 := by
                funext Q; exact vGet_lst ha4 (by rw [List.getElem?_map, ec]; rfl)
              have ebeg : beg10 (cs.drop (i + 1)) c R (m + 1) = (if 2 ^ (10 - (m + 1)) ≤ R then Fi.opt 10 (cs.drop (i + 1)) (R - 2 ^ (10 - (m + 1))) else none).map (c * ((m + 1 : Nat) : Int) + ·) := by
                unfold beg10
                split <;> rfl
              generalize (if 2 ^ (10 - (m + 1)) ≤ R then Fi.opt 10 (cs.drop (i + 1)) (R - 2 ^ (10 - (m + 1))) else none) = o at ebeg
              have mulc : ∀ M : Mem, binS .Mult (.int c) (.int ((m + 1 : Nat) : Int)) M = fun Q => Q (.int (c * ((m + 1 : Nat) : Int))) M := fun M => mulE hci.2 (by omega)
              have cont : beg10 (cs.drop (i + 1)) c R (m + 1) ≠ some v → ∀ j, 1 ≤ j → j ≤ m + 1 → beg10 (cs.drop (i + 1)) c R j ≠ some v := fun h j h1 h2 => by
                by_cases q : j = m + 1
                · rw [q]; exact h
                · exact hno j h1 (by omega)
              (try simp only [DL.wpS, DL.wpE, DL.wpA, wpT, wpTs, wpBo, DL.wpI, wpIf, wpTg, wpTgs, optI, List.getElem?_cons_zero, List.getElem?_cons_succ, List.set_cons_succ, List.set_cons_zero, vTru, cmpS, vIsK, vLt, vLe, vGt, vGe, vOrd, DL.isNon, addE, subE, biS, rdS, rdL_new, Bool.not_true, Bool.not_false, if_true, if_false, Bool.false_eq_true, Bool.true_eq_false, reduceIte, true_and, and_true, decide_true, decide_false, vGet_0, vGet_1, slcT, addT])
              cases o with
              | none =>
                simp only [encO, DL.isNon, Bool.not_true, Bool.false_eq_true, if_false]
                exact wp_nil ⟨M4, Sub.rfl', _, _, _, kv4, rfl, hU4, hk4, hm4, by omega, cont (by rw [ebeg]; exact fun h => nomatch h)⟩
              | some r =>
                simp only [encO, DL.isNon, Bool.not_false, if_true]
                (try simp only [DL.wpS, DL.wpE, DL.wpA, wpT, wpTs, wpBo, DL.wpI, wpIf, wpTg, wpTgs, optI, List.getElem?_cons_zero, List.getElem?_cons_succ, List.set_cons_succ, List.set_cons_zero, vTru, cmpS, vIsK, vLt, vLe, vGt, vGe, vOrd, DL.isNon, addE, subE, biS, rdS, rdL_new, Bool.not_true, Bool.not_false, if_true, if_false, Bool.false_eq_true, Bool.true_eq_false, reduceIte, true_and, and_true, decide_true, decide_false, vGet_0, vGet_1, slcT, addT, hget4, mulc, vEqK])
                by_cases heq : r + c * ((m + 1 : Nat) : Int) = v
                · simp only [heq, decide_true, if_true]
                  refine wp_last ?_
                  (try simp only [DL.wpS, DL.wpE, DL.wpA, wpT, wpTs, wpBo, DL.wpI, wpIf, wpTg, wpTgs, optI, List.getElem?_cons_zero, List.getElem?_cons_succ, List.set_cons_succ, List.set_cons_zero, vTru, cmpS, vIsK, vLt, vLe, vGt, vGe, vOrd, DL.isNon, addE, subE, biS, rdS, rdL_new, Bool.not_true, Bool.not_false, if_true, if_false, Bool.false_eq_true, Bool.true_eq_false, reduceIte, true_and, and_true, decide_true, decide_false, vGet_0, vGet_1, slcT, addT])
                  refine ⟨m + 1, _, _, kv4, rfl, hU4, hk4, hm4, by omega, by omega, ?_, fun j h1 h2 => hno j h1 (by omega)⟩
                  rw [ebeg]
                  show some (c * ((m + 1 : Nat) : Int) + r) = some v
                  rw [Int.add_comm, heq]
                · simp only [heq, decide_false, Bool.false_eq_true, if_false]
                  refine wp_nil ⟨M4, Sub.rfl', _, _, _, kv4, rfl, hU4, hk4, hm4, by omega, cont ?_⟩
                  rw [ebeg]
                  intro h
                  have : c * ((m + 1 : Nat) : Int) + r = v := Option.some.inj h
                  rw [Int.add_comm] at this
                  exact heq this
          · exact absurd b3 (hno m0 b1 (by omega))
        · rintro ρ' M5 ⟨m, y8, y9, kv5, rfl, hU5, hk5, hm5, m1, m2, hb, hno⟩
          have hs5 := Upd.sub hs2 hkd hU5
          have hf5 := (hU5 fd (Ne.symm hkf)).trans hf2
          refine ⟨M5, Sub.rfl', wp_cons ?_⟩
          (try simp only [DL.wpS, DL.wpE, DL.wpA, wpT, wpTs, wpBo, DL.wpI, wpIf, wpTg, wpTgs, optI, List.getElem?_cons_zero, List.getElem?_cons_succ, List.set_cons_succ, List.set_cons_zero, vTru, cmpS, vIsK, vLt, vLe, vGt, vGe, vOrd, DL.isNon, addE, subE, biS, rdS, rdL_new, Bool.not_true, Bool.not_false, if_true, if_false, Bool.false_eq_true, Bool.true_eq_false, reduceIte, true_and, and_true, decide_true, decide_false, vGet_0, vGet_1, slcT, addT, recv, BM.ty, rdL_of hf5, bmS, hf5])
          refine ⟨rfl, by rw [List.length_map, hpl]; unfold big; omega, ?_⟩
          refine wp_last ?_
          (try simp only [DL.wpS, DL.wpE, DL.wpA, wpT, wpTs, wpBo, DL.wpI, wpIf, wpTg, wpTgs, optI, List.getElem?_cons_zero, List.getElem?_cons_succ, List.set_cons_succ, List.set_cons_zero, vTru, cmpS, vIsK, vLt, vLe, vGt, vGe, vOrd, DL.isNon, addE, subE, biS, rdS, rdL_new, Bool.not_true, Bool.not_false, if_true, if_false, Bool.false_eq_true, Bool.true_eq_false, reduceIte, true_and, and_true, decide_true, decide_false, vGet_0, vGet_1, slcT, addT, shr10 m1 m2])
          have hb' := hb
          unfold beg10 at hb'
          have hbR : 2 ^ (10 - m) ≤ R := by
            split at hb'
            · assumption
            · cases hb'
          rw [if_pos hbR] at hb'
          have hrest : cs.length - (i + 1) ≤ R - 2 ^ (10 - m) := by
            cases hz : Fi.opt 10 (cs.drop (i + 1)) (R - 2 ^ (10 - m)) with
            | none => rw [hz] at hb'; cases hb'
            | some w =>
              by_cases hsh : R - 2 ^ (10 - m) < (cs.drop (i + 1)).length
              · rw [opt_short hsh] at hz; cases hz
              · rw [List.length_drop] at hsh; omega
          have hRe : ((R : Nat) : Int) - ((2 ^ (10 - m) : Nat) : Int) = ((R - 2 ^ (10 - m) : Nat) : Int) := by omega
          rw [hRe]
          refine ⟨_, Sub.rfl', pre ++ [m], R - 2 ^ (10 - m), kv5, _, _, _, _, _, rfl, ?_, ?_, hm5, ?_, by simp [hpl], by omega, hrest, Nat.le_trans (Nat.sub_le ..) hR2, fun r hr => ?_⟩
          · exact Sub.put0 hs5 hMf
          · rw [mup_ne hkf]; exact hk5
          · rw [mup_same]; simp
          · rw [List.append_assoc]
            refine hpk _ ?_
            rw [hdr]
            refine ⟨m, r, rfl, ⟨m1, m2⟩, hbR, ?_, fun j j1 j2 jb hj => ?_, hr⟩
            · rw [hb', ← hdr, ho]
            · refine hno j j1 j2 ?_
              unfold beg10
              rw [if_pos jb, hj, ← hdr, ho]
      · simp only [hin, if_false]
        have : i = cs.length := by omega
        subst this
        refine wp_last ?_
        (try simp only [DL.wpS, DL.wpE, DL.wpA, wpT, wpTs, wpBo, DL.wpI, wpIf, wpTg, wpTgs, optI, List.getElem?_cons_zero, List.getElem?_cons_succ, List.set_cons_succ, List.set_cons_zero, vTru, cmpS, vIsK, vLt, vLe, vGt, vGe, vOrd, DL.isNon, addE, subE, biS, rdS, rdL_new, Bool.not_true, Bool.not_false, if_true, if_false, Bool.false_eq_true, Bool.true_eq_false, reduceIte, true_and, and_true, decide_true, decide_false, vGet_0, vGet_1, slcT, addT])
        have hp := hpk [] (by rw [List.drop_length]; exact rfl)
        rw [List.append_nil] at hp
        have hbest : Fi.Best 10 (2 ^ 10) cs pre := (Fi.picked_best (Fi.opt_some (by decide) cs 1024 (by omega)) hp).1
        have eb := least_by hbest (by omega) (by omega) (by omega) fun c h => (hc c h).1
        have els : lsF cs e = pre := by unfold lsF; rw [if_neg (by omega), eb]
        have := hq fd hMf
        rw [els] at this
        refine rt_of this fun b o hb => ?_
        by_cases z : b = fd
        · subst z; rw [mup_same] at hb; cases hb; exact hf1
        · rw [mup_ne z] at hb; exact hs b o hb
  · exact hh.elim
end H41
set_option Elab.async false
set_option linter.all false
set_option maxRecDepth 100000
set_option maxHeartbeats 1000000
namespace H41
open PySem PySem.Spec PyProof.Rows L2 DL
/-! ### a dict made of two lists, looked up -/
def lkP (ps : List (D × D)) (k : D) : Option D := (ps.reverse.find? fun p => eqD p.1 k).map (·.2)
theorem lkP_snoc (ps : List (D × D)) (p : D × D) (k : D) : lkP (ps ++ [p]) k = if k = p.1 then some p.2 else lkP ps k := by
  unfold lkP
  rw [List.reverse_append, List.reverse_singleton, List.singleton_append, List.find?_cons]
  by_cases h : k = p.1
  · rw [if_pos h, eqD_iff.mpr h.symm]; rfl
  · have : eqD p.1 k = false := Bool.eq_false_iff.mpr fun z => h (eqD_eq _ _ z).symm
    rw [if_neg h, this]
theorem look_lk (ps : List (D × D)) (k : D) : dlook (ps.foldl (fun acc p => dput acc p.1 p.2) []) k = lkP ps k := by
  have key : ∀ qs : List (D × D), dlook (qs.reverse.foldl (fun acc p => dput acc p.1 p.2) []) k = lkP qs.reverse k := by
    intro qs
    induction qs with
    | nil => rfl
    | cons p qs ih => rw [List.reverse_cons, List.foldl_append, List.foldl_cons, List.foldl_nil, dlook_put, lkP_snoc, ih]
  have := key ps.reverse
  rwa [List.reverse_reverse] at this
/-- keys under another name -/
theorem find_ren {α : Type} (e1 e2 : α → D) (P : α → Prop) (i1 : ∀ a b, P a → P b → e1 a = e1 b → a = b) (i2 : ∀ a b, P a → P b → e2 a = e2 b → a = b) (k : α) (hk : P k) :
    ∀ (os : List (α × D)), (∀ o ∈ os, P o.1) → ((os.map fun o => (e1 o.1, o.2)).find? fun p => eqD p.1 (e1 k)).map (·.2) = ((os.map fun o => (e2 o.1, o.2)).find? fun p => eqD p.1 (e2 k)).map (·.2)
  | [], _ => rfl
  | o :: os, h => by
    rw [List.map_cons, List.map_cons, List.find?_cons, List.find?_cons]
    have ho := h o (List.mem_cons_self ..)
    have ih := find_ren e1 e2 P i1 i2 k hk os fun x hx => h x (List.mem_cons_of_mem _ hx)
    by_cases e : o.1 = k
    · rw [show eqD (e1 o.1) (e1 k) = true from eqD_iff.mpr (by rw [e]), show eqD (e2 o.1) (e2 k) = true from eqD_iff.mpr (by rw [e])]
      rfl
    · have h1 : eqD (e1 o.1) (e1 k) = false := Bool.eq_false_iff.mpr fun z => e (i1 _ _ ho hk (eqD_eq _ _ z))
      have h2 : eqD (e2 o.1) (e2 k) = false := Bool.eq_false_iff.mpr fun z => e (i2 _ _ ho hk (eqD_eq _ _ z))
      rw [h1, h2]; exact ih
theorem zip_ren {α : Type} (e1 e2 : α → D) (P : α → Prop) (i1 : ∀ a b, P a → P b → e1 a = e1 b → a = b) (i2 : ∀ a b, P a → P b → e2 a = e2 b → a = b) (k : α) (hk : P k) (os : List α) (ys : List D) (h : ∀ o ∈ os, P o) :
    dlook (zipD (os.map e1) ys) (e1 k) = dlook (zipD (os.map e2) ys) (e2 k) := by
  unfold zipD
  rw [look_lk, look_lk]
  unfold lkP
  have e : ∀ f : α → D, (os.map f).zip ys = (os.zip ys).map fun o => (f o.1, o.2) := fun f => by
    rw [List.zip_map_left]; rfl
  rw [e, e, ← List.map_reverse, ← List.map_reverse]
  exact find_ren e1 e2 P i1 i2 k hk _ fun o ho => h _ (List.of_mem_zip (List.mem_reverse.mp ho)).1
/-- the law's name of a choice: the end is the last number -/
def encL (n : Nat) (o : Option Nat) : D := .int ((o.getD n : Nat) : Int)
theorem chD_enc {n : Nat} {r : Row} (h : r.2.length = n) : chD n r = (chL r).map (encL n) := by
  unfold chD chL thereL
  rw [List.map_append, List.map_map, h]
  congr 1
  split <;> rfl
def ltO (n : Nat) (o : Option Nat) : Prop := ∀ l, o = some l → l < n
theorem chL_lt {n : Nat} {r : Row} (h : r.2.length = n) : ∀ o ∈ chL r, ltO n o := by
  intro o ho l e
  subst e
  unfold chL at ho
  rcases List.mem_append.mp ho with z | z
  · obtain ⟨k, hk, e⟩ := List.mem_map.mp z
    cases e
    rw [List.mem_filter, List.mem_range, h] at hk
    exact hk.1
  · split at z <;> simp at z
theorem encL_inj {n : Nat} (a b : Option Nat) (ha : ltO n a) (hb : ltO n b) (h : encL n a = encL n b) : a = b := by
  unfold encL at h
  have h' : a.getD n = b.getD n := by
    have := D.int.inj h; omega
  cases a <;> cases b <;> simp at h'
  · rfl
  · have := hb _ rfl; omega
  · have := ha _ rfl; omega
  · rw [h']
theorem look_same {n : Nat} {r : Row} (h : r.2.length = n) (ys : List D) (o : Option Nat) (ho : ltO n o) : dlook (zipD (chD n r) ys) (encL n o) = dlook (zipD ((chL r).map encStep) ys) (encStep o) := by
  rw [chD_enc h]
  exact zip_ren (encL n) encStep (ltO n) encL_inj (fun a b _ _ e => encStep_inj e) o ho _ ys (chL_lt h)
/-- the counts of the choices -/
def cntL (n : Nat) (cs : List (Nat × Option Nat)) (st : Nat) (r : Row) : List Int := (chL r).map fun o => ((cs.count (st, o) : Nat) : Int)
theorem cnts_eq (cs : List (Nat × Option Nat)) (st : Nat) (r : Row) (n : Nat) : cntsF (tally [] cs) st r = cntL n cs st r := by
  unfold cntsF cntL
  refine List.map_congr_left fun o _ => ?_
  rw [cntOf_tally]
  show 0 + _ = _
  omega
theorem chL_one {r : Row} {o : Option Nat} (h : chL r = [o]) : (o = none ↔ r.1 = true) := by
  unfold chL at h
  cases hb : r.1 with
  | true =>
    rw [hb] at h
    simp only [if_true] at h
    have := congrArg List.getLast? h
    simp at this
    simp [← this]
  | false =>
    rw [hb] at h
    simp only [Bool.false_eq_true, if_false, List.append_nil] at h
    have : o ∈ ((List.range r.2.length).filter fun l => ((r.2[l]?).join).isSome).map some := by rw [h]; simp
    obtain ⟨k, _, rfl⟩ := List.mem_map.mp this
    simp
/-- is the end the only choice -/
def isEnd (n : Nat) (r : Row) : Bool := decide (chD n r = [D.int (n : Nat)])
theorem lens_same {n : Nat} {r : Row} (h : r.2.length = n) (cs : List (Nat × Option Nat)) (st : Nat) : lsF (cntL n cs st r) (isEnd n r) = lensR (tally [] cs) st r := by
  unfold lensR lsF
  rw [cnts_eq cs st r n]
  have hl : (cntL n cs st r).length = (chL r).length := by unfold cntL; rw [List.length_map]
  cases e : chL r with
  | nil =>
    have : cntL n cs st r = [] := by unfold cntL; rw [e]; rfl
    rw [this]; rfl
  | cons o os =>
    cases os with
    | nil =>
      rw [hl, e]
      simp only [List.length_singleton, List.map_cons, List.map_nil, lensF]
      have hlt := chL_lt h o (by rw [e]; simp)
      have : isEnd n r = DL.isNon (encStep o) := by
        unfold isEnd
        rw [chD_enc h, e]
        cases o with
        | none => simp [encL, encStep, DL.isNon]
        | some l =>
          have := hlt l rfl
          simp [encL, encStep, DL.isNon]; omega
      rw [this]
      cases DL.isNon (encStep o) <;> simp
    | cons o2 os =>
      rw [hl, e]
      simp only [List.length_cons, List.map_cons]
      rw [if_neg (by omega)]
      rfl
theorem fit_get {kvs : List (D × D)} {st : Nat} {r : Row} {l s : Nat} (h : r.2[l]? = some (some s)) : ((enuL 0 (r.2.map encStep)).map (stepD (zipR kvs st r)))[l]? = some (.tup [(dlook (zipR kvs st r) (.int (l : Nat))).getD .non, .int (s : Nat)]) := by
  rw [List.getElem?_map, enuL_get, List.getElem?_map, h]
  simp [encStep, stepD]
theorem fit_get0 {kvs : List (D × D)} {st : Nat} {r : Row} {l : Nat} (h : r.2[l]? = some none) : ((enuL 0 (r.2.map encStep)).map (stepD (zipR kvs st r)))[l]? = some .non := by
  rw [List.getElem?_map, enuL_get, List.getElem?_map, h]
  simp [encStep, stepD]
end H41
set_option Elab.async false
set_option linter.all false
set_option maxRecDepth 100000
set_option maxHeartbeats 1000000
namespace H41
open PySem PySem.Spec PyProof.Rows L2 DL
theorem TabAt.grow {M0 N N' : Mem} {q : Addr} {T : List (List Int)} {qs : List Addr} (h : TabAt M0 N q T qs) (s : Sub N N') : TabAt M0 N' q T qs :=
  ⟨s _ _ h.at_, h.len, fun i a r ha hr => s _ _ (h.row i a r ha hr), h.nd, h.ne, h.new, h.newq, h.sub.trans s⟩
theorem chK_getD {n : Nat} {o : Option Nat} (h : ltO n o) : chK n (o.getD n) = o ∧ o.getD n ≤ n := by
  cases o with
  | none => simp [chK]
  | some l => have := h l rfl; simp [chK]; omega
theorem ch_len {n : Nat} {r : Row} (h : r.2.length = n) : (chL r).length ≤ n + 1 := chL_len h
def sp_made : SpD := fun ds M Q _ => match ds with
  | [s, .tup ts] => ∃ (n : Nat) (rs : List Row), s = encShape n rs ∧ ShOk n rs ∧ n ≤ mostN ∧ areTexts n rs (.tup ts) = true ∧ Kw M (.tup ts) ∧ ∀ N, Sub M N → Q (fitD n rs (.tup ts)) N
  | _ => False
theorem fresh_of {M N : Mem} (s : Sub M N) {p : Addr} (h : N p = none) : M p = none := by
  cases e : M p with
  | none => rfl
  | some o => rw [s p o e] at h; cases h
theorem h__law_made (k k2 k3 : Nat) : ∀ ds M Q0 E0, sp_made ds M Q0 E0 → ds.length = 2 ∧ wpSs ⟨[C__law_counts k sp_counts, C__law_choices k2 sp_choices, C__law_least k3 sp_lleast], sub, fdOf cf⟩ (wF E0) none m__law_made (endsF Q0) (startD N__law_made.length ds) M := by
  intro ds M Q0 E0 hh
  unfold sp_made at hh
  split at hh
  · rename_i s ts
    obtain ⟨n, rs, rfl, hS, hn, hA, hK, hq⟩ := hh
    refine ⟨rfl, ?_⟩
    have n8 := hS.n8
    have r30 := hS.r30
    unfold m__law_made
    have el : (encRows rs).length = rs.length := by unfold encRows; simp
    obtain ⟨cs, ecs⟩ : ∃ cs, cs = taken rs (.tup ts) := ⟨_, rfl⟩
    have hcnt : ∀ c, cOk ((cs.count c : Nat) : Int) := fun c => by
      have := cnt_ok (rs := rs) hK c
      rw [cntOf_tally] at this
      have h0 : cntOf [] c = 0 := rfl
      rw [h0, Int.zero_add] at this
      rw [ecs]; exact this
    obtain ⟨kvs, ekv⟩ : ∃ kvs, kvs = tally [] cs := ⟨_, rfl⟩
    have hfit : fitD n rs (.tup ts) = .tup [.int (n : Nat), .tup (fitRows kvs 0 rs)] := by unfold fitD; rw [ekv, ecs]
    refine wp_cons ?_
    show DL.wpS _ _ _ _ _ [some (encShape n rs), some (.tup ts), none, none, none, none, none, none, none, none, none] M
    (try simp only [DL.wpS, DL.wpE, DL.wpA, wpT, wpTs, wpBo, DL.wpI, wpIf, wpTg, wpTgs, optI, List.getElem?_cons_zero, List.getElem?_cons_succ, List.set_cons_succ, List.set_cons_zero, vTru, cmpS, vIsK, vLt, vLe, vGt, vGe, vOrd, DL.isNon, addE, subE, biS, rdS, rdL_new, Bool.not_true, Bool.not_false, if_true, if_false, Bool.false_eq_true, Bool.true_eq_false, reduceIte, true_and, and_true, decide_true, decide_false, vGet_0, vGet_1, slcT, addT])
    refine ⟨n, rs, rfl, hS, hA, fun N q qs hT => ?_⟩
    rw [← ecs] at hT
    intro p hp
    (try simp only [DL.wpS, DL.wpE, DL.wpA, wpT, wpTs, wpBo, DL.wpI, wpIf, wpTg, wpTgs, optI, List.getElem?_cons_zero, List.getElem?_cons_succ, List.set_cons_succ, List.set_cons_zero, vTru, cmpS, vIsK, vLt, vLe, vGt, vGe, vOrd, DL.isNon, addE, subE, biS, rdS, rdL_new, Bool.not_true, Bool.not_false, if_true, if_false, Bool.false_eq_true, Bool.true_eq_false, reduceIte, true_and, and_true, decide_true, decide_false, vGet_0, vGet_1, slcT, addT])
    have hT1 := hT.grow (Sub.new hp (o := .lst []))
    have hMp := fresh_of hT.sub hp
    have hpqs : ∀ i a, qs[i]? = some a → a ≠ p := fun i a ha z => by
      subst z
      have hi : i < rs.length := by have := some_lt ha; rw [hT.len] at this; simpa [tabC] using this
      rw [hT.row i a _ ha (tab_get hi)] at hp; cases hp
    have hpq : q ≠ p := fun z => by subst z; rw [hT.at_] at hp; cases hp
    refine wp_cons ?_
    (try simp only [DL.wpS, DL.wpE, DL.wpA, wpT, wpTs, wpBo, DL.wpI, wpIf, wpTg, wpTgs, optI, List.getElem?_cons_zero, List.getElem?_cons_succ, List.set_cons_succ, List.set_cons_zero, vTru, cmpS, vIsK, vLt, vLe, vGt, vGe, vOrd, DL.isNon, addE, subE, biS, rdS, rdL_new, Bool.not_true, Bool.not_false, if_true, if_false, Bool.false_eq_true, Bool.true_eq_false, reduceIte, true_and, and_true, decide_true, decide_false, vGet_0, vGet_1, slcT, addT, encShape, el, rngOf])
    refine ⟨by omega, by omega, ?_⟩
    refine ⟨fun i ρ M' => ∃ x4 x5 x6 x8 x9, ρ = [some (encShape n rs), some (.tup ts), some (.obj q), some (.obj p), x4, x5, x6, none, x8, x9, none] ∧ TabAt M M' q (tabC n rs.length cs) qs ∧ M' p = some (.lst ((fitRows kvs 0 rs).take i)) ∧ i ≤ rs.length, ⟨none, none, none, none, none, rfl, hT1, by rw [mup_same]; rfl, Nat.zero_le _⟩, ?_⟩
    rintro i ρ M1 ⟨x4, x5, x6, x8, x9, rfl, hT2, hP, hi⟩
    simp only [range_get_z]
    by_cases hin : (i : Int) < (rs.length : Nat)
    · simp only [hin, if_true]
      have hin' : i < rs.length := by omega
      have f1 : rs[i]? = some rs[i] := List.getElem?_eq_getElem hin'
      have hlen := hS.len _ (List.getElem_mem hin')
      generalize rs[i] = row at f1 hlen
      (try simp only [DL.wpS, DL.wpE, DL.wpA, wpT, wpTs, wpBo, DL.wpI, wpIf, wpTg, wpTgs, optI, List.getElem?_cons_zero, List.getElem?_cons_succ, List.set_cons_succ, List.set_cons_zero, vTru, cmpS, vIsK, vLt, vLe, vGt, vGe, vOrd, DL.isNon, addE, subE, biS, rdS, rdL_new, Bool.not_true, Bool.not_false, if_true, if_false, Bool.false_eq_true, Bool.true_eq_false, reduceIte, true_and, and_true, decide_true, decide_false, vGet_0, vGet_1, slcT, addT])
      refine wp_cons ?_
      (try simp only [DL.wpS, DL.wpE, DL.wpA, wpT, wpTs, wpBo, DL.wpI, wpIf, wpTg, wpTgs, optI, List.getElem?_cons_zero, List.getElem?_cons_succ, List.set_cons_succ, List.set_cons_zero, vTru, cmpS, vIsK, vLt, vLe, vGt, vGe, vOrd, DL.isNon, addE, subE, biS, rdS, rdL_new, Bool.not_true, Bool.not_false, if_true, if_false, Bool.false_eq_true, Bool.true_eq_false, reduceIte, true_and, and_true, decide_true, decide_false, vGet_0, vGet_1, slcT, addT])
      refine ⟨n, rs, i, row, rfl, hS, rfl, f1, fun q1 hq1 => ?_⟩
      have hT3 := hT2.grow (Sub.new hq1 (o := .lst (chD n row)))
      have hP3 : mup M1 q1 (.lst (chD n row)) p = _ := get_up hP hq1
      have hq1' : mup M1 q1 (.lst (chD n row)) q1 = some (.lst (chD n row)) := mup_same
      generalize mup M1 q1 (.lst (chD n row)) = M3 at hT3 hP3 hq1'
      refine wp_cons ?_
      have hqs : qs[i]? = some (qs[i]'(by rw [hT.len]; simpa [tabC] using hin')) := List.getElem?_eq_getElem _
      generalize qs[i]'(by rw [hT.len]; simpa [tabC] using hin') = a at hqs
      have hrow := hT3.row i a _ hqs (tab_get hin')
      have clen := ch_len hlen
      (try simp only [DL.wpS, DL.wpE, DL.wpA, wpT, wpTs, wpBo, DL.wpI, wpIf, wpTg, wpTgs, optI, List.getElem?_cons_zero, List.getElem?_cons_succ, List.set_cons_succ, List.set_cons_zero, vTru, cmpS, vIsK, vLt, vLe, vGt, vGe, vOrd, DL.isNon, addE, subE, biS, rdS, rdL_new, Bool.not_true, Bool.not_false, if_true, if_false, Bool.false_eq_true, Bool.true_eq_false, reduceIte, true_and, and_true, decide_true, decide_false, vGet_0, vGet_1, slcT, addT, itsOf, rdL_of hq1'])
      refine lc_map (fun d => match d with | .int z => .int ((cs.count (i, chK n z.toNat) : Nat) : Int) | _ => .non) (rdL_of hq1') _ _ (by rw [chD_enc hlen, List.length_map]; unfold big; omega) (fun d hd K1 h1 => ?_) fun q2 hq2 => ?_
      · rw [chD_enc hlen] at hd
        obtain ⟨o, ho, rfl⟩ := List.mem_map.mp hd
        obtain ⟨c1, c2⟩ := chK_getD (chL_lt hlen o ho)
        unfold encL at h1 ⊢
        dsimp only at h1
        rw [Int.toNat_natCast] at h1
        have hget : vGet (.obj a) (.int ((o.getD n : Nat) : Int)) M3 = fun Q => Q (.int ((cs.count (i, chK n (o.getD n)) : Nat) : Int)) M3 := by
          funext Q
          exact vGet_lst (rdL_of hrow) (by rw [List.getElem?_map, row_get c2]; rfl)
        try simp only [wipeD, List.map_cons, List.map_nil]
        (try simp only [DL.wpS, DL.wpE, DL.wpA, wpT, wpTs, wpBo, DL.wpI, wpIf, wpTg, wpTgs, optI, List.getElem?_cons_zero, List.getElem?_cons_succ, List.set_cons_succ, List.set_cons_zero, vTru, cmpS, vIsK, vLt, vLe, vGt, vGe, vOrd, DL.isNon, addE, subE, biS, rdS, rdL_new, Bool.not_true, Bool.not_false, if_true, if_false, Bool.false_eq_true, Bool.true_eq_false, reduceIte, true_and, and_true, decide_true, decide_false, vGet_0, vGet_1, slcT, addT, tab_idx hT3 hqs, hget])
        exact h1
      · have eC : (chD n row).map (fun d => match d with | .int z => D.int ((cs.count (i, chK n z.toNat) : Nat) : Int) | _ => .non) = (cntL n cs i row).map D.int := by
          rw [chD_enc hlen]
          unfold cntL
          rw [List.map_map, List.map_map]
          refine List.map_congr_left fun o ho => ?_
          show D.int ((cs.count (i, chK n ((o.getD n : Nat) : Int).toNat) : Nat) : Int) = _
          rw [Int.toNat_natCast, (chK_getD (chL_lt hlen o ho)).1]
          rfl
        rw [eC]
        (try simp only [DL.wpS, DL.wpE, DL.wpA, wpT, wpTs, wpBo, DL.wpI, wpIf, wpTg, wpTgs, optI, List.getElem?_cons_zero, List.getElem?_cons_succ, List.set_cons_succ, List.set_cons_zero, vTru, cmpS, vIsK, vLt, vLe, vGt, vGe, vOrd, DL.isNon, addE, subE, biS, rdS, rdL_new, Bool.not_true, Bool.not_false, if_true, if_false, Bool.false_eq_true, Bool.true_eq_false, reduceIte, true_and, and_true, decide_true, decide_false, vGet_0, vGet_1, slcT, addT, encShape])
        intro q3 hq3
        have n21 : q1 ≠ q2 := ne_none hq1' hq2
        have hq1'' := get_up (o := .lst [D.int (n : Nat)]) (get_up (o := .lst ((cntL n cs i row).map D.int)) hq1' hq2) hq3
        have eI : (chD n row) = ((chL row).map fun o => ((o.getD n : Nat) : Int)).map D.int := by rw [chD_enc hlen, List.map_map]; rfl
        have hI := rdL_of hq1''
        rw [eI] at hI
        have hv := vEq_ints (neg := false) (js := [((n : Nat) : Int)]) (b := q3) hI rdL_new
        (try simp only [DL.wpS, DL.wpE, DL.wpA, wpT, wpTs, wpBo, DL.wpI, wpIf, wpTg, wpTgs, optI, List.getElem?_cons_zero, List.getElem?_cons_succ, List.set_cons_succ, List.set_cons_zero, vTru, cmpS, vIsK, vLt, vLe, vGt, vGe, vOrd, DL.isNon, addE, subE, biS, rdS, rdL_new, Bool.not_true, Bool.not_false, if_true, if_false, Bool.false_eq_true, Bool.true_eq_false, reduceIte, true_and, and_true, decide_true, decide_false, vGet_0, vGet_1, slcT, addT, hv])
        have eE : decide (((chL row).map fun o => ((o.getD n : Nat) : Int)) = [((n : Nat) : Int)]) = isEnd n row := by
          unfold isEnd
          rw [eI]
          refine decide_eq_decide.mpr ⟨fun e => by rw [e]; rfl, fun e => ?_⟩
          have : ((chL row).map fun o => ((o.getD n : Nat) : Int)).map D.int = [((n : Nat) : Int)].map D.int := e
          exact (List.map_inj_right (f := D.int) fun x y e => D.int.inj e).mp this
        have hlc : (cntL n cs i row).length = (chL row).length := by unfold cntL; rw [List.length_map]
        refine ⟨cntL n cs i row, rdL_of (get_up mup_same hq3), by rw [hlc]; exact Nat.le_trans clen (Nat.succ_le_succ hn), fun c hc => ?_, fun q4 hq4 => ?_⟩
        · unfold cntL at hc
          obtain ⟨o, _, rfl⟩ := List.mem_map.mp hc
          exact ⟨by omega, hcnt _⟩
        · rw [eE, lens_same hlen cs i, ← ekv]
          have hT5 := ((hT3.grow (Sub.new hq2 (o := .lst ((cntL n cs i row).map D.int)))).grow (Sub.new hq3 (o := .lst [D.int (n : Nat)]))).grow (Sub.new hq4 (o := .lst ((lensR kvs i row).map fun m : Nat => D.int (m : Nat))))
          have hP5 := get_up (o := .lst ((lensR kvs i row).map fun m : Nat => D.int (m : Nat))) (get_up (o := .lst [D.int (n : Nat)]) (get_up (o := .lst ((cntL n cs i row).map D.int)) hP3 hq2) hq3) hq4
          have h15 := get_up (o := .lst ((lensR kvs i row).map fun m : Nat => D.int (m : Nat))) hq1'' hq4
          have h45 : mup (mup (mup M3 q2 (.lst ((cntL n cs i row).map D.int))) q3 (.lst [D.int (n : Nat)])) q4 (.lst ((lensR kvs i row).map fun m : Nat => D.int (m : Nat))) q4 = _ := mup_same
          generalize mup (mup (mup M3 q2 (.lst ((cntL n cs i row).map D.int))) q3 (.lst [D.int (n : Nat)])) q4 (.lst ((lensR kvs i row).map fun m : Nat => D.int (m : Nat))) = M5 at hT5 hP5 h15 h45 ⊢
          refine wp_cons ?_
          (try simp only [DL.wpS, DL.wpE, DL.wpA, wpT, wpTs, wpBo, DL.wpI, wpIf, wpTg, wpTgs, optI, List.getElem?_cons_zero, List.getElem?_cons_succ, List.set_cons_succ, List.set_cons_zero, vTru, cmpS, vIsK, vLt, vLe, vGt, vGe, vOrd, DL.isNon, addE, subE, biS, rdS, rdL_new, Bool.not_true, Bool.not_false, if_true, if_false, Bool.false_eq_true, Bool.true_eq_false, reduceIte, true_and, and_true, decide_true, decide_false, vGet_0, vGet_1, slcT, addT, vZip, h15, h45])
          have hleaf : ∀ x ∈ chD n row, (lkey x).isSome = true := fun x hx => by
            rw [chD_enc hlen] at hx
            obtain ⟨o, _, rfl⟩ := List.mem_map.mp hx
            rfl
          refine ⟨List.all_eq_true.mpr hleaf, fun q5 hq5 => ?_⟩
          have hT6 := hT5.grow (Sub.new hq5 (o := .dct (zipD (chD n row) ((lensR kvs i row).map fun m : Nat => D.int (m : Nat)))))
          have hP6 := get_up (o := .dct (zipD (chD n row) ((lensR kvs i row).map fun m : Nat => D.int (m : Nat)))) hP5 hq5
          have h56 : mup M5 q5 (.dct (zipD (chD n row) ((lensR kvs i row).map fun m : Nat => D.int (m : Nat)))) q5 = _ := mup_same
          generalize mup M5 q5 (.dct (zipD (chD n row) ((lensR kvs i row).map fun m : Nat => D.int (m : Nat)))) = M6 at hT6 hP6 h56 ⊢
          have zleaf := zip_leaf (ys := (lensR kvs i row).map fun m : Nat => D.int (m : Nat)) hleaf
          have hll : (chD n row).length = ((lensR kvs i row).map fun m : Nat => D.int (m : Nat)).length := by
            have := fit_len kvs i row
            rw [chD_enc hlen, List.length_map]
            rw [List.length_map] at this
            exact this
          have key : ∀ o, ltO n o → dlook (zipD (chD n row) ((lensR kvs i row).map fun m : Nat => D.int (m : Nat))) (encL n o) = dlook (zipR kvs i row) (encStep o) := fun o ho => look_same hlen _ o ho
          have kok : ∀ z : Int, keyOk (zipD (chD n row) ((lensR kvs i row).map fun m : Nat => D.int (m : Nat))) (.int z) = true := fun z => by
            unfold keyOk
            rw [zleaf]; rfl
          have hdct : isDct M6 (.obj q5) = true := by unfold isDct; dsimp only; rw [h56]
          refine wp_cons ?_
          (try simp only [DL.wpS, DL.wpE, DL.wpA, wpT, wpTs, wpBo, DL.wpI, wpIf, wpTg, wpTgs, optI, List.getElem?_cons_zero, List.getElem?_cons_succ, List.set_cons_succ, List.set_cons_zero, vTru, cmpS, vIsK, vLt, vLe, vGt, vGe, vOrd, DL.isNon, addE, subE, biS, rdS, rdL_new, Bool.not_true, Bool.not_false, if_true, if_false, Bool.false_eq_true, Bool.true_eq_false, reduceIte, true_and, and_true, decide_true, decide_false, vGet_0, vGet_1, slcT, addT, encShape, rngOf])
          refine ⟨by omega, by omega, ?_⟩
          refine lc_map (fun d => match d with | .int z => (((enuL 0 (row.2.map encStep)).map (stepD (zipR kvs i row)))[z.toNat]?).getD .non | _ => .non) trivial _ _ (by simp [big]; omega) (fun d hd K1 h1 => ?_) fun q6 hq6 => ?_
          · obtain ⟨l, hl, rfl⟩ := List.mem_map.mp hd
            have hln : l < n := by simpa using hl
            dsimp only at h1
            rw [Int.toNat_natCast] at h1
            have e2 : row.2[l]? = some (row.2[l]'(by omega)) := List.getElem?_eq_getElem (by omega)
            generalize row.2[l]'(by omega) = o at e2
            try simp only [wipeD, List.map_cons, List.map_nil]
            (try simp only [DL.wpS, DL.wpE, DL.wpA, wpT, wpTs, wpBo, DL.wpI, wpIf, wpTg, wpTgs, optI, List.getElem?_cons_zero, List.getElem?_cons_succ, List.set_cons_succ, List.set_cons_zero, vTru, cmpS, vIsK, vLt, vLe, vGt, vGe, vOrd, DL.isNon, addE, subE, biS, rdS, rdL_new, Bool.not_true, Bool.not_false, if_true, if_false, Bool.false_eq_true, Bool.true_eq_false, reduceIte, true_and, and_true, decide_true, decide_false, vGet_0, vGet_1, slcT, addT, encShape, vGet_tup (enc_row f1), encRow, vGet_tup (enc_step e2)])
            cases o with
            | none =>
              rw [fit_get0 e2] at h1
              simp only [encStep, DL.isNon, if_true]
              exact h1
            | some s =>
              rw [fit_get e2] at h1
              simp only [encStep, DL.isNon, Bool.false_eq_true, if_false]
              have ek := key (some l) (fun z e => by cases e; exact hln)
              have hmem : encL n (some l) ∈ chD n row := by
                rw [chD_enc hlen]
                refine List.mem_map.mpr ⟨some l, ?_, rfl⟩
                have := chL_mem e2
                obtain ⟨o', ho', e'⟩ := List.mem_map.mp this
                have : o' = some l := encStep_inj e'
                rw [← this]; exact ho'
              obtain ⟨v, hv⟩ := Option.isSome_iff_exists.mp (zip_look hll hmem)
              have hg : vGet (.obj q5) (.int (l : Nat)) M6 = fun Q => Q v M6 := by
                funext Q
                unfold vGet
                rw [hdct]
                simp only [if_true, vDIdx, h56, kok, true_and]
                have e : dlook (zipD (chD n row) ((lensR kvs i row).map fun m : Nat => D.int (m : Nat))) (.int (l : Nat)) = some v := hv
                rw [e]
              (try simp only [DL.wpS, DL.wpE, DL.wpA, wpT, wpTs, wpBo, DL.wpI, wpIf, wpTg, wpTgs, optI, List.getElem?_cons_zero, List.getElem?_cons_succ, List.set_cons_succ, List.set_cons_zero, vTru, cmpS, vIsK, vLt, vLe, vGt, vGe, vOrd, DL.isNon, addE, subE, biS, rdS, rdL_new, Bool.not_true, Bool.not_false, if_true, if_false, Bool.false_eq_true, Bool.true_eq_false, reduceIte, true_and, and_true, decide_true, decide_false, vGet_0, vGet_1, slcT, addT, hg])
              rw [ek] at hv
              have e3 : encStep (some l) = .int (l : Nat) := rfl
              rw [e3] at hv
              rw [hv] at h1
              exact h1
          · have eS : (((List.range ((n : Nat) : Int).toNat).map fun k => D.int ((k : Nat) : Int)).map fun d => match d with | .int z => (((enuL 0 (row.2.map encStep)).map (stepD (zipR kvs i row)))[z.toNat]?).getD .non | _ => .non) = (enuL 0 (row.2.map encStep)).map (stepD (zipR kvs i row)) := by
              rw [List.map_map, Int.toNat_natCast]
              refine List.ext_getElem? fun j => ?_
              have lE : ((enuL 0 (row.2.map encStep)).map (stepD (zipR kvs i row))).length = n := by rw [List.length_map, enuL_len, List.length_map, hlen]
              by_cases hj : j < n
              · rw [List.getElem?_map, List.getElem?_range hj]
                show some ((((enuL 0 (row.2.map encStep)).map (stepD (zipR kvs i row)))[((j : Nat) : Int).toNat]?).getD .non) = _
                rw [Int.toNat_natCast, List.getElem?_eq_getElem (by rw [lE]; exact hj)]
                rfl
              · rw [List.getElem?_eq_none (by simpa using hj), List.getElem?_eq_none (by rw [lE]; omega)]
            rw [eS]
            refine wp_last ?_
            have hpq6 : p ≠ q6 := ne_none hP6 hq6
            have h57 := get_up (o := .lst ((enuL 0 (row.2.map encStep)).map (stepD (zipR kvs i row)))) h56 hq6
            have hd7 : isDct (mup M6 q6 (.lst ((enuL 0 (row.2.map encStep)).map (stepD (zipR kvs i row))))) (.obj q5) = true := by unfold isDct; dsimp only; rw [h57]
            (try simp only [DL.wpS, DL.wpE, DL.wpA, wpT, wpTs, wpBo, DL.wpI, wpIf, wpTg, wpTgs, optI, List.getElem?_cons_zero, List.getElem?_cons_succ, List.set_cons_succ, List.set_cons_zero, vTru, cmpS, vIsK, vLt, vLe, vGt, vGe, vOrd, DL.isNon, addE, subE, biS, rdS, rdL_new, Bool.not_true, Bool.not_false, if_true, if_false, Bool.false_eq_true, Bool.true_eq_false, reduceIte, true_and, and_true, decide_true, decide_false, vGet_0, vGet_1, slcT, addT, recv, BM.ty, rdL_up hpq6, rdL_of hP6, hd7, vDGet, h57, kok, encShape, bmS, mup_ne hpq6, hP6])
            have fl : ((fitRows kvs 0 rs).take i).length ≤ 30 := by rw [List.length_take]; omega
            refine ⟨rfl, by unfold big; omega, _, Sub.rfl', _, _, _, _, _, rfl, ?_, ?_, by omega⟩
            · have hT7 := hT6.grow (Sub.new hq6 (o := .lst ((enuL 0 (row.2.map encStep)).map (stepD (zipR kvs i row)))))
              refine ⟨by rw [mup_ne hpq]; exact hT7.at_, hT7.len, fun j b r hb hr => ?_, hT7.nd, hT7.ne, hT7.new, hT7.newq, Sub.put0 hT7.sub hMp⟩
              rw [mup_ne (hpqs j b hb)]; exact hT7.row j b r hb hr
            · rw [mup_same]
              congr 2
              have e0 := key none (fun z e => nomatch e)
              have e1 : encL n none = .int (n : Nat) := rfl
              have e2 : encStep none = .non := rfl
              rw [e1, e2] at e0
              rw [e0]
              have := fitRows_get kvs rs 0 i row f1
              rw [Nat.zero_add] at this
              rw [take_snoc this]
              rfl
    · simp only [hin, if_false]
      have : i = rs.length := by omega
      subst this
      refine wp_last ?_
      (try simp only [DL.wpS, DL.wpE, DL.wpA, wpT, wpTs, wpBo, DL.wpI, wpIf, wpTg, wpTgs, optI, List.getElem?_cons_zero, List.getElem?_cons_succ, List.set_cons_succ, List.set_cons_zero, vTru, cmpS, vIsK, vLt, vLe, vGt, vGe, vOrd, DL.isNon, addE, subE, biS, rdS, rdL_new, Bool.not_true, Bool.not_false, if_true, if_false, Bool.false_eq_true, Bool.true_eq_false, reduceIte, true_and, and_true, decide_true, decide_false, vGet_0, vGet_1, slcT, addT, encShape, rdL_of hP])
      have : (fitRows kvs 0 rs).take rs.length = fitRows kvs 0 rs := List.take_of_length_le (by rw [fitRows_len]; exact Nat.le_refl _)
      rw [this]
      have hq' := hq M1 hT2.sub
      rw [hfit] at hq'
      exact rt_of hq' Sub.rfl'
  · exact hh.elim
end H41
set_option Elab.async false
set_option linter.all false
set_option maxRecDepth 100000
set_option maxHeartbeats 1000000
namespace H41
open PySem PySem.Spec PyProof.Rows L2 DL
theorem shapeOk_enc {n : Nat} {rs : List Row} (hS : ShOk n rs) : shapeOk (encShape n rs) = true := by
  have rowOk_of : ∀ {r : Row}, r ∈ rs → rowOk n rs.length (encRow r) = true := fun {r} hr => by
    unfold encRow rowOk
    simp only [List.length_map, hS.len r hr, decide_true, Bool.true_and]
    refine List.all_eq_true.mpr fun x hx => ?_
    obtain ⟨o, ho, rfl⟩ := List.mem_map.mp hx
    cases o with
    | none => rfl
    | some k =>
      have := hS.to r hr k ho
      simp [stepOk, encStep, DL.isNon, btw]; omega
  unfold encShape shapeOk
  have h1 := hS.n1
  have h2 := hS.n8
  have h3 := hS.r1
  have h4 := hS.r30
  have e : (encRows rs).length = rs.length := by simp [encRows]
  dsimp only
  rw [e]
  have : (encRows rs).all (rowOk (n : Nat) (rs.length : Nat)) = true := by
    refine List.all_eq_true.mpr fun x hx => ?_
    obtain ⟨r, hr, rfl⟩ := List.mem_map.mp hx
    exact rowOk_of hr
  rw [this]
  simp [btw]; omega
theorem enc_inj {n m : Nat} {rs ss : List Row} (h : encShape n rs = encShape m ss) : n = m ∧ encRows rs = encRows ss := by
  unfold encShape at h
  simp at h
  exact ⟨by omega, h.2⟩
theorem rows_inj : ∀ {rs ss : List Row}, encRows rs = encRows ss → rs = ss := by
  intro rs ss h
  refine (List.map_inj_right (f := encRow) fun a b e => ?_).mp h
  unfold encRow at e
  simp at e
  obtain ⟨e1, e2⟩ := e
  have : a.2 = b.2 := (List.map_inj_right (f := encStep) fun x y e => encStep_inj e).mp e2
  exact Prod.ext e1 this
theorem textOk_enc {n : Nat} {ls : List Nat} (h : ∀ k ∈ ls, k < n) : textOk n (encText ls) = true := by
  unfold textOk encText
  refine List.all_eq_true.mpr fun x hx => ?_
  obtain ⟨k, hk, rfl⟩ := List.mem_map.mp hx
  have := h k hk
  simp [btw]; omega
theorem are_goods {n : Nat} {rs : List Row} {ts : List D} (h : ∀ t ∈ ts, goodT n rs t) : areTexts n rs (.tup ts) = true := by
  refine List.all_eq_true.mpr fun t ht => ?_
  obtain ⟨ls, rfl, _, h2, h3⟩ := h t ht
  rw [textOk_enc h2, lets_enc, h3]; rfl
theorem kw_texts {M : Mem} {n : Nat} {rs : List Row} {ts : List D} (hl : ts.length ≤ 1000) (h : ∀ t ∈ ts, goodT n rs t) : Kw M (.tup ts) := by
  refine .tup _ (by omega) fun t ht => ?_
  obtain ⟨ls, rfl, h1, _⟩ := h t ht
  refine .tup _ (by simp; omega) fun x hx => ?_
  obtain ⟨o, _, rfl⟩ := List.mem_map.mp hx
  exact .int _
theorem kw_shape {n : Nat} {rs : List Row} (M : Mem) (h : ShOk n rs) : Kw M (encShape n rs) := by
  have h8 := h.n8
  have r30 := h.r30
  refine .tup _ (by simp) fun x hx => ?_
  simp only [List.mem_cons, List.not_mem_nil, or_false] at hx
  rcases hx with rfl | rfl
  · exact .int _
  · refine .tup _ (by unfold encRows; simp; omega) fun x hx => ?_
    obtain ⟨r, hr, rfl⟩ := List.mem_map.mp hx
    have hl := h.len r hr
    refine .tup _ (by simp) fun x hx => ?_
    simp only [List.mem_cons, List.not_mem_nil, or_false] at hx
    rcases hx with rfl | rfl
    · exact .bl _
    · refine .tup _ (by simp; omega) fun x hx => ?_
      obtain ⟨o, _, rfl⟩ := List.mem_map.mp hx
      cases o; exact .non; exact .int _
/-! ### what fitted tells is plain -/
theorem lkP_val {ps : List (D × D)} {k v : D} (h : lkP ps k = some v) : ∃ p ∈ ps, p.2 = v := by
  unfold lkP at h
  obtain ⟨p, hp, rfl⟩ := Option.map_eq_some_iff.mp h
  exact ⟨p, List.mem_reverse.mp (List.mem_of_find?_eq_some hp), rfl⟩
theorem zip_val {xs : List D} {ls : List Nat} {k : D} : ((dlook (zipD xs (ls.map fun m : Nat => D.int (m : Nat))) k).getD .non = .non) ∨ ∃ m : Nat, (dlook (zipD xs (ls.map fun m : Nat => D.int (m : Nat))) k).getD .non = .int (m : Nat) := by
  unfold zipD
  rw [look_lk]
  cases h : lkP (xs.zip (ls.map fun m : Nat => D.int (m : Nat))) k with
  | none => exact .inl rfl
  | some v =>
    obtain ⟨p, hp, rfl⟩ := lkP_val h
    obtain ⟨a, b⟩ := p
    obtain ⟨m, _, e⟩ := List.mem_map.mp (List.of_mem_zip hp).2
    exact .inr ⟨m, e.symm⟩
structure Plain (M : Mem) (k : Nat) (d : D) : Prop where
  pl : plD k d = true
  kw : Kw M d
theorem Plain.val (M : Mem) (k : Nat) {d : D} (h : d = .non ∨ ∃ m : Nat, d = .int (m : Nat)) : Plain M (k + 1) d := by
  rcases h with rfl | ⟨m, rfl⟩
  · exact ⟨rfl, .non⟩
  · exact ⟨rfl, .int _⟩
theorem Plain.tup {M : Mem} {k : Nat} {xs : List D} (hl : xs.length ≤ 1000) (h : ∀ x ∈ xs, Plain M k x) : Plain M (k + 1) (.tup xs) :=
  ⟨List.all_eq_true.mpr fun x hx => (h x hx).pl, .tup _ (by omega) fun x hx => (h x hx).kw⟩
theorem plain_row {n : Nat} {r : Row} (M : Mem) (kvs : List (D × D)) (st : Nat) (h : r.2.length = n) (h8 : n ≤ 8) : Plain M 4 (fitRow kvs st r) := by
  unfold fitRow
  refine .tup (by simp) fun x hx => ?_
  simp only [List.mem_cons, List.not_mem_nil, or_false] at hx
  rcases hx with rfl | rfl
  · exact .val M 2 zip_val
  · refine .tup (by rw [List.length_map, enuL_len, List.length_map]; omega) fun x hx => ?_
    obtain ⟨y, hy, rfl⟩ := List.mem_map.mp hx
    obtain ⟨k, o, e, rfl⟩ := enuL_mem hy
    cases o with
    | none => exact .val M 1 (.inl rfl)
    | some s =>
      refine .tup (by simp) fun x hx => ?_
      simp only [List.mem_cons, List.not_mem_nil, or_false] at hx
      rcases hx with rfl | rfl
      · exact .val M 0 zip_val
      · exact ⟨rfl, .int _⟩
theorem plain_rows {n : Nat} (M : Mem) (kvs : List (D × D)) (h8 : n ≤ 8) : ∀ (rs : List Row) (st : Nat), (∀ r ∈ rs, r.2.length = n) → ∀ x ∈ fitRows kvs st rs, Plain M 4 x
  | [], _, _, x, hx => by simp [fitRows] at hx
  | r :: rs, st, h, x, hx => by
    rcases List.mem_cons.mp hx with rfl | q
    · exact plain_row M kvs st (h r (List.mem_cons_self ..)) h8
    · exact plain_rows M kvs h8 rs (st + 1) (fun r hr => h r (List.mem_cons_of_mem _ hr)) x q
theorem plain_fit {n : Nat} {rs : List Row} (M : Mem) (hS : ShOk n rs) (d : D) : Plain M 6 (fitD n rs d) := by
  have r30 := hS.r30
  unfold fitD
  refine .tup (by simp) fun x hx => ?_
  simp only [List.mem_cons, List.not_mem_nil, or_false] at hx
  rcases hx with rfl | rfl
  · exact ⟨rfl, .int _⟩
  · exact .tup (by rw [fitRows_len]; omega) fun x hx => plain_rows M _ hS.n8 rs 0 hS.len x hx
end H41
set_option Elab.async false
set_option linter.all false
set_option maxRecDepth 100000
set_option maxHeartbeats 1000000
namespace H41
open PySem PySem.Spec PyProof.Rows L2 DL
def sp_mixed : SpD := fun ds M Q _ => match ds with
  | [.obj p, .obj a] => ∃ (cl : Addr) (f : Nat) (xs : List D), Hand M p cl f ∧ f < 2 ^ 58 ∧ a ≠ p ∧ rdL M a = some xs ∧ xs.length ≤ 100 ∧ ∀ N q zs, UpX p M N → Hand N p cl (f + 100) → N q = some (.lst zs) → zs.length = xs.length → (∀ z ∈ zs, z ∈ xs) → Q (.obj q) N
  | _ => False
theorem ixN_nat {n k : Nat} (h : k < n) : ixN n ((k : Nat) : Int) = some k := by
  unfold ixN
  have h1 : (0 : Int) ≤ (k : Nat) := by omega
  have h2 : ((k : Nat) : Int) < (n : Nat) := by omega
  simp [h1, h2, h]
theorem cl_ne {M N : Mem} {p cl q : Addr} {f : Nat} (h : Hand M p cl f) (U : UpX p M N) (e : N q = none) : q ≠ cl := fun z => by
  obtain ⟨xs, h1, h2⟩ := h.cell
  exact rdL_some (U.rdL h2 h1) (z ▸ e)
theorem cl_ne' {M : Mem} {p cl q : Addr} {f : Nat} (h : Hand M p cl f) (e : M q = none) : q ≠ cl := fun z => by
  obtain ⟨xs, h1, h2⟩ := h.cell
  exact rdL_some h1 (z ▸ e)
theorem h__law_mixed (k : Nat) : ∀ ds M Q0 E0, sp_mixed ds M Q0 E0 → ds.length = 2 ∧ wpSs ⟨[C__law_draw k sp_draw], sub, fdOf cf⟩ (wF E0) none m__law_mixed (endsF Q0) (startD N__law_mixed.length ds) M := by
  intro ds M Q0 E0 hh
  unfold sp_mixed at hh
  split at hh
  · rename_i p a
    obtain ⟨cl, f, xs, hH, hf, hap, ha, hl, hq⟩ := hh
    refine ⟨rfl, ?_⟩
    unfold m__law_mixed
    refine wp_cons ?_
    show DL.wpS _ _ _ _ _ [some (.obj p), some (.obj a), none, none] M
    (try simp only [DL.wpS, DL.wpE, DL.wpA, wpT, wpTs, wpBo, DL.wpI, wpIf, wpTg, wpTgs, optI, List.getElem?_cons_zero, List.getElem?_cons_succ, List.set_cons_succ, List.set_cons_zero, vTru, cmpS, vIsK, vLt, vLe, vGt, vGe, vOrd, DL.isNon, addE, subE, biS, rdS, rdL_new, Bool.not_true, Bool.not_false, if_true, if_false, Bool.false_eq_true, Bool.true_eq_false, reduceIte, true_and, and_true, decide_true, decide_false, vGet_0, vGet_1, slcT, addT, ha])
    intro r hr
    have hrp := hH.fresh hr
    have hrc := cl_ne' hH hr
    refine wp_last ?_
    (try simp only [DL.wpS, DL.wpE, DL.wpA, wpT, wpTs, wpBo, DL.wpI, wpIf, wpTg, wpTgs, optI, List.getElem?_cons_zero, List.getElem?_cons_succ, List.set_cons_succ, List.set_cons_zero, vTru, cmpS, vIsK, vLt, vLe, vGt, vGe, vOrd, DL.isNon, addE, subE, biS, rdS, rdL_new, Bool.not_true, Bool.not_false, if_true, if_false, Bool.false_eq_true, Bool.true_eq_false, reduceIte, true_and, and_true, decide_true, decide_false, vGet_0, vGet_1, slcT, addT, rngOf])
    refine ⟨by omega, by omega, ?_⟩
    refine lc_inv (fun j acc M2 => ∃ ys : List D, M2 r = some (.lst ys) ∧ ys.length + j = xs.length ∧ (∀ y ∈ ys, y ∈ xs) ∧ acc.length = j ∧ (∀ z ∈ acc, z ∈ xs) ∧ UpX p M M2 ∧ Hand M2 p cl (f + j)) (fun _ _ _ _ => trivial) (fun j d acc M2 Kn hd hP hK => ?_) ⟨xs, mup_same, rfl, fun _ h => h, rfl, by simp, UpX.rfl'.new hr, hH.new hr⟩ ?_
    · obtain ⟨ys, hy, hyl, hyx, hal, hax, U2, H2⟩ := hP
      have hj := some_lt hd
      rw [List.length_map, List.length_range, Int.toNat_natCast] at hj
      try simp only [wipeD, List.map_cons, List.map_nil]
      (try simp only [DL.wpS, DL.wpE, DL.wpA, wpT, wpTs, wpBo, DL.wpI, wpIf, wpTg, wpTgs, optI, List.getElem?_cons_zero, List.getElem?_cons_succ, List.set_cons_succ, List.set_cons_zero, vTru, cmpS, vIsK, vLt, vLe, vGt, vGe, vOrd, DL.isNon, addE, subE, biS, rdS, rdL_new, Bool.not_true, Bool.not_false, if_true, if_false, Bool.false_eq_true, Bool.true_eq_false, reduceIte, true_and, and_true, decide_true, decide_false, vGet_0, vGet_1, slcT, addT, recv, BM.ty, rdL_of hy])
      refine ⟨rfl, cl, _, H2, by omega, by omega, by omega, fun N i U3 H3 i0 i1 => ?_⟩
      have hy3 : N r = some (.lst ys) := U3.get hrp hy
      obtain ⟨m, rfl⟩ : ∃ m : Nat, i = m := ⟨i.toNat, by omega⟩
      have hm : m < ys.length := by omega
      have hx : ys[m]? = some ys[m] := List.getElem?_eq_getElem hm
      have hxm := List.mem_of_getElem? hx
      generalize ys[m] = x at hx hxm
      show bmS .popAt (.obj r) [.int (m : Nat)] N _
      simp only [bmS, hy3, ixN_nat hm, hx]
      refine ⟨by unfold big; omega, hK _ _ ⟨ys.eraseIdx m, mup_same, by rw [List.length_eraseIdx_of_lt hm]; omega, fun y h => hyx y (List.mem_of_mem_eraseIdx h), by simp [hal], fun z hz => ?_, (U2.trans U3.upx).put hr, (H3.put hrp hrc).mono (by omega)⟩⟩
      rcases List.mem_append.mp hz with h | h
      · exact hax z h
      · rw [List.mem_singleton] at h; rw [h]; exact hyx x hxm
    · rintro acc M2 ⟨ys, hy, hyl, hyx, hal, hax, U2, H2⟩ q hq2
      have hjl : (List.map (fun k => D.int ((k : Nat) : Int)) (List.range ((xs.length : Nat) : Int).toNat)).length = xs.length := by simp
      rw [hjl] at hal H2
      exact rt_of (hq _ q acc (U2.new hq2) ((H2.new hq2).mono (by omega)) mup_same hal hax) Sub.rfl'
  · exact hh.elim
theorem extE {M : Mem} {a b : Addr} {xs ys : List D} (h : M a = some (.lst xs)) (h' : M b = some (.lst ys)) : bmS .extend (.obj a) [.obj b] M = fun Q => xs.length + ys.length ≤ big ∧ Q .non (mup M a (.lst (xs ++ ys))) := by
  funext Q
  simp only [bmS, h, h']
def sp_great : SpD := fun ds M Q _ => match ds with
  | [.obj p, .tup [.int n, _]] => ∃ (cl : Addr) (f m : Nat), n = (m : Nat) ∧ 1 ≤ m ∧ m ≤ 8 ∧ Hand M p cl f ∧ f < 2 ^ 57 ∧ ∀ N ts, UpX p M N → Hand N p cl (f + 200) → ts.length ≤ 380 → (∀ t ∈ ts, ∃ l : Nat, l < m ∧ t = .tup [.int (l : Nat)]) → Q (.tup ts) N
  | _ => False
theorem h__law_great (k k2 k3 : Nat) : ∀ ds M Q0 E0, sp_great ds M Q0 E0 → ds.length = 2 ∧ wpSs ⟨[C__law_mixed k sp_mixed, C__law_any k2 sp_any, C__law_draw k3 sp_draw], sub, fdOf cf⟩ (wF E0) none m__law_great (endsF Q0) (startD N__law_great.length ds) M := by
  intro ds M Q0 E0 hh
  unfold sp_great at hh
  split at hh
  · rename_i p n y
    obtain ⟨cl, f, m, rfl, m1, m8, hH, hf, hq⟩ := hh
    refine ⟨rfl, ?_⟩
    unfold m__law_great
    refine wp_cons ?_
    show DL.wpS _ _ _ _ _ [some (.obj p), some (.tup [.int (m : Nat), y]), none, none, none, none, none] M
    (try simp only [DL.wpS, DL.wpE, DL.wpA, wpT, wpTs, wpBo, DL.wpI, wpIf, wpTg, wpTgs, optI, List.getElem?_cons_zero, List.getElem?_cons_succ, List.set_cons_succ, List.set_cons_zero, vTru, cmpS, vIsK, vLt, vLe, vGt, vGe, vOrd, DL.isNon, addE, subE, biS, rdS, rdL_new, Bool.not_true, Bool.not_false, if_true, if_false, Bool.false_eq_true, Bool.true_eq_false, reduceIte, true_and, and_true, decide_true, decide_false, vGet_0, vGet_1, slcT, addT])
    refine ⟨by omega, by omega, fun q1 hq1 => ?_⟩
    refine ⟨cl, f, _, hH.new hq1, by omega, hH.fresh hq1, rdL_new, by simp; omega, fun N q zs U1 H1 hz hzl hzm => ?_⟩
    intro fd hfd
    have Ua := (UpX.rfl'.new hq1).trans U1
    have hMfd := Ua.none H1.ne hfd
    have hqf : q ≠ fd := ne_none hz hfd
    have hz2 := get_up (o := .lst []) hz hfd
    have hf2 : mup N fd (.lst []) fd = some (.lst []) := mup_same
    have Ub := Ua.new hfd (o := .lst [])
    have Hb := H1.new hfd (o := .lst [])
    have hfp := H1.fresh hfd
    have hfc := cl_ne' H1 hfd
    generalize mup N fd (.lst []) = N1 at hz2 hf2 Ub Hb
    refine wp_cons ?_
    (try simp only [DL.wpS, DL.wpE, DL.wpA, wpT, wpTs, wpBo, DL.wpI, wpIf, wpTg, wpTgs, optI, List.getElem?_cons_zero, List.getElem?_cons_succ, List.set_cons_succ, List.set_cons_zero, vTru, cmpS, vIsK, vLt, vLe, vGt, vGe, vOrd, DL.isNon, addE, subE, biS, rdS, rdL_new, Bool.not_true, Bool.not_false, if_true, if_false, Bool.false_eq_true, Bool.true_eq_false, reduceIte, true_and, and_true, decide_true, decide_false, vGet_0, vGet_1, slcT, addT])
    intro q3 hq3
    have hz3 := get_up (o := .lst [D.int 1, D.int 2, D.int 3]) hz2 hq3
    have hf3 := get_up (o := .lst [D.int 1, D.int 2, D.int 3]) hf2 hq3
    refine ⟨cl, _, _, Hb.new hq3, by omega, .inr ⟨q3, rfl, Hb.fresh hq3, rdL_new⟩, by simp, by simp, fun N2 b U4 H4 hb => ?_⟩
    have hb' : ∃ j : Int, b = .int j ∧ 1 ≤ j ∧ j ≤ 3 := by
      simp only [List.mem_cons, List.not_mem_nil, or_false] at hb
      rcases hb with rfl | rfl | rfl
      · exact ⟨1, rfl, by decide, by decide⟩
      · exact ⟨2, rfl, by decide, by decide⟩
      · exact ⟨3, rfl, by decide, by decide⟩
    obtain ⟨j, rfl, j1, j3⟩ := hb'
    have Uc := (Ub.new hq3).trans U4.upx
    have hqp : q ≠ p := fun z => by
      subst z
      obtain ⟨cells, h', A, _⟩ := H1
      rw [A.at_] at hz
      have := Option.some.inj hz
      have e : handL cl h' = zs := MO.lst.inj this
      have := hzm (.obj cl) (by rw [← e]; simp [handL])
      obtain ⟨_, _, e2⟩ := List.mem_map.mp this
      cases e2
    have hz4 := U4.get hqp hz3
    have hf4 := U4.get hfp hf3
    refine wp_cons ?_
    (try simp only [DL.wpS, DL.wpE, DL.wpA, wpT, wpTs, wpBo, DL.wpI, wpIf, wpTg, wpTgs, optI, List.getElem?_cons_zero, List.getElem?_cons_succ, List.set_cons_succ, List.set_cons_zero, vTru, cmpS, vIsK, vLt, vLe, vGt, vGe, vOrd, DL.isNon, addE, subE, biS, rdS, rdL_new, Bool.not_true, Bool.not_false, if_true, if_false, Bool.false_eq_true, Bool.true_eq_false, reduceIte, true_and, and_true, decide_true, decide_false, vGet_0, vGet_1, slcT, addT, itsOf, rdL_of hz4])
    refine ⟨fun i ρ M' => ∃ (mu : Nat) (ls : List D) (x6 : Option D), ρ = [some (.obj p), some (.tup [.int (m : Nat), y]), some (.obj q), some (.int (mu : Nat)), some (.obj fd), some (.int j), x6] ∧ M' q = some (.lst zs) ∧ M' fd = some (.lst ls) ∧ UpX p M M' ∧ Hand M' p cl (f + 102 + i) ∧ ls.length ≤ 380 ∧ (∀ t ∈ ls, ∃ l : Nat, l < m ∧ t = .tup [.int (l : Nat)]) ∧ mu ≤ 4 ^ i ∧ i ≤ zs.length,
      ⟨1, [], none, rfl, hz4, hf4, Uc, H4.mono (by omega), by simp, by simp, by simp, Nat.zero_le _⟩, ?_⟩
    rintro i ρ M1 ⟨mu, ls, x6, rfl, hz5, hf5, U5, H5, hll, hls, hmu, hi⟩
    refine ⟨rdL_of hz5, ?_⟩
    have hzl' : zs.length = m := by rw [hzl]; simp
    cases hx : zs[i]? with
    | none =>
      refine wp_last ?_
      (try simp only [DL.wpS, DL.wpE, DL.wpA, wpT, wpTs, wpBo, DL.wpI, wpIf, wpTg, wpTgs, optI, List.getElem?_cons_zero, List.getElem?_cons_succ, List.set_cons_succ, List.set_cons_zero, vTru, cmpS, vIsK, vLt, vLe, vGt, vGe, vOrd, DL.isNon, addE, subE, biS, rdS, rdL_new, Bool.not_true, Bool.not_false, if_true, if_false, Bool.false_eq_true, Bool.true_eq_false, reduceIte, true_and, and_true, decide_true, decide_false, vGet_0, vGet_1, slcT, addT, rdL_of hf5])
      have := none_eq hx hi
      exact rt_of (hq M1 ls U5 (H5.mono (by omega)) hll hls) Sub.rfl'
    | some x =>
      have hil := some_lt hx
      obtain ⟨l, hlm, rfl⟩ := List.mem_map.mp (hzm x (List.mem_of_getElem? hx))
      have hlm' : l < m := by simpa using hlm
      have h48 : (4 : Nat) ^ i ≤ 4 ^ 8 := Nat.pow_le_pow_right (by decide) (by omega)
      have h48' : (4 : Nat) ^ 8 = 65536 := by decide
      (try simp only [DL.wpS, DL.wpE, DL.wpA, wpT, wpTs, wpBo, DL.wpI, wpIf, wpTg, wpTgs, optI, List.getElem?_cons_zero, List.getElem?_cons_succ, List.set_cons_succ, List.set_cons_zero, vTru, cmpS, vIsK, vLt, vLe, vGt, vGe, vOrd, DL.isNon, addE, subE, biS, rdS, rdL_new, Bool.not_true, Bool.not_false, if_true, if_false, Bool.false_eq_true, Bool.true_eq_false, reduceIte, true_and, and_true, decide_true, decide_false, vGet_0, vGet_1, slcT, addT])
      refine wp_cut (fun ρ' M' => ∃ ls, ρ' = [some (.obj p), some (.tup [.int (m : Nat), y]), some (.obj q), some (.int (mu : Nat)), some (.obj fd), some (.int j), some (.int (l : Nat))] ∧ M' q = some (.lst zs) ∧ M' fd = some (.lst ls) ∧ UpX p M M' ∧ Hand M' p cl (f + 102 + i) ∧ ls.length ≤ 380 ∧ ∀ t ∈ ls, ∃ l : Nat, l < m ∧ t = .tup [.int (l : Nat)]) ?_ ?_
      · (try simp only [DL.wpS, DL.wpE, DL.wpA, wpT, wpTs, wpBo, DL.wpI, wpIf, wpTg, wpTgs, optI, List.getElem?_cons_zero, List.getElem?_cons_succ, List.set_cons_succ, List.set_cons_zero, vTru, cmpS, vIsK, vLt, vLe, vGt, vGe, vOrd, DL.isNon, addE, subE, biS, rdS, rdL_new, Bool.not_true, Bool.not_false, if_true, if_false, Bool.false_eq_true, Bool.true_eq_false, reduceIte, true_and, and_true, decide_true, decide_false, vGet_0, vGet_1, slcT, addT, rdL_of hf5])
        by_cases hc : ((ls.length : Nat) : Int) + (mu : Nat) ≤ 380
        · simp only [hc, decide_true, if_true]
          refine wp_last ?_
          (try simp only [DL.wpS, DL.wpE, DL.wpA, wpT, wpTs, wpBo, DL.wpI, wpIf, wpTg, wpTgs, optI, List.getElem?_cons_zero, List.getElem?_cons_succ, List.set_cons_succ, List.set_cons_zero, vTru, cmpS, vIsK, vLt, vLe, vGt, vGe, vOrd, DL.isNon, addE, subE, biS, rdS, rdL_new, Bool.not_true, Bool.not_false, if_true, if_false, Bool.false_eq_true, Bool.true_eq_false, reduceIte, true_and, and_true, decide_true, decide_false, vGet_0, vGet_1, slcT, addT, recv, BM.ty, rdL_of hf5])
          refine ⟨rfl, fun z1 hz1 => ?_⟩
          rw [mulL mup_same]
          refine ⟨⟨by omega, by omega, by simp [big]; omega⟩, fun z2 hz2' => ?_⟩
          have hf6 := get_up (o := .lst (List.replicate ((mu : Nat) : Int).toNat [D.tup [.int (l : Nat)]]).flatten) (get_up (o := .lst [D.tup [.int (l : Nat)]]) hf5 hz1) hz2'
          have hz6 := get_up (o := .lst (List.replicate ((mu : Nat) : Int).toNat [D.tup [.int (l : Nat)]]).flatten) (get_up (o := .lst [D.tup [.int (l : Nat)]]) hz5 hz1) hz2'
          have elen : (List.replicate ((mu : Nat) : Int).toNat [D.tup [.int (l : Nat)]]).flatten.length = mu := by simp
          show bmS .extend (.obj fd) [.obj z2] _ _
          rw [extE hf6 mup_same]
          refine ⟨by rw [elen]; unfold big; omega, _, by rw [mup_ne hqf]; exact hz6, mup_same, ((U5.new hz1).new hz2').put hMfd, ((H5.new hz1).new hz2').put hfp hfc, by rw [List.length_append, elen]; omega, fun t ht => ?_⟩
          rcases List.mem_append.mp ht with h | h
          · exact hls t h
          · obtain ⟨w, hw, ht'⟩ := List.mem_flatten.mp h
            rw [(List.mem_replicate.mp hw).2, List.mem_singleton] at ht'
            exact ⟨l, hlm', ht'⟩
        · simp only [hc, decide_false, Bool.false_eq_true, if_false]
          exact wp_nil ⟨ls, rfl, hz5, hf5, U5, H5, hll, hls⟩
      · rintro ρ' M2 ⟨ls, rfl, hz6, hf6, U6, H6, hll, hls⟩
        refine ⟨M2, Sub.rfl', wp_last ?_⟩
        (try simp only [DL.wpS, DL.wpE, DL.wpA, wpT, wpTs, wpBo, DL.wpI, wpIf, wpTg, wpTgs, optI, List.getElem?_cons_zero, List.getElem?_cons_succ, List.set_cons_succ, List.set_cons_zero, vTru, cmpS, vIsK, vLt, vLe, vGt, vGe, vOrd, DL.isNon, addE, subE, biS, rdS, rdL_new, Bool.not_true, Bool.not_false, if_true, if_false, Bool.false_eq_true, Bool.true_eq_false, reduceIte, true_and, and_true, decide_true, decide_false, vGet_0, vGet_1, slcT, addT])
        rw [mulE (by omega) (by omega)]
        refine ⟨cl, _, H6, by omega, by decide, by decide, fun N3 r U7 H7 r0 r1 => ?_⟩
        (try simp only [DL.wpS, DL.wpE, DL.wpA, wpT, wpTs, wpBo, DL.wpI, wpIf, wpTg, wpTgs, optI, List.getElem?_cons_zero, List.getElem?_cons_succ, List.set_cons_succ, List.set_cons_zero, vTru, cmpS, vIsK, vLt, vLe, vGt, vGe, vOrd, DL.isNon, addE, subE, biS, rdS, rdL_new, Bool.not_true, Bool.not_false, if_true, if_false, Bool.false_eq_true, Bool.true_eq_false, reduceIte, true_and, and_true, decide_true, decide_false, vGet_0, vGet_1, slcT, addT])
        have hmu' : mu * j.toNat + r.toNat ≤ 4 ^ (i + 1) := by
          rw [Nat.pow_succ]
          have : mu * j.toNat ≤ mu * 3 := Nat.mul_le_mul_left _ (by omega)
          have : 1 ≤ 4 ^ i := Nat.one_le_pow _ _ (by decide)
          omega
        have e : ((mu : Nat) : Int) * j + r = ((mu * j.toNat + r.toNat : Nat) : Int) := by
          rw [Int.natCast_add, Int.natCast_mul]
          have : (j.toNat : Int) = j := by omega
          have : (r.toNat : Int) = r := by omega
          rw [‹(j.toNat : Int) = j›, this]
        rw [e]
        exact ⟨N3, Sub.rfl', _, ls, _, rfl, U7.get hqp hz6, U7.get hfp hf6, U6.trans U7.upx, H7.mono (by omega), hll, hls, hmu', hil⟩
  · exact hh.elim
end H41
set_option Elab.async false
set_option linter.all false
set_option maxRecDepth 100000
set_option maxHeartbeats 1000000
namespace H41
open PySem PySem.Spec PyProof.Rows L2 DL
def sp_long : SpD := fun ds M Q _ => match ds with
  | [.obj p, s] => ∃ (cl : Addr) (f n : Nat) (rs : List Row), s = encShape n rs ∧ ShOk n rs ∧ Hand M p cl f ∧ f < 2 ^ 57 ∧ ∀ N ts, UpX p M N → Hand N p cl (f + 11000) → ts.length ≤ 2 → (∀ t ∈ ts, goodT n rs t) → Q (.tup ts) N
  | _ => False
theorem cut_take {α : Type} {xs : List α} {k : Nat} (h : k ≤ xs.length) : DL.cut xs none (some ((k : Nat) : Int)) = xs.take k := by
  unfold DL.cut
  rw [HT.sIx_none, HT.sIx_nat, List.drop_zero, Nat.sub_zero, Nat.min_eq_left h]
theorem h__law_long (k k2 : Nat) : ∀ ds M Q0 E0, sp_long ds M Q0 E0 → ds.length = 2 ∧ wpSs ⟨[C__law_draw k sp_draw, C__law_any k2 sp_any], sub, fdOf cf⟩ (wF E0) none m__law_long (endsF Q0) (startD N__law_long.length ds) M := by
  intro ds M Q0 E0 hh
  unfold sp_long at hh
  split at hh
  · rename_i p s
    obtain ⟨cl, f, n, rs, rfl, hS, hH, hf, hq⟩ := hh
    refine ⟨rfl, ?_⟩
    unfold m__law_long
    have n8 := hS.n8
    have f0 : rs[0]? = some (rs[0]'(hS.r1)) := List.getElem?_eq_getElem _
    generalize rs[0]'(hS.r1) = row0 at f0
    refine wp_cons ?_
    show DL.wpS _ _ _ _ _ [some (.obj p), some (encShape n rs), none, none, none, none, none, none, none, none, none] M
    (try simp only [DL.wpS, DL.wpE, DL.wpA, wpT, wpTs, wpBo, DL.wpI, wpIf, wpTg, wpTgs, optI, List.getElem?_cons_zero, List.getElem?_cons_succ, List.set_cons_succ, List.set_cons_zero, vTru, cmpS, vIsK, vLt, vLe, vGt, vGe, vOrd, DL.isNon, addE, subE, biS, rdS, rdL_new, Bool.not_true, Bool.not_false, if_true, if_false, Bool.false_eq_true, Bool.true_eq_false, reduceIte, true_and, and_true, decide_true, decide_false, vGet_0, vGet_1, slcT, addT])
    intro fd hfd
    have hfp := hH.fresh hfd
    have hfc := cl_ne' hH hfd
    have U1 := UpX.rfl'.new hfd (p := p) (o := .lst [])
    have H1 := hH.new hfd (o := .lst [])
    have hf1 : mup M fd (.lst []) fd = some (.lst []) := mup_same
    generalize mup M fd (.lst []) = M1 at U1 H1 hf1
    refine wp_cons ?_
    (try simp only [DL.wpS, DL.wpE, DL.wpA, wpT, wpTs, wpBo, DL.wpI, wpIf, wpTg, wpTgs, optI, List.getElem?_cons_zero, List.getElem?_cons_succ, List.set_cons_succ, List.set_cons_zero, vTru, cmpS, vIsK, vLt, vLe, vGt, vGe, vOrd, DL.isNon, addE, subE, biS, rdS, rdL_new, Bool.not_true, Bool.not_false, if_true, if_false, Bool.false_eq_true, Bool.true_eq_false, reduceIte, true_and, and_true, decide_true, decide_false, vGet_0, vGet_1, slcT, addT])
    refine ⟨cl, _, H1, by omega, by decide, by decide, fun N0 z0 U2 H2 z00 z01 => ?_⟩
    have hf2 := U2.get hfp hf1
    have UB := U1.trans U2.upx
    (try simp only [DL.wpS, DL.wpE, DL.wpA, wpT, wpTs, wpBo, DL.wpI, wpIf, wpTg, wpTgs, optI, List.getElem?_cons_zero, List.getElem?_cons_succ, List.set_cons_succ, List.set_cons_zero, vTru, cmpS, vIsK, vLt, vLe, vGt, vGe, vOrd, DL.isNon, addE, subE, biS, rdS, rdL_new, Bool.not_true, Bool.not_false, if_true, if_false, Bool.false_eq_true, Bool.true_eq_false, reduceIte, true_and, and_true, decide_true, decide_false, vGet_0, vGet_1, slcT, addT, rngOf])
    refine ⟨by omega, by omega, ?_⟩
    refine ⟨fun i ρ M' => ∃ (ts : List D) (x3 x4 x5 x6 x7 x8 x9 x10 : Option D), ρ = [some (.obj p), some (encShape n rs), some (.obj fd), x3, x4, x5, x6, x7, x8, x9, x10] ∧ M' fd = some (.lst ts) ∧ UpX p M M' ∧ Hand M' p cl (f + 1 + 5100 * i) ∧ ts.length ≤ i ∧ (∀ t ∈ ts, goodT n rs t) ∧ i ≤ 2,
      ⟨[], none, none, none, none, none, none, none, none, rfl, hf2, UB, H2.mono (by omega), by simp, by simp, by omega⟩, ?_⟩
    rintro i ρ M2 ⟨ts, x3, x4, x5, x6, x7, x8, x9, x10, rfl, hf3, U3, H3, hts, hgood, hi2⟩
    simp only [range_get_z]
    by_cases hi : (i : Int) < 1 + z0
    · simp only [hi, if_true]
      (try simp only [DL.wpS, DL.wpE, DL.wpA, wpT, wpTs, wpBo, DL.wpI, wpIf, wpTg, wpTgs, optI, List.getElem?_cons_zero, List.getElem?_cons_succ, List.set_cons_succ, List.set_cons_zero, vTru, cmpS, vIsK, vLt, vLe, vGt, vGe, vOrd, DL.isNon, addE, subE, biS, rdS, rdL_new, Bool.not_true, Bool.not_false, if_true, if_false, Bool.false_eq_true, Bool.true_eq_false, reduceIte, true_and, and_true, decide_true, decide_false, vGet_0, vGet_1, slcT, addT])
      refine wp_cons ?_
      (try simp only [DL.wpS, DL.wpE, DL.wpA, wpT, wpTs, wpBo, DL.wpI, wpIf, wpTg, wpTgs, optI, List.getElem?_cons_zero, List.getElem?_cons_succ, List.set_cons_succ, List.set_cons_zero, vTru, cmpS, vIsK, vLt, vLe, vGt, vGe, vOrd, DL.isNon, addE, subE, biS, rdS, rdL_new, Bool.not_true, Bool.not_false, if_true, if_false, Bool.false_eq_true, Bool.true_eq_false, reduceIte, true_and, and_true, decide_true, decide_false, vGet_0, vGet_1, slcT, addT])
      intro td htd
      have hMt := U3.none H3.ne htd
      have htp := H3.fresh htd
      have htc := cl_ne' H3 htd
      have hft : fd ≠ td := ne_none hf3 htd
      have hf4 := get_up (o := .lst []) hf3 htd
      have ht4 : mup M2 td (.lst []) td = some (.lst []) := mup_same
      refine ⟨cl, _, H3.new htd, by omega, by decide, by decide, fun N1 se U4 H4 se0 se1 => ?_⟩
      have U4' := (U3.new htd).trans U4.upx
      have hf5 := U4.get hfp hf4
      have ht5 := U4.get htp ht4
      (try simp only [DL.wpS, DL.wpE, DL.wpA, wpT, wpTs, wpBo, DL.wpI, wpIf, wpTg, wpTgs, optI, List.getElem?_cons_zero, List.getElem?_cons_succ, List.set_cons_succ, List.set_cons_zero, vTru, cmpS, vIsK, vLt, vLe, vGt, vGe, vOrd, DL.isNon, addE, subE, biS, rdS, rdL_new, Bool.not_true, Bool.not_false, if_true, if_false, Bool.false_eq_true, Bool.true_eq_false, reduceIte, true_and, and_true, decide_true, decide_false, vGet_0, vGet_1, slcT, addT])
      -- the walk
      refine wp_cut (fun ρ' M' => ∃ (st : Nat) (ls : List Nat) (last : Nat) (x8 x9 x10 : Option D), ρ' = [some (.obj p), some (encShape n rs), some (.obj fd), some (.int (i : Nat)), some (.int (st : Nat)), some (.obj td), some (.int (last : Nat)), some (.int (2 + se)), x8, x9, x10] ∧ M' fd = some (.lst ts) ∧ M' td = some (.lst (ls.map fun k : Nat => D.int (k : Nat))) ∧ UpX p M M' ∧ Hand M' p cl (f + 1 + 5100 * i + 5010) ∧ ls.length ≤ 2500 ∧ last ≤ ls.length ∧ (∀ k ∈ ls, k < n) ∧ (0 < last → flagS rs (endS rs (some 0) (ls.take last)) = true)) ?_ ?_
      · (try simp only [DL.wpS, DL.wpE, DL.wpA, wpT, wpTs, wpBo, DL.wpI, wpIf, wpTg, wpTgs, optI, List.getElem?_cons_zero, List.getElem?_cons_succ, List.set_cons_succ, List.set_cons_zero, vTru, cmpS, vIsK, vLt, vLe, vGt, vGe, vOrd, DL.isNon, addE, subE, biS, rdS, rdL_new, Bool.not_true, Bool.not_false, if_true, if_false, Bool.false_eq_true, Bool.true_eq_false, reduceIte, true_and, and_true, decide_true, decide_false, vGet_0, vGet_1, slcT, addT])
        refine ⟨cl, _, H4, by omega, by decide, by decide, fun N2 le U5 H5 le0 le1 => ?_⟩
        have U5' := U4'.trans U5.upx
        have hf6 := U5.get hfp hf5
        have ht6 := U5.get htp ht5
        (try simp only [DL.wpS, DL.wpE, DL.wpA, wpT, wpTs, wpBo, DL.wpI, wpIf, wpTg, wpTgs, optI, List.getElem?_cons_zero, List.getElem?_cons_succ, List.set_cons_succ, List.set_cons_zero, vTru, cmpS, vIsK, vLt, vLe, vGt, vGe, vOrd, DL.isNon, addE, subE, biS, rdS, rdL_new, Bool.not_true, Bool.not_false, if_true, if_false, Bool.false_eq_true, Bool.true_eq_false, reduceIte, true_and, and_true, decide_true, decide_false, vGet_0, vGet_1, slcT, addT, rngOf])
        refine ⟨by omega, by omega, ?_⟩
        refine ⟨fun j ρ M' => ∃ (st : Nat) (ls : List Nat) (last : Nat) (x8 x9 x10 : Option D), ρ = [some (.obj p), some (encShape n rs), some (.obj fd), some (.int (i : Nat)), some (.int (st : Nat)), some (.obj td), some (.int (last : Nat)), some (.int (2 + se)), x8, x9, x10] ∧ M' fd = some (.lst ts) ∧ M' td = some (.lst (ls.map fun k : Nat => D.int (k : Nat))) ∧ UpX p M M' ∧ Hand M' p cl (f + 1 + 5100 * i + 2 + 2 * j) ∧ ls.length = j ∧ j ≤ 2500 ∧ last ≤ ls.length ∧ (∀ k ∈ ls, k < n) ∧ endS rs (some 0) ls = some st ∧ st < rs.length ∧ (0 < last → flagS rs (endS rs (some 0) (ls.take last)) = true),
          ⟨0, [], 0, x8, x9, x10, rfl, hf6, ht6, U5', H5.mono (by omega), rfl, by omega, Nat.le_refl _, by simp, rfl, hS.r1, fun h => by omega⟩, ?_⟩
        rintro j ρ M3 ⟨st, ls, last, y8, y9, y10, rfl, hf7, ht7, U7, H7, hlj, hj25, hlast, hls, he, hst, hflag⟩
        have f1 : rs[st]? = some rs[st] := List.getElem?_eq_getElem hst
        have hlen := hS.len _ (List.getElem_mem hst)
        have hto := hS.to _ (List.getElem_mem hst)
        generalize rs[st] = row at f1 hlen hto
        simp only [range_get_z]
        by_cases hjl : (j : Int) < 1000 + le
        · simp only [hjl, if_true]
          (try simp only [DL.wpS, DL.wpE, DL.wpA, wpT, wpTs, wpBo, DL.wpI, wpIf, wpTg, wpTgs, optI, List.getElem?_cons_zero, List.getElem?_cons_succ, List.set_cons_succ, List.set_cons_zero, vTru, cmpS, vIsK, vLt, vLe, vGt, vGe, vOrd, DL.isNon, addE, subE, biS, rdS, rdL_new, Bool.not_true, Bool.not_false, if_true, if_false, Bool.false_eq_true, Bool.true_eq_false, reduceIte, true_and, and_true, decide_true, decide_false, vGet_0, vGet_1, slcT, addT])
          refine wp_cons ?_
          (try simp only [DL.wpS, DL.wpE, DL.wpA, wpT, wpTs, wpBo, DL.wpI, wpIf, wpTg, wpTgs, optI, List.getElem?_cons_zero, List.getElem?_cons_succ, List.set_cons_succ, List.set_cons_zero, vTru, cmpS, vIsK, vLt, vLe, vGt, vGe, vOrd, DL.isNon, addE, subE, biS, rdS, rdL_new, Bool.not_true, Bool.not_false, if_true, if_false, Bool.false_eq_true, Bool.true_eq_false, reduceIte, true_and, and_true, decide_true, decide_false, vGet_0, vGet_1, slcT, addT, encShape, rngOf])
          refine ⟨by omega, by omega, ?_⟩
          refine lc_pure (fun d => d) (gT row) trivial _ [] _ ?_ (fun d hd K1 K2 h1 h2 => ?_) ?_
          · simp [big]; omega
          · obtain ⟨l, hl', rfl⟩ := List.mem_map.mp hd
            have hln : l < n := by simpa using hl'
            try simp only [wipeD, List.map_cons, List.map_nil]
            have e2 : row.2[l]? = some (row.2[l]'(by omega)) := List.getElem?_eq_getElem (by omega)
            generalize row.2[l]'(by omega) = o at e2
            (try simp only [DL.wpS, DL.wpE, DL.wpA, wpT, wpTs, wpBo, DL.wpI, wpIf, wpTg, wpTgs, optI, List.getElem?_cons_zero, List.getElem?_cons_succ, List.set_cons_succ, List.set_cons_zero, vTru, cmpS, vIsK, vLt, vLe, vGt, vGe, vOrd, DL.isNon, addE, subE, biS, rdS, rdL_new, Bool.not_true, Bool.not_false, if_true, if_false, Bool.false_eq_true, Bool.true_eq_false, reduceIte, true_and, and_true, decide_true, decide_false, vGet_0, vGet_1, slcT, addT, encShape, vGet_tup (enc_row f1), encRow, vGet_tup (enc_step e2)])
            have eg : gT row (.int (l : Nat)) = o.isSome := by simp [gT, e2]
            rw [eg] at h1 h2
            cases o with
            | none => simp only [encStep, DL.isNon, Bool.not_true, Bool.false_eq_true, if_false]; exact h2 rfl
            | some o => simp only [encStep, DL.isNon, Bool.not_false, if_true]; exact h1 rfl
          · rw [List.nil_append, there_eq]
            intro q2 hq2
            have hq2p := H7.fresh hq2
            have hth : ∀ l ∈ thereL n row, ∃ o, row.2[l]? = some (some o) := fun l h => by
              unfold thereL at h
              rw [List.mem_filter] at h
              cases e : row.2[l]? with
              | none => rw [e] at h; simp at h
              | some o => cases o with
                | none => rw [e] at h; simp at h
                | some o => exact ⟨o, rfl⟩
            have hthn : ∀ l ∈ thereL n row, l < n := fun l h => by
              unfold thereL at h
              rw [List.mem_filter] at h
              simpa using h.1
            have hthl := there_len n row
            generalize thereL n row = th at hth hthn hthl
            have hf8 := get_up (o := .lst (th.map fun k : Nat => D.int (k : Nat))) hf7 hq2
            have ht8 := get_up (o := .lst (th.map fun k : Nat => D.int (k : Nat))) ht7 hq2
            have U8 := U7.new hq2 (o := .lst (th.map fun k : Nat => D.int (k : Nat)))
            have H8 := H7.new hq2 (o := .lst (th.map fun k : Nat => D.int (k : Nat)))
            have hq8 : mup M3 q2 (.lst (th.map fun k : Nat => D.int (k : Nat))) q2 = some (.lst (th.map fun k : Nat => D.int (k : Nat))) := mup_same
            generalize mup M3 q2 (.lst (th.map fun k : Nat => D.int (k : Nat))) = M4 at hf8 ht8 U8 H8 hq8
            refine wp_cons ?_
            (try simp only [DL.wpS, DL.wpE, DL.wpA, wpT, wpTs, wpBo, DL.wpI, wpIf, wpTg, wpTgs, optI, List.getElem?_cons_zero, List.getElem?_cons_succ, List.set_cons_succ, List.set_cons_zero, vTru, cmpS, vIsK, vLt, vLe, vGt, vGe, vOrd, DL.isNon, addE, subE, biS, rdS, rdL_new, Bool.not_true, Bool.not_false, if_true, if_false, Bool.false_eq_true, Bool.true_eq_false, reduceIte, true_and, and_true, decide_true, decide_false, vGet_0, vGet_1, slcT, addT])
            intro q3 hq3
            have h23 := ne_none hq8 hq3
            have hq9 := get_up (o := .lst []) hq8 hq3
            have hf9 := get_up (o := .lst []) hf8 hq3
            have ht9 := get_up (o := .lst []) ht8 hq3
            have U9 := U8.new hq3 (o := .lst [])
            have H9 := H8.new hq3 (o := .lst [])
            (try simp only [DL.wpS, DL.wpE, DL.wpA, wpT, wpTs, wpBo, DL.wpI, wpIf, wpTg, wpTgs, optI, List.getElem?_cons_zero, List.getElem?_cons_succ, List.set_cons_succ, List.set_cons_zero, vTru, cmpS, vIsK, vLt, vLe, vGt, vGe, vOrd, DL.isNon, addE, subE, biS, rdS, rdL_new, Bool.not_true, Bool.not_false, if_true, if_false, Bool.false_eq_true, Bool.true_eq_false, reduceIte, true_and, and_true, decide_true, decide_false, vGet_0, vGet_1, slcT, addT, vEq_lnil' (rdL_of hq9) rdL_new])
            generalize mup M4 q3 (.lst []) = M5 at hf9 ht9 U9 H9 hq9
            cases hte : th.isEmpty with
            | true =>
              simp only [if_true]
              refine wp_last ?_
              (try simp only [DL.wpS, DL.wpE, DL.wpA, wpT, wpTs, wpBo, DL.wpI, wpIf, wpTg, wpTgs, optI, List.getElem?_cons_zero, List.getElem?_cons_succ, List.set_cons_succ, List.set_cons_zero, vTru, cmpS, vIsK, vLt, vLe, vGt, vGe, vOrd, DL.isNon, addE, subE, biS, rdS, rdL_new, Bool.not_true, Bool.not_false, if_true, if_false, Bool.false_eq_true, Bool.true_eq_false, reduceIte, true_and, and_true, decide_true, decide_false, vGet_0, vGet_1, slcT, addT])
              exact ⟨st, ls, last, _, _, _, rfl, hf9, ht9, U9, H9.mono (by omega), by omega, hlast, hls, hflag⟩
            | false =>
              simp only [Bool.false_eq_true, if_false]
              refine wp_nil ?_
              refine wp_cut (fun ρ' M' => ∃ l, l ∈ th ∧ ρ' = [some (.obj p), some (encShape n rs), some (.obj fd), some (.int (i : Nat)), some (.int (st : Nat)), some (.obj td), some (.int (last : Nat)), some (.int (2 + se)), some (.int (j : Nat)), some (.obj q2), some (.int (l : Nat))] ∧ M' fd = some (.lst ts) ∧ M' td = some (.lst (ls.map fun k : Nat => D.int (k : Nat))) ∧ UpX p M M' ∧ Hand M' p cl (f + 1 + 5100 * i + 2 + 2 * j + 2)) ?_ ?_
              · (try simp only [DL.wpS, DL.wpE, DL.wpA, wpT, wpTs, wpBo, DL.wpI, wpIf, wpTg, wpTgs, optI, List.getElem?_cons_zero, List.getElem?_cons_succ, List.set_cons_succ, List.set_cons_zero, vTru, cmpS, vIsK, vLt, vLe, vGt, vGe, vOrd, DL.isNon, addE, subE, biS, rdS, rdL_new, Bool.not_true, Bool.not_false, if_true, if_false, Bool.false_eq_true, Bool.true_eq_false, reduceIte, true_and, and_true, decide_true, decide_false, vGet_0, vGet_1, slcT, addT])
                refine ⟨cl, _, H9, by omega, by omega, by omega, fun N6 r U10 H10 r0 r1 => ?_⟩
                have hf10 := U10.get hfp hf9
                have ht10 := U10.get htp ht9
                have hq10 := U10.get hq2p hq9
                have U10' := U9.trans U10.upx
                (try simp only [DL.wpS, DL.wpE, DL.wpA, wpT, wpTs, wpBo, DL.wpI, wpIf, wpTg, wpTgs, optI, List.getElem?_cons_zero, List.getElem?_cons_succ, List.set_cons_succ, List.set_cons_zero, vTru, cmpS, vIsK, vLt, vLe, vGt, vGe, vOrd, DL.isNon, addE, subE, biS, rdS, rdL_new, Bool.not_true, Bool.not_false, if_true, if_false, Bool.false_eq_true, Bool.true_eq_false, reduceIte, true_and, and_true, decide_true, decide_false, vGet_0, vGet_1, slcT, addT])
                by_cases hr : (0 : Int) < r
                · simp only [hr, decide_true, if_true]
                  cases th with
                  | nil => cases hte
                  | cons l th =>
                    have hg : vGet (.obj q2) (.int 0) N6 = fun Q => Q (.int (l : Nat)) N6 := by
                      funext Q
                      exact vGet_lst (k := 0) (rdL_of hq10) rfl
                    (try simp only [DL.wpS, DL.wpE, DL.wpA, wpT, wpTs, wpBo, DL.wpI, wpIf, wpTg, wpTgs, optI, List.getElem?_cons_zero, List.getElem?_cons_succ, List.set_cons_succ, List.set_cons_zero, vTru, cmpS, vIsK, vLt, vLe, vGt, vGe, vOrd, DL.isNon, addE, subE, biS, rdS, rdL_new, Bool.not_true, Bool.not_false, if_true, if_false, Bool.false_eq_true, Bool.true_eq_false, reduceIte, true_and, and_true, decide_true, decide_false, vGet_0, vGet_1, slcT, addT, hg])
                    exact ⟨l, List.mem_cons_self .., rfl, hf10, ht10, U10', H10.mono (by omega)⟩
                · simp only [hr, decide_false, Bool.false_eq_true, if_false]
                  refine ⟨cl, _, _, H10, by omega, .inr ⟨q2, rfl, hq2p, rdL_of hq10⟩, by cases th <;> simp at hte ⊢, by rw [List.length_map]; omega, fun N7 x U11 H11 hx => ?_⟩
                  obtain ⟨l, hl2, rfl⟩ := List.mem_map.mp hx
                  exact ⟨l, hl2, rfl, U11.get hfp hf10, U11.get htp ht10, U10'.trans U11.upx, H11.mono (by omega)⟩
              · rintro ρ' M6 ⟨l, hl2, rfl, hf11, ht11, U11, H11⟩
                obtain ⟨o, ho⟩ := hth l hl2
                have hol := hto o (List.mem_of_getElem? ho)
                have fo : rs[o]? = some rs[o] := List.getElem?_eq_getElem hol
                generalize rs[o] = row2 at fo
                refine ⟨M6, Sub.rfl', wp_cons ?_⟩
                (try simp only [DL.wpS, DL.wpE, DL.wpA, wpT, wpTs, wpBo, DL.wpI, wpIf, wpTg, wpTgs, optI, List.getElem?_cons_zero, List.getElem?_cons_succ, List.set_cons_succ, List.set_cons_zero, vTru, cmpS, vIsK, vLt, vLe, vGt, vGe, vOrd, DL.isNon, addE, subE, biS, rdS, rdL_new, Bool.not_true, Bool.not_false, if_true, if_false, Bool.false_eq_true, Bool.true_eq_false, reduceIte, true_and, and_true, decide_true, decide_false, vGet_0, vGet_1, slcT, addT, recv, BM.ty, rdL_of ht11, bmS, ht11])
                refine ⟨rfl, by rw [List.length_map]; unfold big; omega, ?_⟩
                have hf12 : mup M6 td (.lst (ls.map (fun k : Nat => D.int (k : Nat)) ++ [D.int (l : Nat)])) fd = some (.lst ts) := by rw [mup_ne hft]; exact hf11
                have ht12 : mup M6 td (.lst (ls.map (fun k : Nat => D.int (k : Nat)) ++ [D.int (l : Nat)])) td = some (.lst ((ls ++ [l]).map fun k : Nat => D.int (k : Nat))) := by rw [mup_same]; simp
                have U12 := U11.put hMt (o := .lst (ls.map (fun k : Nat => D.int (k : Nat)) ++ [D.int (l : Nat)]))
                have H12 := H11.put htp htc (o := .lst (ls.map (fun k : Nat => D.int (k : Nat)) ++ [D.int (l : Nat)]))
                generalize mup M6 td (.lst (ls.map (fun k : Nat => D.int (k : Nat)) ++ [D.int (l : Nat)])) = M7 at hf12 ht12 U12 H12
                refine wp_cons ?_
                (try simp only [DL.wpS, DL.wpE, DL.wpA, wpT, wpTs, wpBo, DL.wpI, wpIf, wpTg, wpTgs, optI, List.getElem?_cons_zero, List.getElem?_cons_succ, List.set_cons_succ, List.set_cons_zero, vTru, cmpS, vIsK, vLt, vLe, vGt, vGe, vOrd, DL.isNon, addE, subE, biS, rdS, rdL_new, Bool.not_true, Bool.not_false, if_true, if_false, Bool.false_eq_true, Bool.true_eq_false, reduceIte, true_and, and_true, decide_true, decide_false, vGet_0, vGet_1, slcT, addT, encShape, vGet_tup (enc_row f1), encRow, vGet_tup (enc_step ho), encStep])
                refine wp_last ?_
                (try simp only [DL.wpS, DL.wpE, DL.wpA, wpT, wpTs, wpBo, DL.wpI, wpIf, wpTg, wpTgs, optI, List.getElem?_cons_zero, List.getElem?_cons_succ, List.set_cons_succ, List.set_cons_zero, vTru, cmpS, vIsK, vLt, vLe, vGt, vGe, vOrd, DL.isNon, addE, subE, biS, rdS, rdL_new, Bool.not_true, Bool.not_false, if_true, if_false, Bool.false_eq_true, Bool.true_eq_false, reduceIte, true_and, and_true, decide_true, decide_false, vGet_0, vGet_1, slcT, addT, encShape, vGet_tup (enc_row fo), encRow, rdL_of ht12])
                have he2 : endS rs (some 0) (ls ++ [l]) = some o := by rw [endS_snoc, he]; simp only [stepS, f1, ho, Option.join_some]
                have hls2 : ∀ k ∈ ls ++ [l], k < n := fun k hk => by
                  rcases List.mem_append.mp hk with h | h
                  · exact hls k h
                  · rw [List.mem_singleton] at h; rw [h]; exact hthn l hl2
                cases hb : row2.1 with
                | true =>
                  simp only [if_true, List.length_map]
                  refine ⟨M7, Sub.rfl', o, ls ++ [l], (ls ++ [l]).length, _, _, _, rfl, hf12, ht12, U12, H12.mono (by omega), by simp [hlj], by omega, Nat.le_refl _, hls2, he2, hol, fun _ => ?_⟩
                  rw [List.take_length, he2]
                  simp only [flagS, fo, hb]
                | false =>
                  simp only [Bool.false_eq_true, if_false]
                  refine ⟨M7, Sub.rfl', o, ls ++ [l], last, _, _, _, rfl, hf12, ht12, U12, H12.mono (by omega), by simp [hlj], by omega, by simp; omega, hls2, he2, hol, fun h => ?_⟩
                  rw [List.take_append_of_le_length hlast]
                  exact hflag h
        · simp only [hjl, if_false]
          exact ⟨st, ls, last, y8, y9, y10, rfl, hf7, ht7, U7, H7.mono (by omega), by omega, hlast, hls, hflag⟩
      · rintro ρ' M3 ⟨st, ls, last, y8, y9, y10, rfl, hf7, ht7, U7, H7, hl25, hlast, hls, hflag⟩
        have hMfd : M fd = none := hfd
        refine ⟨M3, Sub.rfl', wp_last ?_⟩
        have e0 : flagS rs (endS rs (some 0) []) = row0.1 := by
          show flagS rs (some 0) = _
          simp only [flagS, f0]
        have good : (0 < last ∨ row0.1 = true) → goodT n rs (encText (ls.take last)) := fun h => by
          refine ⟨ls.take last, rfl, by rw [List.length_take]; omega, fun k hk => hls k (List.mem_of_mem_take hk), ?_⟩
          rw [way_end]
          by_cases hz : 0 < last
          · exact hflag hz
          · have : last = 0 := by omega
            subst this
            rw [List.take_zero, e0]
            exact h.resolve_left hz
        have app : (0 < last ∨ row0.1 = true) → wpSs ⟨[C__law_draw k sp_draw, C__law_any k2 sp_any], sub, fdOf cf⟩ (wF E0) none (.cons (.ex (.bm .append (.var 2) (.cons (.bi .tuple (.cons (.slc (.var 5) .nil (.cons (.var 6) .nil)) .nil)) .nil))) .nil) { endsF Q0 with nx := fun ρ'' M' => ∃ M'', DL.Sub M'' M' ∧ ∃ (ts : List D) (x3 x4 x5 x6 x7 x8 x9 x10 : Option D), ρ'' = [some (.obj p), some (encShape n rs), some (.obj fd), x3, x4, x5, x6, x7, x8, x9, x10] ∧ M'' fd = some (.lst ts) ∧ UpX p M M'' ∧ Hand M'' p cl (f + 1 + 5100 * (i + 1)) ∧ ts.length ≤ i + 1 ∧ (∀ t ∈ ts, goodT n rs t) ∧ i + 1 ≤ 2 } [some (.obj p), some (encShape n rs), some (.obj fd), some (.int (i : Nat)), some (.int (st : Nat)), some (.obj td), some (.int (last : Nat)), some (.int (2 + se)), y8, y9, y10] M3 := fun h => by
          refine wp_last ?_
          (try simp only [DL.wpS, DL.wpE, DL.wpA, wpT, wpTs, wpBo, DL.wpI, wpIf, wpTg, wpTgs, optI, List.getElem?_cons_zero, List.getElem?_cons_succ, List.set_cons_succ, List.set_cons_zero, vTru, cmpS, vIsK, vLt, vLe, vGt, vGe, vOrd, DL.isNon, addE, subE, biS, rdS, rdL_new, Bool.not_true, Bool.not_false, if_true, if_false, Bool.false_eq_true, Bool.true_eq_false, reduceIte, true_and, and_true, decide_true, decide_false, vGet_0, vGet_1, slcT, addT, recv, BM.ty, rdL_of hf7, vSlc, rdL_of ht7, cut_take (xs := ls.map fun k : Nat => D.int (k : Nat)) (k := last) (by rw [List.length_map]; exact hlast)])
          refine ⟨rfl, fun q hq' => ?_⟩
          have hfq := ne_none hf7 hq'
          (try simp only [DL.wpS, DL.wpE, DL.wpA, wpT, wpTs, wpBo, DL.wpI, wpIf, wpTg, wpTgs, optI, List.getElem?_cons_zero, List.getElem?_cons_succ, List.set_cons_succ, List.set_cons_zero, vTru, cmpS, vIsK, vLt, vLe, vGt, vGe, vOrd, DL.isNon, addE, subE, biS, rdS, rdL_new, Bool.not_true, Bool.not_false, if_true, if_false, Bool.false_eq_true, Bool.true_eq_false, reduceIte, true_and, and_true, decide_true, decide_false, vGet_0, vGet_1, slcT, addT, bmS, mup_ne hfq, hf7])
          refine ⟨by unfold big; omega, _, Sub.rfl', ts ++ [encText (ls.take last)], _, _, _, _, _, _, _, _, rfl, ?_, (U7.new hq').put hMfd, ((H7.new hq').put hfp hfc).mono (by omega), by rw [List.length_append, List.length_singleton]; omega, fun t ht => ?_, by omega⟩
          · rw [mup_same]
            unfold encText
            rw [List.map_take]
          · rcases List.mem_append.mp ht with z | z
            · exact hgood t z
            · rw [List.mem_singleton] at z; rw [z]; exact good h
        (try simp only [DL.wpS, DL.wpE, DL.wpA, wpT, wpTs, wpBo, DL.wpI, wpIf, wpTg, wpTgs, optI, List.getElem?_cons_zero, List.getElem?_cons_succ, List.set_cons_succ, List.set_cons_zero, vTru, cmpS, vIsK, vLt, vLe, vGt, vGe, vOrd, DL.isNon, addE, subE, biS, rdS, rdL_new, Bool.not_true, Bool.not_false, if_true, if_false, Bool.false_eq_true, Bool.true_eq_false, reduceIte, true_and, and_true, decide_true, decide_false, vGet_0, vGet_1, slcT, addT, encShape, vGet_tup (enc_row f0), encRow])
        have g00 : vGet (.tup (encRows rs)) (.int 0) M3 = fun Q => Q (encRow row0) M3 := by
          funext Q; exact vGet_tup (k := 0) (enc_row f0)
        by_cases hlz : (0 : Int) < (last : Nat)
        · simp only [hlz, decide_true, Bool.true_eq_false, if_false, if_true]
          exact app (.inl (by omega))
        · simp only [hlz, decide_false, if_true]
          (try simp only [DL.wpS, DL.wpE, DL.wpA, wpT, wpTs, wpBo, DL.wpI, wpIf, wpTg, wpTgs, optI, List.getElem?_cons_zero, List.getElem?_cons_succ, List.set_cons_succ, List.set_cons_zero, vTru, cmpS, vIsK, vLt, vLe, vGt, vGe, vOrd, DL.isNon, addE, subE, biS, rdS, rdL_new, Bool.not_true, Bool.not_false, if_true, if_false, Bool.false_eq_true, Bool.true_eq_false, reduceIte, true_and, and_true, decide_true, decide_false, vGet_0, vGet_1, slcT, addT, g00, encRow])
          cases hb : row0.1 with
          | true =>
            simp only [if_true]
            exact app (.inr hb)
          | false =>
            simp only [Bool.false_eq_true, if_false]
            exact wp_nil ⟨M3, Sub.rfl', ts, _, _, _, _, _, _, _, _, rfl, hf7, U7, H7.mono (by omega), by omega, hgood, by omega⟩
    · simp only [hi, if_false]
      refine wp_last ?_
      (try simp only [DL.wpS, DL.wpE, DL.wpA, wpT, wpTs, wpBo, DL.wpI, wpIf, wpTg, wpTgs, optI, List.getElem?_cons_zero, List.getElem?_cons_succ, List.set_cons_succ, List.set_cons_zero, vTru, cmpS, vIsK, vLt, vLe, vGt, vGe, vOrd, DL.isNon, addE, subE, biS, rdS, rdL_new, Bool.not_true, Bool.not_false, if_true, if_false, Bool.false_eq_true, Bool.true_eq_false, reduceIte, true_and, and_true, decide_true, decide_false, vGet_0, vGet_1, slcT, addT, rdL_of hf3])
      exact rt_of (hq M2 ts U3 (H3.mono (by omega)) (by omega) hgood) Sub.rfl'
  · exact hh.elim
end H41
set_option Elab.async false
set_option linter.all false
set_option maxRecDepth 100000
set_option maxHeartbeats 1000000
namespace H41
open PySem PySem.Spec PyProof.Rows L2 DL
theorem Hand_at {N : Mem} {p cl q : Addr} {f : Nat} (e : N q = none) (h : Hand N p cl f) : Hand N p cl f := h
theorem Hand.sub {M N : Mem} {p cl : Addr} {f : Nat} (h : Hand M p cl f) (s : Sub M N) : Hand N p cl f := by
  refine h.up ?_ fun xs hx => rdL_sub s hx
  obtain ⟨cells, h', a, b⟩ := h
  rw [a.at_, s _ _ a.at_]
def rows1 (n : Nat) : List Row := [(true, List.replicate n (some 0))]
theorem sh1 {n : Nat} (h1 : 1 ≤ n) (h8 : n ≤ 8) : ShOk n (rows1 n) := by
  have l1 : (rows1 n).length = 1 := rfl
  refine ⟨h1, h8, by omega, by omega, fun r hr => ?_, fun r hr k hk => ?_⟩
  · rw [List.mem_singleton.mp hr]; simp
  · rw [List.mem_singleton.mp hr] at hk
    have := (List.mem_replicate.mp hk).2
    cases this
    omega
theorem enc1 (n : Nat) : encShape n (rows1 n) = .tup [.int (n : Nat), .tup [.tup [.bl true, .tup (List.replicate ((n : Nat) : Int).toNat [D.int 0]).flatten]]] := by
  have : (List.replicate ((n : Nat) : Int).toNat [D.int 0]).flatten = (List.replicate n (some 0)).map encStep := by
    rw [Int.toNat_natCast, List.map_replicate]
    induction n with
    | zero => rfl
    | succ n ih => rw [List.replicate_succ, List.flatten_cons, ih, List.replicate_succ]; rfl
  rw [this]; rfl
theorem good1 {n l : Nat} (h : l < n) : goodT n (rows1 n) (.tup [.int (l : Nat)]) := by
  refine ⟨[l], rfl, by simp, by simpa using h, ?_⟩
  have : (List.replicate n (some 0))[l]? = some (some 0) := by rw [List.getElem?_replicate, if_pos h]
  simp [way, rows1, this]
def sp_law : SpD := fun ds M Q _ => match ds with
  | [.obj a] => ∃ ns : List Int, rdL M a = some (ns.map .int) ∧ ns.length ≤ 63 ∧ ∀ N, Q (.bl true) N
  | _ => False
theorem h_law (k0 k1 k2 k3 k4 k5 k6 k7 k8 k9 : Nat) : ∀ ds M Q0 E0, sp_law ds M Q0 E0 → ds.length = 1 ∧ wpSs ⟨[C__law_pot k0 sp_pot, C__law_shape k1 sp_shape, C__law_texts k2 sp_texts, C__law_any k3 sp_any, C__law_draw k4 sp_draw, C__law_long k5 sp_long, C__law_great k6 sp_great, C__law_is k7 (sp_eq 6), C__law_made k8 sp_made, C_fitted k9 sp_fitted], sub, fdOf cf⟩ (wF E0) none m_law (endsF Q0) (startD N_law.length ds) M := by
  intro ds M Q0 E0 hh
  unfold sp_law at hh
  split at hh
  · rename_i a
    obtain ⟨ns, ha, hl, hq⟩ := hh
    refine ⟨rfl, ?_⟩
    unfold m_law
    refine wp_cons ?_
    show DL.wpS _ _ _ _ _ [some (.obj a), none, none, none, none] M
    (try simp only [DL.wpS, DL.wpE, DL.wpA, wpT, wpTs, wpBo, DL.wpI, wpIf, wpTg, wpTgs, optI, List.getElem?_cons_zero, List.getElem?_cons_succ, List.set_cons_succ, List.set_cons_zero, vTru, cmpS, vIsK, vLt, vLe, vGt, vGe, vOrd, DL.isNon, addE, subE, biS, rdS, rdL_new, Bool.not_true, Bool.not_false, if_true, if_false, Bool.false_eq_true, Bool.true_eq_false, reduceIte, true_and, and_true, decide_true, decide_false, vGet_0, vGet_1, slcT, addT])
    refine ⟨ns, ha, hl, fun N0 p cl _ _ _ H0 => ?_⟩
    (try simp only [DL.wpS, DL.wpE, DL.wpA, wpT, wpTs, wpBo, DL.wpI, wpIf, wpTg, wpTgs, optI, List.getElem?_cons_zero, List.getElem?_cons_succ, List.set_cons_succ, List.set_cons_zero, vTru, cmpS, vIsK, vLt, vLe, vGt, vGe, vOrd, DL.isNon, addE, subE, biS, rdS, rdL_new, Bool.not_true, Bool.not_false, if_true, if_false, Bool.false_eq_true, Bool.true_eq_false, reduceIte, true_and, and_true, decide_true, decide_false, vGet_0, vGet_1, slcT, addT])
    refine wp_cons ?_
    (try simp only [DL.wpS, DL.wpE, DL.wpA, wpT, wpTs, wpBo, DL.wpI, wpIf, wpTg, wpTgs, optI, List.getElem?_cons_zero, List.getElem?_cons_succ, List.set_cons_succ, List.set_cons_zero, vTru, cmpS, vIsK, vLt, vLe, vGt, vGe, vOrd, DL.isNon, addE, subE, biS, rdS, rdL_new, Bool.not_true, Bool.not_false, if_true, if_false, Bool.false_eq_true, Bool.true_eq_false, reduceIte, true_and, and_true, decide_true, decide_false, vGet_0, vGet_1, slcT, addT, rngOf])
    refine ⟨by decide, by decide, ?_⟩
    refine ⟨fun i ρ M' => ∃ x2 x3 x4, ρ = [some (.obj a), some (.obj p), x2, x3, x4] ∧ Hand M' p cl (30000 * i) ∧ i ≤ 3, ⟨none, none, none, rfl, H0, by omega⟩, ?_⟩
    rintro i ρ M ⟨x2, x3, x4, rfl, HM, hi6⟩
    simp only [range_get_z]
    by_cases hi : (i : Int) < 3
    · simp only [hi, if_true]
      (try simp only [DL.wpS, DL.wpE, DL.wpA, wpT, wpTs, wpBo, DL.wpI, wpIf, wpTg, wpTgs, optI, List.getElem?_cons_zero, List.getElem?_cons_succ, List.set_cons_succ, List.set_cons_zero, vTru, cmpS, vIsK, vLt, vLe, vGt, vGe, vOrd, DL.isNon, addE, subE, biS, rdS, rdL_new, Bool.not_true, Bool.not_false, if_true, if_false, Bool.false_eq_true, Bool.true_eq_false, reduceIte, true_and, and_true, decide_true, decide_false, vGet_0, vGet_1, slcT, addT])
      refine wp_cons ?_
      (try simp only [DL.wpS, DL.wpE, DL.wpA, wpT, wpTs, wpBo, DL.wpI, wpIf, wpTg, wpTgs, optI, List.getElem?_cons_zero, List.getElem?_cons_succ, List.set_cons_succ, List.set_cons_zero, vTru, cmpS, vIsK, vLt, vLe, vGt, vGe, vOrd, DL.isNon, addE, subE, biS, rdS, rdL_new, Bool.not_true, Bool.not_false, if_true, if_false, Bool.false_eq_true, Bool.true_eq_false, reduceIte, true_and, and_true, decide_true, decide_false, vGet_0, vGet_1, slcT, addT])
      intro q1 hq1 q2 hq2
      have H1 := Hand_at hq2 (HM.new hq1)
      refine ⟨cl, _, [3, 4, 5, 6, 8], [1, 1, 2, 3], H1.new hq2, by omega, HM.fresh hq1, H1.fresh hq2, rdL_of (get_up mup_same hq2), by decide, by decide, by decide, by rw [rdL_new]; rfl, by decide, by decide, by decide, fun N n rs _ H2 hS hn => ?_⟩
      have hn3 : 3 ≤ n := by
        simp only [List.mem_cons, List.not_mem_nil, or_false] at hn
        omega
      refine wp_cons ?_
      (try simp only [DL.wpS, DL.wpE, DL.wpA, wpT, wpTs, wpBo, DL.wpI, wpIf, wpTg, wpTgs, optI, List.getElem?_cons_zero, List.getElem?_cons_succ, List.set_cons_succ, List.set_cons_zero, vTru, cmpS, vIsK, vLt, vLe, vGt, vGe, vOrd, DL.isNon, addE, subE, biS, rdS, rdL_new, Bool.not_true, Bool.not_false, if_true, if_false, Bool.false_eq_true, Bool.true_eq_false, reduceIte, true_and, and_true, decide_true, decide_false, vGet_0, vGet_1, slcT, addT])
      intro q3 hq3
      refine ⟨cl, _, _, H2.new hq3, by omega, .inr ⟨q3, rfl, H2.fresh hq3, rdL_new⟩, by simp, by simp, fun N2 m U3 H3 hm => ?_⟩
      have hm' : ∃ k : Int, m = .int k ∧ 0 ≤ k ∧ k ≤ 100 := by
        simp only [List.mem_cons, List.not_mem_nil, or_false] at hm
        rcases hm with rfl | rfl | rfl | rfl | rfl
        · exact ⟨0, rfl, by decide, by decide⟩
        · exact ⟨1, rfl, by decide, by decide⟩
        · exact ⟨8, rfl, by decide, by decide⟩
        · exact ⟨40, rfl, by decide, by decide⟩
        · exact ⟨100, rfl, by decide, by decide⟩
      obtain ⟨k, rfl, k0', k9'⟩ := hm'
      refine ⟨cl, _, n, rs, rfl, hS, H3, by omega, k0', k9', fun N3 ts U4 H4 htl hts => ?_⟩
      -- otherwise, now and then
      refine wp_cut (fun ρ' M' => ∃ n rs ts, ρ' = [some (.obj a), some (.obj p), some (.int (i : Nat)), some (encShape n rs), some (.tup ts)] ∧ Hand M' p cl (30000 * (i + 1)) ∧ ShOk n rs ∧ ts.length ≤ 500 ∧ ∀ t ∈ ts, goodT n rs t) ?_ ?_
      · (try simp only [DL.wpS, DL.wpE, DL.wpA, wpT, wpTs, wpBo, DL.wpI, wpIf, wpTg, wpTgs, optI, List.getElem?_cons_zero, List.getElem?_cons_succ, List.set_cons_succ, List.set_cons_zero, vTru, cmpS, vIsK, vLt, vLe, vGt, vGe, vOrd, DL.isNon, addE, subE, biS, rdS, rdL_new, Bool.not_true, Bool.not_false, if_true, if_false, Bool.false_eq_true, Bool.true_eq_false, reduceIte, true_and, and_true, decide_true, decide_false, vGet_0, vGet_1, slcT, addT])
        refine ⟨cl, _, H4, by omega, by decide, by decide, fun N4 r U5 H5 r0 r1 => ?_⟩
        (try simp only [DL.wpS, DL.wpE, DL.wpA, wpT, wpTs, wpBo, DL.wpI, wpIf, wpTg, wpTgs, optI, List.getElem?_cons_zero, List.getElem?_cons_succ, List.set_cons_succ, List.set_cons_zero, vTru, cmpS, vIsK, vLt, vLe, vGt, vGe, vOrd, DL.isNon, addE, subE, biS, rdS, rdL_new, Bool.not_true, Bool.not_false, if_true, if_false, Bool.false_eq_true, Bool.true_eq_false, reduceIte, true_and, and_true, decide_true, decide_false, vGet_0, vGet_1, slcT, addT, vEqK])
        by_cases hr : r = 0
        · simp only [hr, decide_true, if_true]
          refine wp_cons ?_
          (try simp only [DL.wpS, DL.wpE, DL.wpA, wpT, wpTs, wpBo, DL.wpI, wpIf, wpTg, wpTgs, optI, List.getElem?_cons_zero, List.getElem?_cons_succ, List.set_cons_succ, List.set_cons_zero, vTru, cmpS, vIsK, vLt, vLe, vGt, vGe, vOrd, DL.isNon, addE, subE, biS, rdS, rdL_new, Bool.not_true, Bool.not_false, if_true, if_false, Bool.false_eq_true, Bool.true_eq_false, reduceIte, true_and, and_true, decide_true, decide_false, vGet_0, vGet_1, slcT, addT])
          intro q4 hq4 q5 hq5
          have H6 := Hand_at hq5 (H5.new hq4)
          refine ⟨cl, _, [2, 3, 6], [1, 2, 8, 30], H6.new hq5, by omega, H5.fresh hq4, H6.fresh hq5, rdL_of (get_up mup_same hq5), by decide, by decide, by decide, by rw [rdL_new]; rfl, by decide, by decide, by decide, fun N6 n2 rs2 _ H7 hS2 _ => ?_⟩
          refine wp_last ?_
          (try simp only [DL.wpS, DL.wpE, DL.wpA, wpT, wpTs, wpBo, DL.wpI, wpIf, wpTg, wpTgs, optI, List.getElem?_cons_zero, List.getElem?_cons_succ, List.set_cons_succ, List.set_cons_zero, vTru, cmpS, vIsK, vLt, vLe, vGt, vGe, vOrd, DL.isNon, addE, subE, biS, rdS, rdL_new, Bool.not_true, Bool.not_false, if_true, if_false, Bool.false_eq_true, Bool.true_eq_false, reduceIte, true_and, and_true, decide_true, decide_false, vGet_0, vGet_1, slcT, addT])
          exact ⟨cl, _, n2, rs2, rfl, hS2, H7, by omega, fun N7 ts2 U8 H8 h1 h2 => ⟨n2, rs2, ts2, rfl, H8.mono (by omega), hS2, by omega, h2⟩⟩
        · simp only [hr, decide_false, Bool.false_eq_true, if_false]
          refine wp_last ?_
          (try simp only [DL.wpS, DL.wpE, DL.wpA, wpT, wpTs, wpBo, DL.wpI, wpIf, wpTg, wpTgs, optI, List.getElem?_cons_zero, List.getElem?_cons_succ, List.set_cons_succ, List.set_cons_zero, vTru, cmpS, vIsK, vLt, vLe, vGt, vGe, vOrd, DL.isNon, addE, subE, biS, rdS, rdL_new, Bool.not_true, Bool.not_false, if_true, if_false, Bool.false_eq_true, Bool.true_eq_false, reduceIte, true_and, and_true, decide_true, decide_false, vGet_0, vGet_1, slcT, addT])
          refine ⟨cl, _, H5, by omega, by decide, by decide, fun N5 r2 U6 H6 r20 r21 => ?_⟩
          (try simp only [DL.wpS, DL.wpE, DL.wpA, wpT, wpTs, wpBo, DL.wpI, wpIf, wpTg, wpTgs, optI, List.getElem?_cons_zero, List.getElem?_cons_succ, List.set_cons_succ, List.set_cons_zero, vTru, cmpS, vIsK, vLt, vLe, vGt, vGe, vOrd, DL.isNon, addE, subE, biS, rdS, rdL_new, Bool.not_true, Bool.not_false, if_true, if_false, Bool.false_eq_true, Bool.true_eq_false, reduceIte, true_and, and_true, decide_true, decide_false, vGet_0, vGet_1, slcT, addT, vEqK])
          by_cases hr2 : r2 = 0
          · simp only [hr2, decide_true, if_true]
            refine wp_cons ?_
            have n8 := hS.n8
            (try simp only [DL.wpS, DL.wpE, DL.wpA, wpT, wpTs, wpBo, DL.wpI, wpIf, wpTg, wpTgs, optI, List.getElem?_cons_zero, List.getElem?_cons_succ, List.set_cons_succ, List.set_cons_zero, vTru, cmpS, vIsK, vLt, vLe, vGt, vGe, vOrd, DL.isNon, addE, subE, biS, rdS, rdL_new, Bool.not_true, Bool.not_false, if_true, if_false, Bool.false_eq_true, Bool.true_eq_false, reduceIte, true_and, and_true, decide_true, decide_false, vGet_0, vGet_1, slcT, addT, encShape, mulT])
            refine ⟨⟨by simp, by omega, by omega, by decide⟩, ?_⟩
            rw [← enc1]
            refine wp_last ?_
            (try simp only [DL.wpS, DL.wpE, DL.wpA, wpT, wpTs, wpBo, DL.wpI, wpIf, wpTg, wpTgs, optI, List.getElem?_cons_zero, List.getElem?_cons_succ, List.set_cons_succ, List.set_cons_zero, vTru, cmpS, vIsK, vLt, vLe, vGt, vGe, vOrd, DL.isNon, addE, subE, biS, rdS, rdL_new, Bool.not_true, Bool.not_false, if_true, if_false, Bool.false_eq_true, Bool.true_eq_false, reduceIte, true_and, and_true, decide_true, decide_false, vGet_0, vGet_1, slcT, addT])
            refine ⟨cl, _, n, rfl, by omega, n8, H6, by omega, fun N7 ts2 U8 H8 h1 h2 => ?_⟩
            exact ⟨n, rows1 n, ts2, rfl, H8.mono (by omega), sh1 (by omega) n8, by omega, fun t ht => by obtain ⟨l, hl, rfl⟩ := h2 t ht; exact good1 hl⟩
          · simp only [hr2, decide_false, Bool.false_eq_true, if_false]
            exact wp_nil ⟨n, rs, ts, rfl, H6.mono (by omega), hS, by omega, hts⟩
      · rintro ρ' M4 ⟨n, rs, ts, rfl, H7, hS, htl, hts⟩
        refine ⟨M4, Sub.rfl', wp_last ?_⟩
        have hare := are_goods hts
        (try simp only [DL.wpS, DL.wpE, DL.wpA, wpT, wpTs, wpBo, DL.wpI, wpIf, wpTg, wpTgs, optI, List.getElem?_cons_zero, List.getElem?_cons_succ, List.set_cons_succ, List.set_cons_zero, vTru, cmpS, vIsK, vLt, vLe, vGt, vGe, vOrd, DL.isNon, addE, subE, biS, rdS, rdL_new, Bool.not_true, Bool.not_false, if_true, if_false, Bool.false_eq_true, Bool.true_eq_false, reduceIte, true_and, and_true, decide_true, decide_false, vGet_0, vGet_1, slcT, addT])
        refine ⟨kw_shape _ hS, kw_texts (by omega) hts, ?_, ?_⟩
        · intro e; rw [shapeOk_enc hS] at e; cases e
        intro n' rs' e hS'
        obtain ⟨rfl, e2⟩ := enc_inj e
        obtain rfl := rows_inj e2
        rw [hare]
        simp only [if_true]
        refine ⟨n, rs, rfl, hS, hS.n8, hare, kw_texts (by omega) hts, fun N5 s5 => ?_⟩
        have pf := plain_fit N5 hS (.tup ts)
        refine ⟨rfl, pf.pl, fun _ _ => pf.kw, ?_⟩
        (try simp only [DL.wpS, DL.wpE, DL.wpA, wpT, wpTs, wpBo, DL.wpI, wpIf, wpTg, wpTgs, optI, List.getElem?_cons_zero, List.getElem?_cons_succ, List.set_cons_succ, List.set_cons_zero, vTru, cmpS, vIsK, vLt, vLe, vGt, vGe, vOrd, DL.isNon, addE, subE, biS, rdS, rdL_new, Bool.not_true, Bool.not_false, if_true, if_false, Bool.false_eq_true, Bool.true_eq_false, reduceIte, true_and, and_true, decide_true, decide_false, vGet_0, vGet_1, slcT, addT])
        exact wp_nil ⟨N5, Sub.rfl', _, _, _, rfl, H7.sub s5, by omega⟩
    · simp only [hi, if_false]
      refine wp_last ?_
      (try simp only [DL.wpS, DL.wpE, DL.wpA, wpT, wpTs, wpBo, DL.wpI, wpIf, wpTg, wpTgs, optI, List.getElem?_cons_zero, List.getElem?_cons_succ, List.set_cons_succ, List.set_cons_zero, vTru, cmpS, vIsK, vLt, vLe, vGt, vGe, vOrd, DL.isNon, addE, subE, biS, rdS, rdL_new, Bool.not_true, Bool.not_false, if_true, if_false, Bool.false_eq_true, Bool.true_eq_false, reduceIte, true_and, and_true, decide_true, decide_false, vGet_0, vGet_1, slcT, addT])
      exact rt_of (hq M) Sub.rfl'
  · exact hh.elim
end H41
set_option Elab.async false
set_option linter.all false
set_option maxRecDepth 100000
set_option maxHeartbeats 0
namespace H41
open PySem PySem.Spec PyProof.Rows L2 DL
theorem cheap_no : ∀ ds M Q E, sp_cheap 0 ds M Q E → False := fun ds M Q E h => by
  unfold sp_cheap at h
  split at h
  · obtain ⟨_, _, _, _, _, _, _, _, _, _, _, z, _⟩ := h
    exact Nat.not_lt_zero _ z
  · exact h
theorem eq_no : ∀ ds M Q E, sp_eq 0 ds M Q E → False := fun ds M Q E h => by
  unfold sp_eq at h
  split at h
  · exact nomatch h.2.1
  · exact h
section
variable {w : World} {base : Heap} {G : Cfg} (L : LW fa fn cf sub R.prog w base G)
include L
omit L in
theorem D_is_integer : DefOk cf sub d_is_integer N_is_integer ["thing"] 3 sp_is_integer m_is_integer [] := ⟨⟨rfl, rfl⟩, ⟨rfl, rfl, rfl, by decide +kernel, rfl, by decide +kernel, by decide +kernel⟩, fun _ _ _ _ _ _ us hl => match us, hl with | [_], _ => rfl, k_is_integer, lev_of rfl, by decide, h_is_integer⟩
theorem ok_is_integer : (C_is_integer 4 sp_is_integer).Ok R.prog w G base := L.fn_ (nm := "is_integer") 0 rfl rfl (List.mem_iff_getElem?.mpr ⟨0, rfl⟩) D_is_integer oks_nil
omit L in
theorem D_is_between : DefOk cf sub d_is_between N_is_between ["thing", "least", "most"] 4 sp_is_between m_is_between [C_is_integer 4 sp_is_integer] := ⟨⟨rfl, rfl⟩, ⟨rfl, rfl, rfl, by decide +kernel, rfl, by decide +kernel, by decide +kernel⟩, fun _ _ _ _ _ _ us hl => match us, hl with | [_, _, _], _ => rfl, k_is_between _ _, lev_of rfl, by decide, h_is_between _⟩
theorem ok_is_between : (C_is_between 5 sp_is_between).Ok R.prog w G base := L.fn_ (nm := "is_between") 1 rfl rfl (List.mem_iff_getElem?.mpr ⟨1, rfl⟩) D_is_between (oks_cons (ok_is_integer L) oks_nil)
omit L in
theorem D_is_index : DefOk cf sub d_is_index N_is_index ["thing", "many"] 5 sp_is_index m_is_index [C_is_between 5 sp_is_between] := ⟨⟨rfl, rfl⟩, ⟨rfl, rfl, rfl, by decide +kernel, rfl, by decide +kernel, by decide +kernel⟩, fun _ _ _ _ _ _ us hl => match us, hl with | [_, _], _ => rfl, k_is_index _ _, lev_of rfl, by decide, h_is_index _⟩
theorem ok_is_index : (C_is_index 6 sp_is_index).Ok R.prog w G base := L.fn_ (nm := "is_index") 2 rfl rfl (List.mem_iff_getElem?.mpr ⟨2, rfl⟩) D_is_index (oks_cons (ok_is_between L) oks_nil)
omit L in
theorem D_is_tuple_of : DefOk cf sub d_is_tuple_of N_is_tuple_of ["thing", "many"] 3 sp_is_tuple_of m_is_tuple_of [] := ⟨⟨rfl, rfl⟩, ⟨rfl, rfl, rfl, by decide +kernel, rfl, by decide +kernel, by decide +kernel⟩, fun _ _ _ _ _ _ us hl => match us, hl with | [_, _], _ => rfl, k_is_tuple_of, lev_of rfl, by decide, h_is_tuple_of⟩
theorem ok_is_tuple_of : (C_is_tuple_of 4 sp_is_tuple_of).Ok R.prog w G base := L.fn_ (nm := "is_tuple_of") 3 rfl rfl (List.mem_iff_getElem?.mpr ⟨3, rfl⟩) D_is_tuple_of oks_nil
omit L in
theorem D_is_size : DefOk cf sub d_is_size N_is_size ["thing"] 5 sp_is_size m_is_size [C_is_between 5 sp_is_between] := ⟨⟨rfl, rfl⟩, ⟨rfl, rfl, rfl, by decide +kernel, rfl, by decide +kernel, by decide +kernel⟩, fun _ _ _ _ _ _ us hl => match us, hl with | [_], _ => rfl, k_is_size _ _, lev_of rfl, by decide, h_is_size _⟩
theorem ok_is_size : (C_is_size 6 sp_is_size).Ok R.prog w G base := L.fn_ (nm := "is_size") 4 rfl rfl (List.mem_iff_getElem?.mpr ⟨4, rfl⟩) D_is_size (oks_cons (ok_is_between L) oks_nil)
omit L in
theorem D_raw_is_text : DefOk cf sub d_raw_is_text N_raw_is_text ["size", "thing"] 6 sp_raw_is_text m_raw_is_text [C_is_index 6 sp_is_index] := ⟨⟨rfl, rfl⟩, ⟨rfl, rfl, rfl, by decide +kernel, rfl, by decide +kernel, by decide +kernel⟩, fun _ _ _ _ _ _ us hl => match us, hl with | [_, _], _ => rfl, k_raw_is_text _ _, lev_of rfl, by decide, h_raw_is_text _⟩
theorem ok_raw_is_text : (C_raw_is_text 7 sp_raw_is_text).Ok R.prog w G base := L.fn_ (nm := "raw_is_text") 5 rfl rfl (List.mem_iff_getElem?.mpr ⟨5, rfl⟩) D_raw_is_text (oks_cons (ok_is_index L) oks_nil)
omit L in
theorem D_is_shape_row : DefOk cf sub d_is_shape_row N_is_shape_row ["thing", "size", "states"] 6 sp_is_shape_row m_is_shape_row [C_is_tuple_of 4 sp_is_tuple_of, C_is_index 6 sp_is_index] := ⟨⟨rfl, rfl⟩, ⟨rfl, rfl, rfl, by decide +kernel, rfl, by decide +kernel, by decide +kernel⟩, fun _ _ _ _ _ _ us hl => match us, hl with | [_, _, _], _ => rfl, k_is_shape_row _ _ _ _, lev_of rfl, by decide, h_is_shape_row _ _⟩
theorem ok_is_shape_row : (C_is_shape_row 7 sp_is_shape_row).Ok R.prog w G base := L.fn_ (nm := "is_shape_row") 6 rfl rfl (List.mem_iff_getElem?.mpr ⟨6, rfl⟩) D_is_shape_row (oks_cons (ok_is_tuple_of L) (oks_cons (ok_is_index L) oks_nil))
omit L in
theorem D_is_shape : DefOk cf sub d_is_shape N_is_shape ["thing"] 7 sp_is_shape m_is_shape [C_is_size 6 sp_is_size, C_is_tuple_of 4 sp_is_tuple_of, C_is_shape_row 7 sp_is_shape_row] := ⟨⟨rfl, rfl⟩, ⟨rfl, rfl, rfl, by decide +kernel, rfl, by decide +kernel, by decide +kernel⟩, fun _ _ _ _ _ _ us hl => match us, hl with | [_], _ => rfl, k_is_shape _ _ _ _ _ _, lev_of rfl, by decide, h_is_shape _ _ _⟩
theorem ok_is_shape : (C_is_shape 8 sp_is_shape).Ok R.prog w G base := L.fn_ (nm := "is_shape") 7 rfl rfl (List.mem_iff_getElem?.mpr ⟨7, rfl⟩) D_is_shape (oks_cons (ok_is_size L) (oks_cons (ok_is_tuple_of L) (oks_cons (ok_is_shape_row L) oks_nil)))
omit L in
theorem D_way_of : DefOk cf sub d_way_of N_way_of ["shape", "text"] 3 sp_way_of m_way_of [] := ⟨⟨rfl, rfl⟩, ⟨rfl, rfl, rfl, by decide +kernel, rfl, by decide +kernel, by decide +kernel⟩, fun _ _ _ _ _ _ us hl => match us, hl with | [_, _], _ => rfl, k_way_of, lev_of rfl, by decide, h_way_of⟩
theorem ok_way_of : (C_way_of 4 sp_way_of).Ok R.prog w G base := L.fn_ (nm := "way_of") 8 rfl rfl (List.mem_iff_getElem?.mpr ⟨8, rfl⟩) D_way_of oks_nil
omit L in
theorem D_counted : DefOk cf sub d_counted N_counted ["shape", "texts"] 7 sp_counted m_counted [C_raw_is_text 7 sp_raw_is_text, C_way_of 4 sp_way_of] := ⟨⟨rfl, rfl⟩, ⟨rfl, rfl, rfl, by decide +kernel, rfl, by decide +kernel, by decide +kernel⟩, fun _ _ _ _ _ _ us hl => match us, hl with | [_, _], _ => rfl, k_counted _ _ _ _, lev_of rfl, by decide, h_counted _ _⟩
theorem ok_counted : (C_counted 8 sp_counted).Ok R.prog w G base := L.fn_ (nm := "counted") 9 rfl rfl (List.mem_iff_getElem?.mpr ⟨9, rfl⟩) D_counted (oks_cons (ok_raw_is_text L) (oks_cons (ok_way_of L) oks_nil))
omit L in
theorem D_Sharing_cheapest : DefOk cf sub d_Sharing_cheapest N_Sharing_cheapest ["self", "count", "room"] 3 sp_cheapest m_Sharing_cheapest [] := ⟨⟨rfl, rfl⟩, ⟨rfl, rfl, rfl, by decide +kernel, rfl, by decide +kernel, by decide +kernel⟩, fun _ _ _ _ _ _ us hl => match us, hl with | [_, _, _], _ => rfl, k_Sharing_cheapest, lev_of rfl, by decide, h_Sharing_cheapest⟩
theorem ok_Sharing_cheapest : (C_Sharing_cheapest 4 sp_cheapest).Ok R.prog w G base := L.me (cn := "Sharing") (nm := "cheapest") (kc := 0) 11 rfl rfl rfl (by decide +kernel) (List.mem_iff_getElem?.mpr ⟨13, rfl⟩) (List.mem_iff_getElem?.mpr ⟨10, rfl⟩) (List.mem_iff_getElem?.mpr ⟨11, rfl⟩) D_Sharing_cheapest oks_nil
omit L in
theorem D_Sharing___init__ : DefOk cf sub d_Sharing___init__ N_Sharing___init__ ["self", "counts"] 4 sp_Sharing_init m_Sharing___init__ [C_Sharing_cheapest 4 sp_cheapest] := ⟨⟨rfl, rfl⟩, ⟨rfl, rfl, rfl, by decide +kernel, rfl, by decide +kernel, by decide +kernel⟩, fun _ _ _ _ _ _ us hl => match us, hl with | [_, _], _ => rfl, k_Sharing___init__ _ _, lev_of rfl, by decide, h_Sharing_init _⟩
theorem ok_Sharing___init__ : (C_Sharing___init__ 5 sp_Sharing_init).Ok R.prog w G base := L.mk_ (cn := "Sharing") (kc := 0) 10 rfl rfl rfl (List.mem_iff_getElem?.mpr ⟨12, rfl⟩) (List.mem_iff_getElem?.mpr ⟨10, rfl⟩) D_Sharing___init__ (oks_cons (ok_Sharing_cheapest L) oks_nil)
omit L in
theorem D_Sharing_least : DefOk cf sub d_Sharing_least N_Sharing_least ["self"] 3 sp_least m_Sharing_least [] := ⟨⟨rfl, rfl⟩, ⟨rfl, rfl, rfl, by decide +kernel, rfl, by decide +kernel, by decide +kernel⟩, fun _ _ _ _ _ _ us hl => match us, hl with | [_], _ => rfl, k_Sharing_least, lev_of rfl, by decide, h_Sharing_least⟩
theorem ok_Sharing_least : (C_Sharing_least 4 sp_least).Ok R.prog w G base := L.me (cn := "Sharing") (nm := "least") (kc := 0) 12 rfl rfl rfl (by decide +kernel) (List.mem_iff_getElem?.mpr ⟨14, rfl⟩) (List.mem_iff_getElem?.mpr ⟨10, rfl⟩) (List.mem_iff_getElem?.mpr ⟨11, rfl⟩) D_Sharing_least oks_nil
omit L in
theorem D_lengths_of : DefOk cf sub d_lengths_of N_lengths_of ["choices", "counts"] 6 sp_lengths_of m_lengths_of [C_Sharing_least 4 sp_least, C_Sharing___init__ 5 sp_Sharing_init] := ⟨⟨rfl, rfl⟩, ⟨rfl, rfl, rfl, by decide +kernel, rfl, by decide +kernel, by decide +kernel⟩, fun _ _ _ _ _ _ us hl => match us, hl with | [_, _], _ => rfl, k_lengths_of _ _ _ _, lev_of rfl, by decide, h_lengths_of _ _⟩
theorem ok_lengths_of : (C_lengths_of 7 sp_lengths_of).Ok R.prog w G base := L.fn_ (nm := "lengths_of") 13 rfl rfl (List.mem_iff_getElem?.mpr ⟨15, rfl⟩) D_lengths_of (oks_cons (ok_Sharing_least L) (oks_cons (ok_Sharing___init__ L) oks_nil))
omit L in
theorem D_fitted : DefOk cf sub d_fitted N_fitted ["shape", "texts"] 8 sp_fitted m_fitted [C_is_shape 8 sp_is_shape, C_counted 8 sp_counted, C_lengths_of 7 sp_lengths_of] := ⟨⟨rfl, rfl⟩, ⟨rfl, rfl, rfl, by decide +kernel, rfl, by decide +kernel, by decide +kernel⟩, fun _ _ _ _ _ _ us hl => match us, hl with | [_, _], _ => rfl, k_fitted _ _ _ _ _ _, lev_of rfl, by decide, h_fitted _ _ _⟩
theorem ok_fitted : (C_fitted 9 sp_fitted).Ok R.prog w G base := L.fn_ (nm := "fitted") 14 rfl rfl (List.mem_iff_getElem?.mpr ⟨16, rfl⟩) D_fitted (oks_cons (ok_is_shape L) (oks_cons (ok_counted L) (oks_cons (ok_lengths_of L) oks_nil)))
omit L in
theorem D__law_pot : DefOk cf sub d__law_pot N__law_pot ["_law_script"] 3 sp_pot m__law_pot [] := ⟨⟨rfl, rfl⟩, ⟨rfl, rfl, rfl, by decide +kernel, rfl, by decide +kernel, by decide +kernel⟩, fun _ _ _ _ _ _ us hl => match us, hl with | [_], _ => rfl, k__law_pot, lev_of rfl, by decide, h__law_pot⟩
theorem ok__law_pot : (C__law_pot 4 sp_pot).Ok R.prog w G base := L.fn_ (nm := "_law_pot") 15 rfl rfl (List.mem_iff_getElem?.mpr ⟨17, rfl⟩) D__law_pot oks_nil
omit L in
theorem D__law_draw : DefOk cf sub d__law_draw N__law_draw ["_law_pot_here", "_law_many"] 3 sp_draw m__law_draw [] := ⟨⟨rfl, rfl⟩, ⟨rfl, rfl, rfl, by decide +kernel, rfl, by decide +kernel, by decide +kernel⟩, fun _ _ _ _ _ _ us hl => match us, hl with | [_, _], _ => rfl, k__law_draw, lev_of rfl, by decide, h__law_draw⟩
theorem ok__law_draw : (C__law_draw 4 sp_draw).Ok R.prog w G base := L.fn_ (nm := "_law_draw") 16 rfl rfl (List.mem_iff_getElem?.mpr ⟨18, rfl⟩) D__law_draw oks_nil
omit L in
theorem D__law_any : DefOk cf sub d__law_any N__law_any ["_law_pot_here", "_law_things"] 4 sp_any m__law_any [C__law_draw 4 sp_draw] := ⟨⟨rfl, rfl⟩, ⟨rfl, rfl, rfl, by decide +kernel, rfl, by decide +kernel, by decide +kernel⟩, fun _ _ _ _ _ _ us hl => match us, hl with | [_, _], _ => rfl, k__law_any _ _, lev_of rfl, by decide, h__law_any _⟩
theorem ok__law_any : (C__law_any 5 sp_any).Ok R.prog w G base := L.fn_ (nm := "_law_any") 17 rfl rfl (List.mem_iff_getElem?.mpr ⟨19, rfl⟩) D__law_any (oks_cons (ok__law_draw L) oks_nil)
omit L in
theorem D__law_mixed : DefOk cf sub d__law_mixed N__law_mixed ["_law_pot_here", "_law_things"] 4 sp_mixed m__law_mixed [C__law_draw 4 sp_draw] := ⟨⟨rfl, rfl⟩, ⟨rfl, rfl, rfl, by decide +kernel, rfl, by decide +kernel, by decide +kernel⟩, fun _ _ _ _ _ _ us hl => match us, hl with | [_, _], _ => rfl, k__law_mixed _ _, lev_of rfl, by decide, h__law_mixed _⟩
theorem ok__law_mixed : (C__law_mixed 5 sp_mixed).Ok R.prog w G base := L.fn_ (nm := "_law_mixed") 18 rfl rfl (List.mem_iff_getElem?.mpr ⟨20, rfl⟩) D__law_mixed (oks_cons (ok__law_draw L) oks_nil)
theorem ok__law_is : ∀ j : Nat, (C__law_is (4 + j) (sp_eq j)).Ok R.prog w G base := by
  intro j
  induction j with
  | zero => exact L.fn_no (d := d__law_is) (ps := ["_law_told", "_law_due"]) (k := 4) (sp := sp_eq 0) 19 rfl rfl (List.mem_iff_getElem?.mpr ⟨21, rfl⟩) ⟨rfl, rfl⟩ (fun _ _ _ _ _ _ us hl => match us, hl with | [_, _], _ => rfl) (eq_no)
  | succ j ih =>
    refine L.fn_ (d := d__law_is) (N := N__law_is) (ps := ["_law_told", "_law_due"]) (k := 4 + j) (sp := sp_eq (j + 1)) (ms := m__law_is) (l := [C__law_is (4 + j) (sp_eq j)]) (nm := "_law_is") 19 rfl rfl (List.mem_iff_getElem?.mpr ⟨21, rfl⟩) ⟨⟨rfl, rfl⟩, ⟨rfl, rfl, rfl, by decide +kernel, rfl, by decide +kernel, by decide +kernel⟩, fun _ _ _ _ _ _ us hl => match us, hl with | [_, _], _ => rfl, k__law_is _ _, ?_, by omega, h__law_is _ j⟩ (oks_cons (ih) oks_nil)
    intro c hc
    simp only [List.mem_cons, List.not_mem_nil, or_false] at hc
    rcases hc with rfl
    all_goals (show (_ : Nat) ≤ _; simp only [Cal.need]; omega)
omit L in
theorem D__law_shape : DefOk cf sub d__law_shape N__law_shape ["_law_pot_here", "_law_sizes", "_law_states"] 5 sp_shape m__law_shape [C__law_any 5 sp_any, C__law_draw 4 sp_draw] := ⟨⟨rfl, rfl⟩, ⟨rfl, rfl, rfl, by decide +kernel, rfl, by decide +kernel, by decide +kernel⟩, fun _ _ _ _ _ _ us hl => match us, hl with | [_, _, _], _ => rfl, k__law_shape _ _ _ _, lev_of rfl, by decide, h__law_shape _ _⟩
theorem ok__law_shape : (C__law_shape 6 sp_shape).Ok R.prog w G base := L.fn_ (nm := "_law_shape") 20 rfl rfl (List.mem_iff_getElem?.mpr ⟨22, rfl⟩) D__law_shape (oks_cons (ok__law_any L) (oks_cons (ok__law_draw L) oks_nil))
omit L in
theorem D__law_text : DefOk cf sub d__law_text N__law_text ["_law_pot_here", "_law_shape_here", "_law_most"] 5 sp_text m__law_text [C__law_draw 4 sp_draw, C__law_any 5 sp_any] := ⟨⟨rfl, rfl⟩, ⟨rfl, rfl, rfl, by decide +kernel, rfl, by decide +kernel, by decide +kernel⟩, fun _ _ _ _ _ _ us hl => match us, hl with | [_, _, _], _ => rfl, k__law_text _ _ _ _, lev_of rfl, by decide, h__law_text _ _⟩
theorem ok__law_text : (C__law_text 6 sp_text).Ok R.prog w G base := L.fn_ (nm := "_law_text") 21 rfl rfl (List.mem_iff_getElem?.mpr ⟨23, rfl⟩) D__law_text (oks_cons (ok__law_draw L) (oks_cons (ok__law_any L) oks_nil))
omit L in
theorem D__law_texts : DefOk cf sub d__law_texts N__law_texts ["_law_pot_here", "_law_shape_here", "_law_many"] 6 sp_texts m__law_texts [C__law_text 6 sp_text, C__law_draw 4 sp_draw] := ⟨⟨rfl, rfl⟩, ⟨rfl, rfl, rfl, by decide +kernel, rfl, by decide +kernel, by decide +kernel⟩, fun _ _ _ _ _ _ us hl => match us, hl with | [_, _, _], _ => rfl, k__law_texts _ _ _ _, lev_of rfl, by decide, h__law_texts _ _⟩
theorem ok__law_texts : (C__law_texts 7 sp_texts).Ok R.prog w G base := L.fn_ (nm := "_law_texts") 22 rfl rfl (List.mem_iff_getElem?.mpr ⟨24, rfl⟩) D__law_texts (oks_cons (ok__law_text L) (oks_cons (ok__law_draw L) oks_nil))
omit L in
theorem D__law_counts : DefOk cf sub d__law_counts N__law_counts ["_law_shape_here", "_law_texts_here"] 3 sp_counts m__law_counts [] := ⟨⟨rfl, rfl⟩, ⟨rfl, rfl, rfl, by decide +kernel, rfl, by decide +kernel, by decide +kernel⟩, fun _ _ _ _ _ _ us hl => match us, hl with | [_, _], _ => rfl, k__law_counts, lev_of rfl, by decide, h__law_counts⟩
theorem ok__law_counts : (C__law_counts 4 sp_counts).Ok R.prog w G base := L.fn_ (nm := "_law_counts") 23 rfl rfl (List.mem_iff_getElem?.mpr ⟨25, rfl⟩) D__law_counts oks_nil
omit L in
theorem D__law_choices : DefOk cf sub d__law_choices N__law_choices ["_law_shape_here", "_law_state"] 3 sp_choices m__law_choices [] := ⟨⟨rfl, rfl⟩, ⟨rfl, rfl, rfl, by decide +kernel, rfl, by decide +kernel, by decide +kernel⟩, fun _ _ _ _ _ _ us hl => match us, hl with | [_, _], _ => rfl, k__law_choices, lev_of rfl, by decide, h__law_choices⟩
theorem ok__law_choices : (C__law_choices 4 sp_choices).Ok R.prog w G base := L.fn_ (nm := "_law_choices") 24 rfl rfl (List.mem_iff_getElem?.mpr ⟨26, rfl⟩) D__law_choices oks_nil
theorem ok__law_cheapest : ∀ j : Nat, (C__law_cheapest (4 + j) (sp_cheap j)).Ok R.prog w G base := by
  intro j
  induction j with
  | zero => exact L.fn_no (d := d__law_cheapest) (ps := ["_law_counts_here", "_law_at", "_law_room", "_law_known"]) (k := 4) (sp := sp_cheap 0) 25 rfl rfl (List.mem_iff_getElem?.mpr ⟨27, rfl⟩) ⟨rfl, rfl⟩ (fun _ _ _ _ _ _ us hl => match us, hl with | [_, _, _, _], _ => rfl) (cheap_no)
  | succ j ih =>
    refine L.fn_ (d := d__law_cheapest) (N := N__law_cheapest) (ps := ["_law_counts_here", "_law_at", "_law_room", "_law_known"]) (k := 4 + j) (sp := sp_cheap (j + 1)) (ms := m__law_cheapest) (l := [C__law_cheapest (4 + j) (sp_cheap j)]) (nm := "_law_cheapest") 25 rfl rfl (List.mem_iff_getElem?.mpr ⟨27, rfl⟩) ⟨⟨rfl, rfl⟩, ⟨rfl, rfl, rfl, by decide +kernel, rfl, by decide +kernel, by decide +kernel⟩, fun _ _ _ _ _ _ us hl => match us, hl with | [_, _, _, _], _ => rfl, k__law_cheapest _ _, ?_, by omega, h__law_cheapest _ j⟩ (oks_cons (ih) oks_nil)
    intro c hc
    simp only [List.mem_cons, List.not_mem_nil, or_false] at hc
    rcases hc with rfl
    all_goals (show (_ : Nat) ≤ _; simp only [Cal.need]; omega)
omit L in
theorem D__law_least : DefOk cf sub d__law_least N__law_least ["_law_counts_here", "_law_is_end"] 14 sp_lleast m__law_least [C__law_cheapest 14 (sp_cheap 10)] := ⟨⟨rfl, rfl⟩, ⟨rfl, rfl, rfl, by decide +kernel, rfl, by decide +kernel, by decide +kernel⟩, fun _ _ _ _ _ _ us hl => match us, hl with | [_, _], _ => rfl, k__law_least _ _, lev_of rfl, by decide, h__law_least _⟩
theorem ok__law_least : (C__law_least 15 sp_lleast).Ok R.prog w G base := L.fn_ (nm := "_law_least") 26 rfl rfl (List.mem_iff_getElem?.mpr ⟨28, rfl⟩) D__law_least (oks_cons (ok__law_cheapest L 10) oks_nil)
omit L in
theorem D__law_made : DefOk cf sub d__law_made N__law_made ["_law_shape_here", "_law_texts_here"] 15 sp_made m__law_made [C__law_counts 4 sp_counts, C__law_choices 4 sp_choices, C__law_least 15 sp_lleast] := ⟨⟨rfl, rfl⟩, ⟨rfl, rfl, rfl, by decide +kernel, rfl, by decide +kernel, by decide +kernel⟩, fun _ _ _ _ _ _ us hl => match us, hl with | [_, _], _ => rfl, k__law_made _ _ _ _ _ _, lev_of rfl, by decide, h__law_made _ _ _⟩
theorem ok__law_made : (C__law_made 16 sp_made).Ok R.prog w G base := L.fn_ (nm := "_law_made") 27 rfl rfl (List.mem_iff_getElem?.mpr ⟨29, rfl⟩) D__law_made (oks_cons (ok__law_counts L) (oks_cons (ok__law_choices L) (oks_cons (ok__law_least L) oks_nil)))
omit L in
theorem D__law_great : DefOk cf sub d__law_great N__law_great ["_law_pot_here", "_law_shape_here"] 5 sp_great m__law_great [C__law_mixed 5 sp_mixed, C__law_any 5 sp_any, C__law_draw 4 sp_draw] := ⟨⟨rfl, rfl⟩, ⟨rfl, rfl, rfl, by decide +kernel, rfl, by decide +kernel, by decide +kernel⟩, fun _ _ _ _ _ _ us hl => match us, hl with | [_, _], _ => rfl, k__law_great _ _ _ _ _ _, lev_of rfl, by decide, h__law_great _ _ _⟩
theorem ok__law_great : (C__law_great 6 sp_great).Ok R.prog w G base := L.fn_ (nm := "_law_great") 28 rfl rfl (List.mem_iff_getElem?.mpr ⟨30, rfl⟩) D__law_great (oks_cons (ok__law_mixed L) (oks_cons (ok__law_any L) (oks_cons (ok__law_draw L) oks_nil)))
omit L in
theorem D__law_long : DefOk cf sub d__law_long N__law_long ["_law_pot_here", "_law_shape_here"] 5 sp_long m__law_long [C__law_draw 4 sp_draw, C__law_any 5 sp_any] := ⟨⟨rfl, rfl⟩, ⟨rfl, rfl, rfl, by decide +kernel, rfl, by decide +kernel, by decide +kernel⟩, fun _ _ _ _ _ _ us hl => match us, hl with | [_, _], _ => rfl, k__law_long _ _ _ _, lev_of rfl, by decide, h__law_long _ _⟩
theorem ok__law_long : (C__law_long 6 sp_long).Ok R.prog w G base := L.fn_ (nm := "_law_long") 29 rfl rfl (List.mem_iff_getElem?.mpr ⟨31, rfl⟩) D__law_long (oks_cons (ok__law_draw L) (oks_cons (ok__law_any L) oks_nil))
omit L in
theorem D_law : DefOk cf sub d_law N_law ["_law_script"] 16 sp_law m_law [C__law_pot 4 sp_pot, C__law_shape 6 sp_shape, C__law_texts 7 sp_texts, C__law_any 5 sp_any, C__law_draw 4 sp_draw, C__law_long 6 sp_long, C__law_great 6 sp_great, C__law_is 10 (sp_eq 6), C__law_made 16 sp_made, C_fitted 9 sp_fitted] := ⟨⟨rfl, rfl⟩, ⟨rfl, rfl, rfl, by decide +kernel, rfl, by decide +kernel, by decide +kernel⟩, fun _ _ _ _ _ _ us hl => match us, hl with | [_], _ => rfl, k_law _ _ _ _ _ _ _ _ _ _ _ _ _ _ _ _ _ _ _ _, lev_of rfl, by decide, h_law _ _ _ _ _ _ _ _ _ _⟩
theorem cs_law : ∀ c ∈ ([C__law_pot 4 sp_pot, C__law_shape 6 sp_shape, C__law_texts 7 sp_texts, C__law_any 5 sp_any, C__law_draw 4 sp_draw, C__law_long 6 sp_long, C__law_great 6 sp_great, C__law_is 10 (sp_eq 6), C__law_made 16 sp_made, C_fitted 9 sp_fitted] : List Cal), c.Ok R.prog w G base := (oks_cons (ok__law_pot L) (oks_cons (ok__law_shape L) (oks_cons (ok__law_texts L) (oks_cons (ok__law_any L) (oks_cons (ok__law_draw L) (oks_cons (ok__law_long L) (oks_cons (ok__law_great L) (oks_cons (ok__law_is L 6) (oks_cons (ok__law_made L) (oks_cons (ok_fitted L) oks_nil))))))))))
end
theorem wi : ∀ (w : World) (base : Heap) (G : Cfg), G.toCf = cf → R.prog = G.P → w = G.w → G.K.In base → base.Ns mainGlobals G.mg → He.SaysD fa fn G.K → topB cf sub G.K = true → ∀ ei ∈ cf.et, ∀ f, ei.2 = some f → ExOk R.prog w base G ei (He.ga G.K ei.1) := by
  intro _ _ _ _ _ _ _ _ _ _ ei hei f hf
  simp only [cf, List.mem_cons, List.not_mem_nil, or_false] at hei
  rcases hei with rfl | rfl | rfl <;> cases hf
theorem arg : ∀ (M : Mem) (a : Addr) (ns : List Int) (Q : DK) (E : Ex → Mem → Prop), rdL M a = some (ns.map .int) → ns.length ≤ 63 → (∀ N, Q (.bl true) N) → sp_law [.obj a] M Q E := fun M a ns Q E h1 h2 h3 => ⟨ns, h1, h2, h3⟩

abbrev hk2 : PySem.W.Hook := hookE 4 fa fn (fun K => topB cf sub K && noLstB K)
def ob2 (s : PySem.W.SharedT) : He.AlD × Bool := obsEG 4 fa fn (fun K => topB cf sub K && noLstB K) (HandSHeadRun.getT s)
theorem ob2_eq (s : PySem.W.SharedT) : ob2 s = hk2.obs s.abs := obsEG_eq (HandSHeadRun.getT_eq s)
theorem run (w : World) : HandSHeadRun.RunEq R (PySem.W.view R.prog [ilaw]) hk2 ob2 8000 names w := by
  intro os
  kernel_rfl
end H41
open PySem PySem.W PySem.Calls PyProof.Rows
set_option maxRecDepth 100000 in
set_option maxHeartbeats 0 in
theorem PySem.Challenge.cw_keptlengths_k41_whole_machines_fitted_by_holds : PySem.Challenge.rw_keptlengths_k41_whole_machines_fitted_by.Holds := by
  w_on; o_law
  refine HandSHeadRun.head_any (r := OpenLaw.row PySem.Challenge.rw_keptlengths_k41_whole_machines_fitted_by) (q := view (OpenLaw.row PySem.Challenge.rw_keptlengths_k41_whole_machines_fitted_by).prog [H41.ilaw]) (H := H41.hk2) (ob := H41.ob2) (M := 8000) (loose := H41.names) (d := HandSHeadRun.topDef (OpenLaw.row PySem.Challenge.rw_keptlengths_k41_whole_machines_fitted_by).prog H41.ilaw) (kwd := []) H41.ob2_eq
    (by kernel_rfl) (fun s => by kernel_rfl) H41.run (by kernel_rfl) (by kernel_rfl) (by kernel_rfl) (by rfl) (by first | assumption | decide +kernel) (by decide +kernel) ⟨rfl, rfl, rfl, rfl, rfl, by decide +kernel⟩ ?hw ?hc
  case hw => w_witness2
  case hc =>
    refine DL.walk_law (l := PySem.Challenge.rw_keptlengths_k41_whole_machines_fitted_by) (k := 17) (x := "_law_script") rfl (by kernel_rfl) ⟨rfl, by decide, by decide⟩ ?_
    intro w mg f h Y G hmg0
    have hmg : mg ("law" : PySem.Str) = some (.ref f) := by
      have e : (HandSHeadRun.topDef (OpenLaw.row PySem.Challenge.rw_keptlengths_k41_whole_machines_fitted_by).prog H41.ilaw).name = ("law" : PySem.Str) := by kernel_rfl
      rw [← e]
      exact hmg0
    exact DL.law_F (d := H41.d_law) 30 rfl rfl (List.mem_iff_getElem?.mpr ⟨32, rfl⟩) H41.D_law (fun w base G L => H41.cs_law L) H41.wi H41.arg w mg f h Y G hmg
