import PyProof.Rows.All
import Wide.All
import OpenK.AllK
import Wide.FinOn
import HandS.ForMost
import HandS.IsInst
import HandS.Wide
import KE.KDictKeyed
import HandS.Defaults
import HandS.TupAny
import HandS.TupMul
import HandS.Conv
import KE.KDictDisplayH
import HandS.Deep
import HandS.Style
import HandS.Flow
import HandS.More
import HandS.Iter
import KE.GoesEnum
import HandS.Zip
import KE.KDictPairs
import KE.DataMinMax
import HandS.DictComp
import HandS.Sort
import KE.SortData
import HandS.TupLen
import HandS.SetBool
import HandS.Strs
import HandS.SetFor
import KE.KDictSum
import KE.KDictWalk
import KE.KDictZip
import KE.KUnpack
import PySem.Challenge.RW_lamprank_k16_whole_words_go_together
set_option Elab.async false
set_option linter.all false
set_option maxRecDepth 100000
set_option maxHeartbeats 4000000
/-! FL1: plain data for the hand layer: environments of data (val: frozen, own: a cell of one's own), frames -/
namespace L2
namespace FL
open PySem PySem.Spec PyProof.Rows
abbrev D := PyData
/-- what a slot holds: nothing, a value (frozen), the contents of a cell of our own -/
inductive Sl where
  | un
  | val (d : D)
  | own (d : D)
abbrev En := List Sl
def keyD : Key → D
  | .inl i => .int i
  | .inr x => .str x
def keyOf : D → Option Key
  | .int i => some (.inl i)
  | .str x => some (.inr x)
  | _ => none
/-- the frozen module and the world -/
structure KW where
  K : PySem.W.Frag
  w : World
instance : Coe KW PySem.W.Frag := ⟨KW.K⟩
abbrev kw (X : Cx) : KW := ⟨X.K, X.w⟩
/-! keys of dicts, up to == -/
mutual
def nkOf : D → Option NestedKey
  | .none => some .none
  | .bool b => some (.num (if b = true then 1 else 0))
  | .int i => some (.num i)
  | .str x => some (.text x)
  | .tuple ds => (nksOf ds).map .tup
  | _ => none
def nksOf : List D → Option (List NestedKey)
  | [] => some []
  | d :: ds => match nkOf d, nksOf ds with
    | some k, some ks => some (k :: ks)
    | _, _ => none
end
abbrev NkE := NestedKey × Addr × Value
/-- a dict whose keys are tuples of any depth -/
def kdF (w : World) (a : Addr) (xs : List NkE) : Heap → Prop := fun h => (a == sysModules) = false ∧ (xs.map (·.1)).Nodup ∧ xs.length ≤ sizeLine ∧
  ∃ o es ep, h.get? a = some o ∧ o.ExactDict ∧ o.data = .dict es ep ∧ es.toList = xs.map fun x => ⟨x.1.hash w, .ref x.2.1, x.2.2⟩
def kdO (w : World) (a : Addr) (xs : List NkE) : HO := .ext (kdF w a xs)
/-- tuples that may be keys: laid as tuples; all others: with the very object told -/
def kOk (ds : List D) : Bool := !ds.isEmpty && ds.all fun d => (keyOf d).isSome
/-- a tuple of the module -/
def ModT (K : PySem.W.Frag) (a : Addr) (xs : List V) : Prop := ∃ (o : Obj) (its : Array Value) (n : Nat), K.lookup a = some o ∧ o.cls = .type "tuple" ∧ o.dict = none ∧ o.data = .seq its n ∧ its.size ≤ sizeLine ∧ Vals xs its.toList
theorem ModT.sq {K : PySem.W.Frag} {F : Hp} {a : Addr} {xs : List V} (h : ModT K a xs) : SqT K F a xs := by
  obtain ⟨o, its, n, h1, h2, _, h3, h4, h5⟩ := h
  exact .inr ⟨o, its, n, h1, h2, h3, h4, h5⟩
def TpAt (K : KW) (F : Hp) (a : Addr) (xs : List V) (ds : List D) : Prop := (kOk ds = true → F a = some (.tup xs)) ∧ (kOk ds = false → (∃ o, F a = some (.frz o (.tup xs)) ∧ o.dict = none) ∨ ModT K a xs)
mutual
/-- data as it lies in the frozen part of the heap -/
inductive Dp (K : KW) (F : Hp) : V → D → Prop
  | non : Dp K F .non .none
  | bl (b : Bool) : Dp K F (.bl b) (.bool b)
  | int (i : Int) : Dp K F (.int i) (.int i)
  | str (x : Str) : Dp K F (.str x) (.str x)
  | lst {a : Addr} {xs : List V} {ds : List D} : Rd F a (.lst xs) → DpAll K F xs ds → Dp K F (.ref a) (.list ds)
  | tup {a : Addr} {xs : List V} {ds : List D} : TpAt K F a xs ds → DpAll K F xs ds → Dp K F (.ref a) (.tuple ds)
  /-- what zip and enumerate give: taken apart at once -/
  | wpr {a : Addr} {x y : V} {d e : D} : Rd F a (.tup [x, y]) → Dp K F x d → Dp K F y e → Dp K F (.ref a) (.dict [(.none, d), (.none, e)])
  /-- the script as it is handed in: a list that may be an object of the module -/
  | scr {a : Addr} {xs : List V} {ds : List D} : SqL K F a xs → DpAll K F xs ds → Dp K F (.ref a) (.dict [(.none, .list ds)])
  /-- a dict, its keys ints and texts; one whose keys are tuples of these -/
  | dic {a : Addr} {es : List (Key × V)} {kvs : List (D × D)} : Rd F a (.dK es) → DkR K F es kvs → Dp K F (.ref a) (.dict kvs)
  | dit {a : Addr} {es : List NkE} {kvs : List (D × D)} : F a = some (kdO K.w a es) → DtR K F es kvs → Dp K F (.ref a) (.dict ((.bool true, .none) :: kvs))
inductive DpAll (K : KW) (F : Hp) : List V → List D → Prop
  | nil : DpAll K F [] []
  | cons {v : V} {vs : List V} {d : D} {ds : List D} : Dp K F v d → DpAll K F vs ds → DpAll K F (v :: vs) (d :: ds)
/-- entries of a dict against data -/
inductive DkR (K : KW) (F : Hp) : List (Key × V) → List (D × D) → Prop
  | nil : DkR K F [] []
  | cons {k : Key} {v : V} {d : D} {r : List (Key × V)} {r' : List (D × D)} : Dp K F v d → DkR K F r r' → DkR K F ((k, v) :: r) ((keyD k, d) :: r')
inductive DtR (K : KW) (F : Hp) : List NkE → List (D × D) → Prop
  | nil : DtR K F [] []
  | cons {k : NestedKey} {b : Addr} {u : Value} {v : V} {dk d : D} {r : List NkE} {r' : List (D × D)} : Dp K F (.ref b) dk → nkOf dk = some k → k.depth ≤ 8 → RelV v u → Dp K F v d → DtR K F r r' → DtR K F ((k, b, u) :: r) ((dk, d) :: r')
end
theorem Rd.up {F H : Hp} {a : Addr} {u : HO} (h : Rd F a u) (s : Same F H) : Rd H a u := by
  rcases h with h | ⟨o, h⟩
  · exact .inl (s _ _ h)
  · exact .inr ⟨o, s _ _ h⟩
def szO : HO → Prop
  | .lst xs => xs.length ≤ sizeLine
  | .tup xs => xs.length ≤ sizeLine
  | .dK es => es.length ≤ sizeLine
  | .dT es => es.length ≤ sizeLine
  | .frz _ u => szO u
  | _ => True
def Cel (K : KW) (F H : Hp) (a : Addr) : D → Prop
  | .list ds => ∃ vs, H a = some (.lst vs) ∧ DpAll K F vs ds
  | .dict kvs => (∃ es, H a = some (.dK es) ∧ DkR K F es kvs) ∨ (∃ es r, kvs = (.bool true, .none) :: r ∧ H a = some (kdO K.w a es) ∧ DtR K F es r)
  | _ => False
def Owns (σ : St) (ρ : En) (a : Addr) : Prop := ∃ (i : Nat) (d : D), ρ[i]? = some (.own d) ∧ σ[i]? = some (some (.ref a))
structure Gs (K : KW) (F H : Hp) (σ : St) (ρ : En) : Prop where
  len : σ.length = ρ.length
  le : Same F H
  sz : ∀ a o, H a = some o → szO o
  val : ∀ (i : Nat) (d : D), ρ[i]? = some (.val d) → ∃ v, σ[i]? = some (some v) ∧ Dp K F v d
  own : ∀ (i : Nat) (d : D), ρ[i]? = some (.own d) → ∃ a, σ[i]? = some (some (.ref a)) ∧ F a = none ∧ Cel K F H a d
  inj : ∀ (i j : Nat) (di dj : D) (a : Addr), ρ[i]? = some (.own di) → ρ[j]? = some (.own dj) → σ[i]? = some (some (.ref a)) → σ[j]? = some (some (.ref a)) → i = j
structure Fw (F H : Hp) (σ : St) (ρ : En) (F' H' : Hp) (σ' : St) (ρ' : En) : Prop where
  leF : Same F F'
  keep : ∀ a, H a ≠ none → ¬ Owns σ ρ a → H' a = H a ∧ F' a = F a
  own : ∀ a, Owns σ' ρ' a → Owns σ ρ a ∨ H a = none
  th : ∀ a, H' a = none → H a = none
section
variable {K : KW} {F F' F'' H H' H'' : Hp} {σ σ' σ'' : St} {ρ ρ' ρ'' : En} {a p : Addr} {o : HO}
theorem Fw.refl : Fw F H σ ρ F H σ ρ := ⟨Same.refl _, fun _ _ _ => ⟨rfl, rfl⟩, fun _ h => .inl h, fun _ h => h⟩
theorem Fw.trans (x : Fw F H σ ρ F' H' σ' ρ') (y : Fw F' H' σ' ρ' F'' H'' σ'' ρ'') : Fw F H σ ρ F'' H'' σ'' ρ'' := by
  have h1 : ∀ a, H a ≠ none → ¬ Owns σ ρ a → H' a ≠ none ∧ ¬ Owns σ' ρ' a := fun a n no => by
    refine ⟨by rw [(x.keep a n no).1]; exact n, fun ow => ?_⟩
    rcases x.own a ow with z | z
    · exact no z
    · exact n z
  refine ⟨x.leF.trans y.leF, fun a n no => ?_, fun a ow => ?_, fun a h => x.th a (y.th a h)⟩
  · obtain ⟨n1, no1⟩ := h1 a n no
    obtain ⟨e1, e2⟩ := x.keep a n no
    obtain ⟨e3, e4⟩ := y.keep a n1 no1
    exact ⟨e3.trans e1, e4.trans e2⟩
  · rcases y.own a ow with z | z
    · exact x.own a z
    · by_cases n : H a = none
      · exact .inr n
      · by_cases no : Owns σ ρ a
        · exact .inl no
        · exact absurd z (h1 a n no).1
mutual
theorem Dp.mono (hs : Same F F') : ∀ {v : V} {d : D}, Dp K F v d → Dp K F' v d
  | _, _, .non => .non
  | _, _, .bl b => .bl b
  | _, _, .int i => .int i
  | _, _, .str x => .str x
  | _, _, .lst q r => .lst (Rd.up q hs) (DpAll.mono hs r)
  | _, _, .tup q r => .tup ⟨fun k => hs _ _ (q.1 k), fun k => (q.2 k).imp (fun ⟨o, h1, h2⟩ => ⟨o, hs _ _ h1, h2⟩) id⟩ (DpAll.mono hs r)
  | _, _, .wpr q r r' => .wpr (Rd.up q hs) (Dp.mono hs r) (Dp.mono hs r')
  | _, _, .scr q r => .scr (hs.seq q) (DpAll.mono hs r)
  | _, _, .dic q r => .dic (Rd.up q hs) (DkR.mono hs r)
  | _, _, .dit q r => .dit (hs _ _ q) (DtR.mono hs r)
theorem DpAll.mono (hs : Same F F') : ∀ {vs : List V} {ds : List D}, DpAll K F vs ds → DpAll K F' vs ds
  | _, _, .nil => .nil
  | _, _, .cons q r => .cons (Dp.mono hs q) (DpAll.mono hs r)
theorem DkR.mono (hs : Same F F') : ∀ {es : List (Key × V)} {kvs : List (D × D)}, DkR K F es kvs → DkR K F' es kvs
  | _, _, .nil => .nil
  | _, _, .cons q r => .cons (Dp.mono hs q) (DkR.mono hs r)
theorem DtR.mono (hs : Same F F') : ∀ {es : List NkE} {kvs : List (D × D)}, DtR K F es kvs → DtR K F' es kvs
  | _, _, .nil => .nil
  | _, _, .cons q0 e1 e2 rv q r => .cons (Dp.mono hs q0) e1 e2 rv (Dp.mono hs q) (DtR.mono hs r)
end
theorem Cel.there {d : D} (c : Cel K F H a d) : H a ≠ none := by
  cases d with
  | list ds => obtain ⟨vs, e, _⟩ := c; rw [e]; exact fun z => nomatch z
  | dict kvs =>
    rcases c with ⟨es, e, _⟩ | ⟨es, _, _, e, _⟩ <;> (rw [e]; exact fun z => nomatch z)
  | _ => exact c.elim
theorem Cel.mono {d : D} (c : Cel K F H a d) (hs : Same F F') (e : H' a = H a) : Cel K F' H' a d := by
  cases d with
  | list ds => obtain ⟨vs, q, r⟩ := c; exact ⟨vs, e.trans q, DpAll.mono hs r⟩
  | dict kvs =>
    rcases c with ⟨es, q, r⟩ | ⟨es, k, e0, q, r⟩
    · exact .inl ⟨es, e.trans q, DkR.mono hs r⟩
    · exact .inr ⟨es, k, e0, e.trans q, DtR.mono hs r⟩
  | _ => exact c.elim
theorem Gs.ownThere (g : Gs K F H σ ρ) (h : Owns σ ρ a) : H a ≠ none ∧ F a = none := by
  obtain ⟨i, d, e1, e2⟩ := h
  obtain ⟨b, q1, q2, c⟩ := g.own i d e1
  rw [e2] at q1; cases q1
  exact ⟨c.there, q2⟩
theorem Same.upd_new (h : H p = none) : Same H (upd H p o) := fun b u q => by rw [upd_ne (ne_of_none q h)]; exact q
theorem Gs.Fnone (g : Gs K F H σ ρ) (h : H p = none) : F p = none := g.le.free h
/-- a new object, tracked, not frozen -/
theorem Gs.alloc (g : Gs K F H σ ρ) (h : H p = none) (z : szO o) : Gs K F (upd H p o) σ ρ ∧ Fw F H σ ρ F (upd H p o) σ ρ := by
  refine ⟨⟨g.len, g.le.trans (Same.upd_new h), fun b u e => ?_, g.val, fun i d e => ?_, g.inj⟩, Same.refl _, fun b n _ => ⟨upd_ne (fun z => n (z ▸ h)), rfl⟩, fun _ h => .inl h, fun b q => (Same.upd_new h).free q⟩
  · by_cases hb : b = p
    · subst hb; rw [upd_same] at e; cases e; exact z
    · rw [upd_ne hb] at e; exact g.sz b u e
  · obtain ⟨b, q1, q2, c⟩ := g.own i d e
    exact ⟨b, q1, q2, c.mono (Same.refl _) (upd_ne (fun z => c.there (z ▸ h)))⟩
/-- a tracked object that nobody owns is frozen -/
theorem Gs.freeze (g : Gs K F H σ ρ) (h : H p = some o) (n : F p = none) (no : ¬ Owns σ ρ p) : Gs K (upd F p o) H σ ρ := by
  have s : Same F (upd F p o) := Same.upd_new n
  refine ⟨g.len, fun b u e => ?_, g.sz, fun i d e => ?_, fun i d e => ?_, g.inj⟩
  · by_cases hb : b = p
    · subst hb; rw [upd_same] at e; cases e; exact h
    · rw [upd_ne hb] at e; exact g.le b u e
  · obtain ⟨v, q1, q2⟩ := g.val i d e
    exact ⟨v, q1, Dp.mono s q2⟩
  · obtain ⟨b, q1, q2, c⟩ := g.own i d e
    have hb : b ≠ p := fun z => no ⟨i, d, e, z ▸ q1⟩
    exact ⟨b, q1, (upd_ne hb).trans q2, c.mono s rfl⟩
/-- a new object, frozen at once -/
theorem Gs.put (g : Gs K F H σ ρ) (h : H p = none) (z : szO o) : Gs K (upd F p o) (upd H p o) σ ρ ∧ Fw F H σ ρ (upd F p o) (upd H p o) σ ρ := by
  obtain ⟨g1, f1⟩ := g.alloc h z
  have no : ¬ Owns σ ρ p := fun w => (g.ownThere w).1 h
  refine ⟨g1.freeze upd_same (g.Fnone h) no, Same.upd_new (g.Fnone h), fun b n nb => ?_, fun _ w => .inl w, fun b q => (Same.upd_new h).free q⟩
  have hb : b ≠ p := fun z => n (z ▸ h)
  exact ⟨upd_ne hb, upd_ne hb⟩
/-- a new list, seen as data -/
theorem Gs.putList (g : Gs K F H σ ρ) (h : H p = none) {vs : List V} {ds : List D} (z : vs.length ≤ sizeLine) (r : DpAll K F vs ds) :
    Gs K (upd F p (.lst vs)) (upd H p (.lst vs)) σ ρ ∧ Fw F H σ ρ (upd F p (.lst vs)) (upd H p (.lst vs)) σ ρ ∧ Dp K (upd F p (.lst vs)) (.ref p) (.list ds) := by
  obtain ⟨g1, f1⟩ := g.put (o := .lst vs) h z
  exact ⟨g1, f1, .lst (Rd.of upd_same) (DpAll.mono f1.leF r)⟩
/-- how a tuple is laid -/
def hoT (o : Obj) (vs : List V) (ds : List D) : HO := if kOk ds = true then .tup vs else .frz o (.tup vs)
theorem hoT_or (o : Obj) (vs : List V) (ds : List D) : hoT o vs ds = .tup vs ∨ hoT o vs ds = .frz o (.tup vs) := by
  unfold hoT
  split
  · exact .inl rfl
  · exact .inr rfl
theorem Gs.putTup (g : Gs K F H σ ρ) (h : H p = none) {o : Obj} {vs : List V} {ds : List D} (ho : o.dict = none) (z : vs.length ≤ sizeLine) (r : DpAll K F vs ds) :
    Gs K (upd F p (hoT o vs ds)) (upd H p (hoT o vs ds)) σ ρ ∧ Fw F H σ ρ (upd F p (hoT o vs ds)) (upd H p (hoT o vs ds)) σ ρ ∧ Dp K (upd F p (hoT o vs ds)) (.ref p) (.tuple ds) := by
  obtain ⟨g1, f1⟩ := g.put (o := hoT o vs ds) h (by rcases hoT_or o vs ds with e | e <;> rw [e] <;> exact z)
  refine ⟨g1, f1, .tup ⟨fun k => ?_, fun k => .inl ⟨o, ?_, ho⟩⟩ (DpAll.mono f1.leF r)⟩
  · rw [upd_same]; unfold hoT; rw [if_pos k]
  · rw [upd_same]; unfold hoT; rw [if_neg (by rw [k]; exact Bool.false_ne_true)]
theorem Gs.putWp (g : Gs K F H σ ρ) (h : H p = none) {x y : V} {d e : D} (rx : Dp K F x d) (ry : Dp K F y e) :
    Gs K (upd F p (.tup [x, y])) (upd H p (.tup [x, y])) σ ρ ∧ Fw F H σ ρ (upd F p (.tup [x, y])) (upd H p (.tup [x, y])) σ ρ ∧ Dp K (upd F p (.tup [x, y])) (.ref p) (.dict [(.none, d), (.none, e)]) := by
  obtain ⟨g1, f1⟩ := g.put (o := .tup [x, y]) h (by show 2 ≤ sizeLine; decide)
  exact ⟨g1, f1, .wpr (Rd.of upd_same) (Dp.mono f1.leF rx) (Dp.mono f1.leF ry)⟩
theorem TpAt.sq {xs : List V} {ds : List D} (h : TpAt K F a xs ds) : SqT K F a xs := by
  cases k : kOk ds with
  | true => exact .inl (.inl (h.1 k))
  | false =>
    rcases h.2 k with ⟨o, e, _⟩ | m
    · exact .inl (.inr ⟨o, e⟩)
    · exact m.sq
theorem TpAt.up {xs : List V} {ds : List D} (h : TpAt K F a xs ds) (hs : Same F F') : TpAt K F' a xs ds := ⟨fun k => hs _ _ (h.1 k), fun k => (h.2 k).imp (fun ⟨o, h1, h2⟩ => ⟨o, hs _ _ h1, h2⟩) id⟩
theorem DpAll.length : ∀ {vs : List V} {ds : List D}, DpAll K F vs ds → vs.length = ds.length
  | _, _, .nil => rfl
  | _, _, .cons _ r => by rw [List.length_cons, List.length_cons, DpAll.length r]
theorem DpAll.get : ∀ {vs : List V} {ds : List D} {i : Nat} {d : D}, DpAll K F vs ds → ds[i]? = some d → ∃ v, vs[i]? = some v ∧ Dp K F v d
  | _, _, _, _, .nil, e => by simp at e
  | _, _, 0, _, .cons r _, e => by simp at e; subst e; exact ⟨_, rfl, r⟩
  | _, _, i + 1, d, .cons _ t, e => by
    obtain ⟨u, h1, h2⟩ := DpAll.get (i := i) (d := d) t (by simpa using e)
    exact ⟨u, by simpa using h1, h2⟩
theorem DpAll.get' : ∀ {vs : List V} {ds : List D} {i : Nat} {v : V}, DpAll K F vs ds → vs[i]? = some v → ∃ d, ds[i]? = some d ∧ Dp K F v d
  | _, _, _, _, .nil, e => by simp at e
  | _, _, 0, _, .cons r _, e => by simp at e; subst e; exact ⟨_, rfl, r⟩
  | _, _, i + 1, d, .cons _ t, e => by
    obtain ⟨u, h1, h2⟩ := DpAll.get' (i := i) (v := d) t (by simpa using e)
    exact ⟨u, by simpa using h1, h2⟩
theorem DpAll.append : ∀ {vs ws : List V} {ds es : List D}, DpAll K F vs ds → DpAll K F ws es → DpAll K F (vs ++ ws) (ds ++ es)
  | _, _, _, _, .nil, s => s
  | _, _, _, _, .cons r t, s => .cons r (DpAll.append t s)
theorem DpAll.take : ∀ {vs : List V} {ds : List D} (n : Nat), DpAll K F vs ds → DpAll K F (vs.take n) (ds.take n)
  | _, _, 0, _ => .nil
  | _, _, _ + 1, .nil => .nil
  | _, _, n + 1, .cons r t => .cons r (DpAll.take n t)
theorem DpAll.drop : ∀ {vs : List V} {ds : List D} (n : Nat), DpAll K F vs ds → DpAll K F (vs.drop n) (ds.drop n)
  | _, _, 0, r => r
  | _, _, _ + 1, .nil => .nil
  | _, _, n + 1, .cons _ t => DpAll.drop n t
theorem DpAll.set {v : V} {d : D} (r : Dp K F v d) : ∀ {vs : List V} {ds : List D} (i : Nat), DpAll K F vs ds → DpAll K F (vs.set i v) (ds.set i d)
  | _, _, _, .nil => .nil
  | _, _, 0, .cons _ t => .cons r t
  | _, _, i + 1, .cons q t => .cons q (DpAll.set r i t)
theorem DpAll.reverse {vs : List V} {ds : List D} (r : DpAll K F vs ds) : DpAll K F vs.reverse ds.reverse := by
  induction vs generalizing ds with
  | nil => cases r; exact .nil
  | cons v vs ih =>
    cases r with
    | cons q t => rw [List.reverse_cons, List.reverse_cons]; exact DpAll.append (ih t) (.cons q .nil)
theorem DpAll.eraseIdx : ∀ {vs : List V} {ds : List D} (i : Nat), DpAll K F vs ds → DpAll K F (vs.eraseIdx i) (ds.eraseIdx i)
  | _, _, _, .nil => .nil
  | _, _, 0, .cons _ t => t
  | _, _, i + 1, .cons q t => .cons q (DpAll.eraseIdx i t)
theorem DpAll.rep {vs : List V} {ds : List D} (h : DpAll K F vs ds) : ∀ k : Nat, DpAll K F (List.replicate k vs).flatten (List.replicate k ds).flatten
  | 0 => .nil
  | k + 1 => by rw [List.replicate_succ, List.replicate_succ, List.flatten_cons, List.flatten_cons]; exact DpAll.append h (DpAll.rep h k)
/-- sizes -/
theorem Gs.szL {a : Addr} {xs : List V} (g : Gs K F H σ ρ) (h : Rd F a (.lst xs)) : xs.length ≤ sizeLine := by
  rcases h with h | ⟨o, h⟩
  · exact g.sz a _ (g.le _ _ h)
  · exact g.sz a _ (g.le _ _ h)
theorem Gs.szT {a : Addr} {xs : List V} (g : Gs K F H σ ρ) (h : SqT K F a xs) : xs.length ≤ sizeLine := by
  rcases h with (h | ⟨o, h⟩) | ⟨o, its, n, _, _, _, z, r⟩
  · exact g.sz a _ (g.le _ _ h)
  · exact g.sz a _ (g.le _ _ h)
  · have e := r.length
    simp only [Array.length_toList] at e
    omega
theorem Gs.szK {a : Addr} {es : List (Key × V)} (g : Gs K F H σ ρ) (h : Rd F a (.dK es)) : es.length ≤ sizeLine := by
  rcases h with h | ⟨o, h⟩
  · exact g.sz a _ (g.le _ _ h)
  · exact g.sz a _ (g.le _ _ h)
theorem SqT.up {xs : List V} (h : SqT K F a xs) (s : Same F H) : SqT K H a xs := by
  rcases h with (h | ⟨o, h⟩) | h
  · exact .inl (.inl (s _ _ h))
  · exact .inl (.inr ⟨o, s _ _ h⟩)
  · exact .inr h
mutual
theorem Dp.toL : ∀ {v : V} {d : D}, d.canLay0 = true → Dp K F v d → L2.Dp K F v d
  | _, _, _, .non => .non
  | _, _, _, .bl b => .bl b
  | _, _, _, .int i => .int i
  | _, _, _, .str x => .str x
  | _, _, h, .lst q r => .lst (.inl q) (DpAll.toL (by simpa [PyData.canLay0] using h) r)
  | _, _, h, .tup q r => .tup q.sq (DpAll.toL (by simpa [PyData.canLay0] using h) r)
  | _, _, h, .scr q r => by simp [PyData.canLay0] at h
  | _, _, h, .wpr q r r' => by simp [PyData.canLay0] at h
  | _, _, h, .dic q r => by simp [PyData.canLay0] at h
  | _, _, h, .dit q r => by simp [PyData.canLay0] at h
theorem DpAll.toL : ∀ {vs : List V} {ds : List D}, PyData.canLayAll0 ds = true → DpAll K F vs ds → L2.DpAll K F vs ds
  | _, _, _, .nil => .nil
  | _ :: _, d :: ds, h, .cons q r => by
    have h' : (d.canLay0 && PyData.canLayAll0 ds) = true := by simpa [PyData.canLayAll0] using h
    obtain ⟨h1, h2⟩ := Bool.and_eq_true_iff.mp h'
    exact .cons (Dp.toL h1 q) (DpAll.toL h2 r)
end
theorem Gs.szS {a : Addr} {xs : List V} (g : Gs K F H σ ρ) (h : SqL K F a xs) : xs.length ≤ sizeLine := by
  rcases h with (h | ⟨o, h⟩) | ⟨o, its, n, _, _, _, _, z, r⟩
  · exact g.sz a _ (g.le _ _ h)
  · exact g.sz a _ (g.le _ _ h)
  · have e := r.length
    simp only [Array.length_toList] at e
    omega
/-- a list's items as data, once more -/
theorem Dp.lstOf {v : V} {ds : List D} (h : Dp K F v (.list ds)) : ∃ a xs, v = .ref a ∧ Rd F a (.lst xs) ∧ DpAll K F xs ds := by
  cases h with
  | lst q r => exact ⟨_, _, rfl, q, r⟩
theorem Dp.tupOf {v : V} {ds : List D} (h : Dp K F v (.tuple ds)) : ∃ a xs, v = .ref a ∧ SqT K F a xs ∧ DpAll K F xs ds := by
  cases h with
  | tup q r => exact ⟨_, _, rfl, q.sq, r⟩
theorem Dp.scrOf {v : V} {ds : List D} (h : Dp K F v (.dict [(.none, .list ds)])) : ∃ a xs, v = .ref a ∧ SqL K F a xs ∧ DpAll K F xs ds := by
  generalize e : PyData.dict [(.none, .list ds)] = z at h
  cases h with
  | scr q r => cases e; exact ⟨_, _, rfl, q, r⟩
  | wpr q r r' => cases e
  | dic q r =>
    cases e
    generalize e2 : [(PyData.none, PyData.list ds)] = y at r
    cases r with
    | nil => cases e2
    | @cons k _ _ _ _ _ _ => cases k <;> cases e2
  | dit q r => cases e
  | _ => cases e
/-- a pair of zip's, whole or not -/
theorem Dp.wprOf {v : V} {d e : D} (h : Dp K F v (.dict [(.none, d), (.none, e)])) : ∃ a x y, v = .ref a ∧ SqT K F a [x, y] ∧ Dp K F x d ∧ Dp K F y e := by
  generalize he : PyData.dict [(.none, d), (.none, e)] = z at h
  cases h with
  | wpr q r r' => cases he; exact ⟨_, _, _, rfl, .inl q, r, r'⟩
  | scr q r => cases he
  | dic q r =>
    cases he
    generalize e2 : [(PyData.none, d), (PyData.none, e)] = y at r
    cases r with
    | nil => cases e2
    | @cons k _ _ _ _ _ _ => cases k <;> cases e2
  | dit q r => cases he
  | _ => cases he
/-- what a cell holds, frozen, is data -/
theorem Cel.dpS {d : D} (c : Cel K F H a d) (s : Same F F') (e : F' a = H a) : Dp K F' (.ref a) d := by
  cases d with
  | list ds =>
    obtain ⟨vs, q, r⟩ := c
    exact .lst (Rd.of (e.trans q)) (DpAll.mono s r)
  | dict kvs =>
    rcases c with ⟨es, q, r⟩ | ⟨es, k, e0, q, r⟩
    · exact .dic (Rd.of (e.trans q)) (DkR.mono s r)
    · subst e0
      exact .dit (e.trans q) (DtR.mono s r)
  | _ => exact c.elim
theorem Cel.dp {d : D} (c : Cel K F H a d) (e : H a = some o) (n : F a = none) : Dp K (upd F a o) (.ref a) d := c.dpS (Same.upd_new n) (upd_same.trans e.symm)
/-! ### dicts as data -/
theorem keyOf_keyD (k : Key) : keyOf (keyD k) = some k := by cases k <;> rfl
theorem kV_dp {v : V} {d : D} {k : Key} (h : Dp K F v d) (e : keyOf d = some k) : v = kV k := by
  cases h <;> first | (cases e; done) | (cases e; rfl)
def lookK (kvs : List (D × D)) (k : Key) : Option D := (kvs.find? fun p => decide (keyOf p.1 = some k)).map (·.2)
def putD (kvs : List (D × D)) (k : Key) (d : D) : List (D × D) :=
  if (kvs.any fun p => decide (keyOf p.1 = some k)) = true then kvs.map (fun p => if keyOf p.1 = some k then (p.1, d) else p) else kvs ++ [(keyD k, d)]
def okK (kvs : List (D × D)) : Bool := kvs.all fun p => (keyOf p.1).isSome
theorem DkR.length : ∀ {es : List (Key × V)} {kvs : List (D × D)}, DkR K F es kvs → es.length = kvs.length
  | _, _, .nil => rfl
  | _, _, .cons _ r => by rw [List.length_cons, List.length_cons, DkR.length r]
theorem DkR.look (k : Key) : ∀ {es : List (Key × V)} {kvs : List (D × D)}, DkR K F es kvs → (valV es k = none ∧ lookK kvs k = none) ∨ ∃ v d, valV es k = some v ∧ lookK kvs k = some d ∧ Dp K F v d
  | _, _, .nil => .inl ⟨rfl, rfl⟩
  | _, _, .cons (k := j) (v := v) (d := d) (r := r) (r' := r') q t => by
    by_cases e : j = k
    · refine .inr ⟨v, d, valV_pos e, ?_, q⟩
      unfold lookK
      rw [List.find?_cons_of_pos (by simp [keyOf_keyD, e])]
      rfl
    · have h1 : lookK ((keyD j, d) :: r') k = lookK r' k := by
        unfold lookK
        rw [List.find?_cons_of_neg (by simp [keyOf_keyD, e])]
      rw [valV_neg e, h1]
      exact DkR.look k t
theorem DkR.lookS (k : Key) {es : List (Key × V)} {kvs : List (D × D)} (r : DkR K F es kvs) : (valV es k).isSome = (lookK kvs k).isSome := by
  rcases DkR.look k r with ⟨h1, h2⟩ | ⟨v', d', h1, h2, _⟩ <;> rw [h1, h2] <;> rfl
theorem DkR.keys : ∀ {es : List (Key × V)} {kvs : List (D × D)}, DkR K F es kvs → DpAll K F (es.map fun kv => kV kv.1) (kvs.map fun p => p.1)
  | _, _, .nil => .nil
  | _, _, .cons (k := k) _ r => by
    refine .cons ?_ (DkR.keys r)
    cases k
    · exact .int _
    · exact .str _
theorem DkR.any (k : Key) : ∀ {es : List (Key × V)} {kvs : List (D × D)}, DkR K F es kvs → (es.any fun p => decide (p.1 = k)) = kvs.any fun p => decide (keyOf p.1 = some k)
  | _, _, .nil => rfl
  | _, _, .cons (k := j) q t => by
    rw [List.any_cons, List.any_cons, DkR.any k t]
    simp [keyOf_keyD]
theorem DkR.append : ∀ {es es' : List (Key × V)} {kvs kvs' : List (D × D)}, DkR K F es kvs → DkR K F es' kvs' → DkR K F (es ++ es') (kvs ++ kvs')
  | _, _, _, _, .nil, s => s
  | _, _, _, _, .cons r t, s => .cons r (DkR.append t s)
theorem DkR.repl (k : Key) {v : V} {d : D} (h : Dp K F v d) : ∀ {es : List (Key × V)} {kvs : List (D × D)}, DkR K F es kvs → DkR K F (es.map fun p => if p.1 = k then (p.1, v) else p) (kvs.map fun p => if keyOf p.1 = some k then (p.1, d) else p)
  | _, _, .nil => .nil
  | _, _, .cons (k := j) q t => by
    rw [List.map_cons, List.map_cons]
    by_cases e : j = k
    · rw [if_pos e, if_pos (by rw [keyOf_keyD, e])]
      exact .cons h (DkR.repl k h t)
    · rw [if_neg e, if_neg (by rw [keyOf_keyD]; exact fun z => e (Option.some.inj z))]
      exact .cons q (DkR.repl k h t)
theorem DkR.put (k : Key) {v : V} {d : D} (h : Dp K F v d) {es : List (Key × V)} {kvs : List (D × D)} (r : DkR K F es kvs) : DkR K F (putK es k v) (putD kvs k d) := by
  unfold putK putD
  rw [DkR.any k r]
  split
  · exact DkR.repl k h r
  · exact DkR.append r (.cons h .nil)
theorem okK_keyD {es : List (Key × V)} {kvs : List (D × D)} (r : DkR K F es kvs) : okK kvs = true := by
  unfold okK
  induction kvs generalizing es with
  | nil => rfl
  | cons p kvs ih =>
    cases r with
    | cons q t => rw [List.all_cons, ih t, keyOf_keyD]; rfl
theorem Dp.dictOf {v : V} {kvs : List (D × D)} (h : Dp K F v (.dict kvs)) (ok : okK kvs = true) : ∃ a es, v = .ref a ∧ Rd F a (.dK es) ∧ DkR K F es kvs := by
  cases h with
  | scr q r => cases ok
  | wpr q r r' => cases ok
  | dic q r => exact ⟨_, _, rfl, q, r⟩
  | dit q r => cases ok
end
end FL
end L2

/-! FL2: expressions that carry their syntax, their meaning over data and the proof that both agree -/
namespace L2
namespace FL
open PySem PySem.Spec PyProof.Rows
/-- what a def promises: its name, its parameters, its meaning (own: cells that it may change) -/
structure Prom where
  name : Str
  ps : List Str
  sem : List Sl → Option (D × List Sl)
  /-- the last parameter is told by its name alone, () where it is left out -/
  kn : Bool
/-- the names of a def: slots, scope, the defs it may call, the module's constants -/
structure Nm where
  N : List Str
  sc : Scope
  Γ : List Prom
  cs : List (Str × D)
  IO : List Nat
  cf : Str → Bool
def spOf (K : KW) (p : Prom) : Sp := fun vs H Q _ => ∃ F as, as.length = p.ps.length ∧ Gs K F H (vs.map some) as ∧ ∃ d outs, p.sem as = some (d, outs) ∧
  ∀ v F' H', Gs K F' H' (vs.map some) outs → Fw F H (vs.map some) as F' H' (vs.map some) outs → Dp K F' v d → Q v H'
def snoc {α : Type} (us ws : List α) : List α := us ++ ws
structure BindOk (K : PySem.W.Frag) (fd : FuncData) (p : Prom) : Prop where
  pos : p.kn = false → Binds K fd p.ps []
  dfl : p.kn = true → ∃ (u : Value) (a : Addr), RelV (.ref a) u ∧ ModT K a [] ∧ Binds K fd p.ps [u]
  kwd : p.kn = true → ∃ (q : List Str) (x : Str), p.ps = q ++ [x] ∧ KBn K fd p.ps q.length [x] snoc snoc
structure Knows (X : Cx) (p : Prom) : Prop where
  ex : ∃ (f : Addr) (fd : FuncData) (k : Nat), X.mg p.name = some (.ref f) ∧ PySem.W.keepIn X.K (.ref f) = true ∧ BindOk X.K fd p ∧ FnOk X.prog X.w X.K X.mg X.base CX0 k f fd p.ps (spOf (kw X) p) ∧ Room k X.A
/-- a scalar constant of the module -/
def absD : D → Option V
  | .none => some .non
  | .bool b => some (.bl b)
  | .int i => some (.int i)
  | .str x => some (.str x)
  | _ => none
/-- a written dict of the module, texts to ints -/
def entOf (e : DictEntry) : Option (Str × Int) := match e.key, e.val with
  | .str x _, .int i _ => some (x, i)
  | _, _ => none
def tblD (tbl : List (Str × Int)) : D := .dict (tbl.map fun p => (.str p.1, .int p.2))
def WDict (K : PySem.W.Frag) (w : World) (a : Addr) (tbl : List (Str × Int)) : Prop := ∃ es n, K.lookup a = some ⟨.type "dict", none, .dict es n, #[]⟩ ∧ PySem.W.KeysLit w.params es.toList ∧ (a == sysModules) = false ∧ es.toList.map entOf = tbl.map some
/-- a constant of the module -/
def CnOk (K : PySem.W.Frag) (w : World) (mg : Str → Option Value) (q : Str × D) : Prop := (∃ v u, absD q.2 = some v ∧ RelV v u ∧ mg q.1 = some u) ∨ ∃ tbl a, q.2 = tblD tbl ∧ mg q.1 = some (.ref a) ∧ WDict K w a tbl
structure Gd (nm : Nm) (X : Cx) : Prop where
  N : X.N = nm.N
  sc : X.env.scope = nm.sc
  nd : nm.N.Nodup
  calm : X.calm = true
  xe : X.xe = fun _ _ => False
  room : Room 0 X.A
  fn : ∀ x, nm.cf x = true → X.fn x = true
  knows : ∀ p ∈ nm.Γ, Knows X p
  cons : ∀ q ∈ nm.cs, CnOk X.K X.w X.mg q
  blt : ∀ x ∈ (["len", "isinstance", "all", "any", "tuple", "list", "dict", "set", "zip", "enumerate", "range", "sorted", "max", "min", "sum", "str", "int", "bool"] : List Str), X.mg x = none
/-- neither starred nor a slice nor a set display -/
def Pl : Expr → Bool
  | .Starred _ _ => false
  | .Slice _ _ _ _ => false
  | .Set _ _ _ => false
  | _ => true
/-- no comprehension (its value is stored by another road) -/
def Nc : Expr → Bool
  | .ListComp _ _ _ _ => false
  | .SetComp _ _ _ _ => false
  | .DictComp _ _ _ _ _ => false
  | _ => true
section
variable {e : Expr}
theorem Pl.star (h : Pl e = true) (es : List Expr) (env : Env) : starEach (e :: es) env = (false, eval e env) :: starEach es env := by
  cases e <;> first | rfl | exact nomatch h
theorem Pl.plainIx (h : Pl e = true) : PlainIx e := by
  intro o i
  cases e <;> first | rfl | exact nomatch h
theorem Pl.mark (h : Pl e = true) (op : CmpOp) : behindInMarks op e = false := by
  cases e <;> first | rfl | exact nomatch h
theorem Pl.folded (h : Pl e = true) (env : Env) (x : Value) : foldedSetIterable e env x = pure x := by
  cases e <;> first | rfl | exact nomatch h
theorem Nc.swaps (h : Nc e = true) (t : Option Expr) (l : Nat) (env : Env) : swapsWith e t l env = pure false := by
  cases e <;> first | rfl | exact nomatch h
end
theorem starred_tail : ∀ {es : List Expr}, (∀ e ∈ es, Pl e = true) → ∀ (pos : Pos) (env : Env), (backTo pos (starEach es env)).any (·.1) = false := by
  intro es h pos env
  have q : ∀ {es : List Expr}, (∀ e ∈ es, Pl e = true) → (starEach es env).any (·.1) = false := by
    intro es
    induction es with
    | nil => intro _; rfl
    | cons e es ih =>
      intro h
      rw [Pl.star (h e (by simp)) es env]
      rw [List.any_cons, ih fun x hx => h x (by simp [hx])]
      rfl
  have b : ∀ l : List (Bool × Sem Value), l.any (·.1) = false → (backTo pos l).any (·.1) = false := by
    intro l
    unfold backTo
    induction l with
    | nil => intro _; rfl
    | cons x l ih => intro hh; simp_all
  exact b _ (q h)
section
variable {K : KW}
def tE (K : KW) (sem : En → Option (D × En)) : TE := fun σ H Q => ∃ F ρ, Gs K F H σ ρ ∧ ∃ d ρ', sem ρ = some (d, ρ') ∧
  ∀ v F' H', Gs K F' H' σ ρ' → Fw F H σ ρ F' H' σ ρ' → Dp K F' v d → Q v H'
def tT (K : KW) (sem : En → Option (Bool × En)) : TT := fun σ H Q => ∃ F ρ, Gs K F H σ ρ ∧ ∃ b ρ', sem ρ = some (b, ρ') ∧
  ∀ F' H', Gs K F' H' σ ρ' → Fw F H σ ρ F' H' σ ρ' → Q b H'
/-- a new list, nobody's yet -/
def tN (K : KW) (sem : En → Option (List D × En)) : TE := fun σ H Q => ∃ F ρ, Gs K F H σ ρ ∧ ∃ ds ρ', sem ρ = some (ds, ρ') ∧
  ∀ a vs F' H', Gs K F' H' σ ρ' → Fw F H σ ρ F' H' σ ρ' → H a = none → ¬ Owns σ ρ' a → F' a = none → H' a = some (.lst vs) → DpAll K F' vs ds → Q (.ref a) H'
/-- arguments: a value, or a slot whose cell is lent -/
inductive Ar where
  | d (x : D)
  | o (i : Nat)
inductive ArgR (K : KW) (F : Hp) (σ : St) : List V → List Ar → Prop
  | nil : ArgR K F σ [] []
  | d {v : V} {x : D} {vs : List V} {as : List Ar} : Dp K F v x → ArgR K F σ vs as → ArgR K F σ (v :: vs) (.d x :: as)
  | o {v : V} {i : Nat} {vs : List V} {as : List Ar} : σ[i]? = some (some v) → ArgR K F σ vs as → ArgR K F σ (v :: vs) (.o i :: as)
theorem ArgR.mono {F F' : Hp} {σ : St} (hs : Same F F') : ∀ {vs : List V} {as : List Ar}, ArgR K F σ vs as → ArgR K F' σ vs as
  | _, _, .nil => .nil
  | _, _, .d q r => .d (Dp.mono hs q) (ArgR.mono hs r)
  | _, _, .o q r => .o q (ArgR.mono hs r)
def tA (K : KW) (sem : En → Option (List Ar × En)) : TA := fun σ H Q => ∃ F ρ, Gs K F H σ ρ ∧ ∃ as ρ', sem ρ = some (as, ρ') ∧
  ∀ vs F' H', Gs K F' H' σ ρ' → Fw F H σ ρ F' H' σ ρ' → ArgR K F' σ vs as → Q vs H'
theorem PE.imp {X : Cx} {e : Expr} {t t' : TE} (h : PE X e t) (hi : ∀ σ H Q, t' σ H Q → t σ H Q) : PE X e t' := ⟨fun pins s σ H Q I q => h.run pins s σ H Q I (hi σ H Q q)⟩
theorem PT.imp {X : Cx} {e : Expr} {t t' : TT} (h : PT X e t) (hi : ∀ σ H Q, t' σ H Q → t σ H Q) : PT X e t' := ⟨fun pins s σ H Q I q => h.run pins s σ H Q I (hi σ H Q q)⟩
theorem PA.imp {X : Cx} {e : List Expr} {t t' : TA} (h : PA X e t) (hi : ∀ σ H Q, t' σ H Q → t σ H Q) : PA X e t' := ⟨fun pos pins s σ H Q I q => h.run pos pins s σ H Q I (hi σ H Q q)⟩
theorem PS.imp {X : Cx} {e : Stmt} {t t' : TS} (h : PS X e t) (hi : ∀ D σ H, t' D σ H → t D σ H) : PS X e t' := ⟨fun pins s σ H D I q => h.run pins s σ H D I (hi D σ H q)⟩
theorem PSs.imp {X : Cx} {e : List Stmt} {t t' : TS} (h : PSs X e t) (hi : ∀ D σ H, t' D σ H → t D σ H) : PSs X e t' := ⟨fun pins s σ H D I q => h.run pins s σ H D I (hi D σ H q)⟩
end
structure CE (nm : Nm) where
  syn : Expr
  sem : En → Option (D × En)
  pl : Pl syn = true
  snd : ∀ X, Gd nm X → PE X syn (tE (kw X) sem)
structure CT (nm : Nm) where
  syn : Expr
  sem : En → Option (Bool × En)
  snd : ∀ X, Gd nm X → PT X syn (tT (kw X) sem)
/-- a new list -/
structure CN (nm : Nm) where
  syn : Expr
  sem : En → Option (List D × En)
  pl : Pl syn = true
  snd : ∀ X, Gd nm X → PE X syn (tN (kw X) sem)
structure CA (nm : Nm) where
  syn : List Expr
  sem : En → Option (List Ar × En)
  pl : ∀ e ∈ syn, Pl e = true
  snd : ∀ X, Gd nm X → PA X syn (tA (kw X) sem)
/-! ### names and constants -/
/-- a slot read: a cell of one's own is frozen by it -/
def rd (i : Nat) (ρ : En) : Option (D × En) := match ρ[i]? with
  | some (.val d) => some (d, ρ)
  | some (.own d) => some (d, ρ.set i (.val d))
  | _ => none
section
variable {K : KW} {F F' H H' : Hp} {σ σ' : St} {ρ ρ' : En} {a p : Addr} {o : HO}
theorem Gs.inRange (g : Gs K F H σ ρ) {i : Nat} {x : Sl} (h : ρ[i]? = some x) : i < ρ.length ∧ i < σ.length := by
  have := (List.getElem?_eq_some_iff.mp h).1
  exact ⟨this, by rw [g.len]; exact this⟩
/-- a cell of one's own becomes a value -/
theorem Gs.thaw (g : Gs K F H σ ρ) {i : Nat} {d : D} (h : ρ[i]? = some (.own d)) : ∃ a F', σ[i]? = some (some (.ref a)) ∧ Gs K F' H σ (ρ.set i (.val d)) ∧ Fw F H σ ρ F' H σ (ρ.set i (.val d)) ∧ Dp K F' (.ref a) d := by
  obtain ⟨a, e1, e2, cel⟩ := g.own i _ h
  obtain ⟨o, e3⟩ := Option.ne_none_iff_exists'.mp cel.there
  have hi := (g.inRange h).1
  have s : Same F (upd F a o) := Same.upd_new e2
  have dp : Dp K (upd F a o) (.ref a) d := cel.dp e3 e2
  have back : ∀ (j : Nat) (c : D), (ρ.set i (.val d))[j]? = some (.own c) → j ≠ i ∧ ρ[j]? = some (.own c) := fun j c q => by
    by_cases hj : i = j
    · subst hj
      rw [List.getElem?_set_self hi] at q
      cases q
    · rw [List.getElem?_set_ne hj] at q
      exact ⟨fun z => hj z.symm, q⟩
  have sub : ∀ b, Owns σ (ρ.set i (.val d)) b → Owns σ ρ b ∧ b ≠ a := fun b ⟨j, d, q1, q2⟩ => by
    obtain ⟨hj, q1⟩ := back j d q1
    refine ⟨⟨j, d, q1, q2⟩, fun z => ?_⟩
    subst z
    exact hj (g.inj _ _ _ _ _ q1 h q2 e1)
  refine ⟨a, upd F a o, e1, ⟨by rw [List.length_set]; exact g.len, fun b u q => ?_, g.sz, fun j d q => ?_, fun j d q => ?_, fun j k dj dk b q1 q2 q3 q4 => ?_⟩, ⟨s, fun b n no => ⟨rfl, ?_⟩, fun b w => .inl (sub b w).1, fun _ q => q⟩, dp⟩
  · by_cases hb : b = a
    · subst hb; rw [upd_same] at q; cases q; exact e3
    · rw [upd_ne hb] at q; exact g.le b u q
  · by_cases hj : i = j
    · subst hj
      rw [List.getElem?_set_self hi] at q
      cases q
      exact ⟨_, e1, dp⟩
    · rw [List.getElem?_set_ne hj] at q
      obtain ⟨v, q1, q2⟩ := g.val j d q
      exact ⟨v, q1, Dp.mono s q2⟩
  · obtain ⟨hj, q⟩ := back j d q
    obtain ⟨b, q1, q2, c⟩ := g.own j d q
    have hb : b ≠ a := fun z => by
      subst z
      exact hj (g.inj _ _ _ _ _ q h q1 e1)
    exact ⟨b, q1, (upd_ne hb).trans q2, c.mono s rfl⟩
  · exact g.inj j k dj dk b (back j dj q1).2 (back k dk q2).2 q3 q4
  · have hb : b ≠ a := fun z => no (z ▸ ⟨i, _, h, e1⟩)
    exact upd_ne hb
end
section
variable {nm : Nm}
def visB (sc : Scope) (x : Str) : Bool := match sc.names.lookup x with
  | some .local => true
  | some .cell => true
  | some .free => true
  | _ => false
theorem vis_of {sc : Scope} {x : Str} (h : visB sc x = true) : Vis sc x := by
  unfold visB at h
  unfold Vis
  split at h
  · exact .inl (by assumption)
  · exact .inr (.inl (by assumption))
  · exact .inr (.inr (by assumption))
  · cases h
def eName (i : Nat) (x : Str) (pos : Pos) (hN : nm.N[i]? = some x) (hv : visB nm.sc x = true) (hd : (x == ("__debug__" : Str)) = false := by rfl) (hcd : (x == ("__classdict__" : Str)) = false := by rfl) : CE nm where
  syn := .Name x pos
  sem := rd i
  pl := rfl
  snd := fun X G => by
    refine PE.imp (pe_var (i := i) (by rw [G.N]; exact hN) (by rw [G.sc]; exact vis_of hv) hd hcd) fun σ H Q h => ?_
    obtain ⟨F, ρ, g, d, ρ', e, q⟩ := h
    unfold rd at e
    split at e
    · cases e
      obtain ⟨v, e1, e2⟩ := g.val i _ (by assumption)
      exact ⟨v, e1, q v F H g Fw.refl e2⟩
    · cases e
      obtain ⟨a, F', e1, g1, f1, dp⟩ := g.thaw (by assumption)
      exact ⟨_, e1, q _ F' H g1 f1 dp⟩
    · cases e
def cst (d : D) : En → Option (D × En) := fun ρ => some (d, ρ)
def eConst (c : Const) (j : Nat) (pos : Pos) (d : D) (v : V) (hp : ∀ X, PE X (.Constant c j pos) (tC v)) (hd : ∀ K F, Dp K F v d) : CE nm where
  syn := .Constant c j pos
  sem := cst d
  pl := rfl
  snd := fun X G => PE.imp (hp X) fun σ H Q h => by
    obtain ⟨F, ρ, g, d', ρ', e, q⟩ := h
    cases e
    exact q v F H g Fw.refl (hd _ _)
def eInt (i : Int) (j : Nat) (pos : Pos) : CE nm := eConst (.int i) j pos (.int i) (.int i) (fun _ => pe_int) fun _ _ => .int i
def eStr (x : Str) (j : Nat) (pos : Pos) : CE nm := eConst (.str x) j pos (.str x) (.str x) (fun _ => pe_str) fun _ _ => .str x
def eBl (b : Bool) (j : Nat) (pos : Pos) : CE nm := eConst (.bool b) j pos (.bool b) (.bl b) (fun _ => pe_bl) fun _ _ => .bl b
def eNon (j : Nat) (pos : Pos) : CE nm := eConst .none j pos .none .non (fun _ => pe_non) fun _ _ => .non
theorem dp_abs {K : KW} {F : Hp} {d : D} {v : V} (h : absD d = some v) : Dp K F v d := by
  cases d <;> cases h <;> constructor
/-- a constant of the module -/
def eGlob (x : Str) (d : D) (pos : Pos) (h : (x, d) ∈ nm.cs) (hg : nm.sc.names.lookup x = some .globalImplicit) (hd : (x == ("__debug__" : Str)) = false := by rfl) (ha : (absD d).isSome = true := by rfl) : CE nm where
  syn := .Name x pos
  sem := cst d
  pl := rfl
  snd := fun X G => by
    obtain ⟨v, u, e1, e2, e3⟩ : ∃ v u, absD d = some v ∧ RelV v u ∧ X.mg x = some u := by
      rcases G.cons _ h with c | ⟨tbl, a, c, _⟩
      · exact c
      · have c : d = tblD tbl := c
        rw [c] at ha
        cases ha
    refine PE.imp (pe_glob (x := x) (by show X.env.scope.names.lookup x = _; rw [G.sc]; exact hg) e3 e2 hd) fun σ H Q h => ?_
    obtain ⟨F, ρ, g, d', ρ', e, q⟩ := h
    cases e
    exact q v F H g Fw.refl (dp_abs e1)
end
/-! ### two expressions in a row -/
def bnd {α β : Type} (m : Option (α × En)) (f : α → En → Option β) : Option β := match m with
  | some (x, ρ) => f x ρ
  | none => none
theorem bnd_some {α β : Type} {m : Option (α × En)} {f : α → En → Option β} {b : β} (h : bnd m f = some b) : ∃ x ρ, m = some (x, ρ) ∧ f x ρ = some b := by
  unfold bnd at h
  split at h
  · exact ⟨_, _, rfl, h⟩
  · cases h
@[simp] theorem bnd_mk {α β : Type} {x : α} {ρ : En} {f : α → En → Option β} : bnd (some (x, ρ)) f = f x ρ := rfl
section
variable {K : KW}
/-- an operation on two values, by data -/
def rD (K : KW) (f : D → D → Option D) : R2 := fun x y H Q => ∃ F σ ρ dx dy d, Gs K F H σ ρ ∧ Dp K F x dx ∧ Dp K F y dy ∧ f dx dy = some d ∧
  ∀ v F' H', Gs K F' H' σ ρ → Fw F H σ ρ F' H' σ ρ → Dp K F' v d → Q v H'
theorem tE_bin {ea eb : En → Option (D × En)} {f : D → D → Option D} {σ : St} {H : Hp} {Q : VK}
    (h : tE K (fun ρ => bnd (ea ρ) fun x ρ1 => bnd (eb ρ1) fun y ρ2 => (f x y).map fun d => (d, ρ2)) σ H Q) : tOp (rD K f) (tE K ea) (tE K eb) σ H Q := by
  obtain ⟨F, ρ, g, d, ρ', e, q⟩ := h
  obtain ⟨x, ρ1, e1, e⟩ := bnd_some e
  obtain ⟨y, ρ2, e2, e⟩ := bnd_some e
  refine ⟨F, ρ, g, x, ρ1, e1, fun v1 F1 H1 g1 f1 d1 => ?_⟩
  refine ⟨F1, ρ1, g1, y, ρ2, e2, fun v2 F2 H2 g2 f2 d2 => ?_⟩
  cases e3 : f x y with
  | none => rw [e3] at e; cases e
  | some z =>
    rw [e3] at e; cases e
    exact ⟨F2, σ, ρ', x, y, d, g2, Dp.mono f2.leF d1, d2, e3, fun v F' H' g3 f3 d3 => q v F' H' g3 (f1.trans (f2.trans f3)) d3⟩
end
/-- an operator over data that the rule r serves -/
def OpD (X : Cx) (g : Value → Value → Sem Value) (f : D → D → Option D) : Prop := OpR X g (rD (kw X) f)
section
variable {nm : Nm}
def semBin (f : D → D → Option D) (ea eb : En → Option (D × En)) : En → Option (D × En) := fun ρ => bnd (ea ρ) fun x ρ1 => bnd (eb ρ1) fun y ρ2 => (f x y).map fun d => (d, ρ2)
def eBin (op : Operator) (f : D → D → Option D) (h : ∀ X, Gd nm X → OpD X (binaryOp op) f) (a b : CE nm) (pos : Pos) : CE nm where
  syn := .BinOp a.syn op b.syn pos
  sem := semBin f a.sem b.sem
  pl := rfl
  snd := fun X G => PE.imp (pe_op (h X G) (a.snd X G) (b.snd X G)) fun σ H Q hq => tE_bin hq
def eCmp (op : CmpOp) (f : D → D → Option D) (h : ∀ X, Gd nm X → OpD X (compareOp op) f) (a b : CE nm) (pos : Pos) : CE nm where
  syn := .Compare a.syn [op] [b.syn] pos
  sem := semBin f a.sem b.sem
  pl := rfl
  snd := fun X G => PE.imp (pe_cmpR (h X G) (a.snd X G) (b.snd X G) (Pl.mark b.pl op)) fun σ H Q hq => tE_bin hq
/-- a value as a truth -/
def asB : D → Option Bool
  | .bool b => some b
  | _ => none
def semT (e : En → Option (D × En)) : En → Option (Bool × En) := fun ρ => bnd (e ρ) fun d ρ1 => (asB d).map fun b => (b, ρ1)
theorem tT_of {K : KW} {e : En → Option (D × En)} {σ : St} {H : Hp} {Q : Bool → Hp → Prop} (h : tT K (semT e) σ H Q) : tE K e σ H fun x H' => ∃ k, x = .bl k ∧ Q k H' := by
  obtain ⟨F, ρ, g, b, ρ', e1, q⟩ := h
  obtain ⟨d, ρ1, e2, e3⟩ := bnd_some e1
  refine ⟨F, ρ, g, d, ρ1, e2, fun v F' H' g1 f1 dp => ?_⟩
  cases d with
  | bool k =>
    cases e3
    cases dp
    exact ⟨_, rfl, q F' H' g1 f1⟩
  | _ => cases e3
def tCmpT (op : CmpOp) (f : D → D → Option D) (h : ∀ X, Gd nm X → OpD X (compareOp op) f) (a b : CE nm) (pos : Pos) : CT nm where
  syn := .Compare a.syn [op] [b.syn] pos
  sem := semT (semBin f a.sem b.sem)
  snd := fun X G => PT.imp (pt_cmpR (h X G) (a.snd X G) (b.snd X G) (Pl.mark b.pl op)) fun σ H Q hq => tE_bin (tT_of hq)
/-- an expression whose value is a truth, no BoolOp, no not, no comparison -/
def tVal (e : CE nm) (he : ∀ (env : Env) (whole : Sem Value), isTrue e.syn env whole = (do let v ← whole; standAt e.syn.pos; holding [v] (truthy v)) := by intros; rfl) : CT nm where
  syn := e.syn
  sem := semT e.sem
  snd := fun X G => PT.imp (pt_val (e.snd X G) (he X.env)) fun σ H Q hq => tT_of hq
/-! ### and, or, not as tests -/
structure CW (nm : Nm) (op : BoolOp) where
  vals : List Expr
  sem : En → Option (Bool × En)
  ne : ∃ v r, vals = v :: r
  snd : ∀ X, Gd nm X → ∀ pos, PW X (.BoolOp op vals pos) (tT (kw X) sem)
def w1 (op : BoolOp) (a : CT nm) : CW nm op where
  vals := [a.syn]
  sem := a.sem
  ne := ⟨_, _, rfl⟩
  snd := fun X G pos => by
    cases op with
    | And => exact pw_and1 (a.snd X G)
    | Or => exact pw_or1 (a.snd X G)
def semAnd (a b : En → Option (Bool × En)) : En → Option (Bool × En) := fun ρ => bnd (a ρ) fun c ρ1 => if c = true then b ρ1 else some (false, ρ1)
def semOr (a b : En → Option (Bool × En)) : En → Option (Bool × En) := fun ρ => bnd (a ρ) fun c ρ1 => if c = true then some (true, ρ1) else b ρ1
def semNot (a : En → Option (Bool × En)) : En → Option (Bool × En) := fun ρ => bnd (a ρ) fun c ρ1 => some (!c, ρ1)
theorem PW.imp {X : Cx} {e : Expr} {t t' : TT} (h : PW X e t) (hi : ∀ σ H Q, t' σ H Q → t σ H Q) : PW X e t' := ⟨fun wh pins s σ H Q I q => h.run wh pins s σ H Q I (hi σ H Q q)⟩
theorem tT_and {K : KW} {a b : En → Option (Bool × En)} {σ : St} {H : Hp} {Q : Bool → Hp → Prop} (h : tT K (semAnd a b) σ H Q) : tAnd (tT K a) (tT K b) σ H Q := by
  obtain ⟨F, ρ, g, c, ρ', e, q⟩ := h
  obtain ⟨x, ρ1, e1, e⟩ := bnd_some e
  refine ⟨F, ρ, g, x, ρ1, e1, fun F1 H1 g1 f1 => ?_⟩
  dsimp only
  split
  · rename_i hx
    rw [if_pos hx] at e
    exact ⟨F1, ρ1, g1, c, ρ', e, fun F2 H2 g2 f2 => q F2 H2 g2 (f1.trans f2)⟩
  · rename_i hx
    rw [if_neg hx] at e
    cases e
    exact q F1 H1 g1 f1
theorem tT_or {K : KW} {a b : En → Option (Bool × En)} {σ : St} {H : Hp} {Q : Bool → Hp → Prop} (h : tT K (semOr a b) σ H Q) : tOr (tT K a) (tT K b) σ H Q := by
  obtain ⟨F, ρ, g, c, ρ', e, q⟩ := h
  obtain ⟨x, ρ1, e1, e⟩ := bnd_some e
  refine ⟨F, ρ, g, x, ρ1, e1, fun F1 H1 g1 f1 => ?_⟩
  dsimp only
  split
  · rename_i hx
    rw [if_pos hx] at e
    cases e
    exact q F1 H1 g1 f1
  · rename_i hx
    rw [if_neg hx] at e
    exact ⟨F1, ρ1, g1, c, ρ', e, fun F2 H2 g2 f2 => q F2 H2 g2 (f1.trans f2)⟩
def wAnd (a : CT nm) (b : CW nm .And) : CW nm .And where
  vals := a.syn :: b.vals
  sem := semAnd a.sem b.sem
  ne := ⟨_, _, rfl⟩
  snd := fun X G pos => by
    obtain ⟨v, r, e⟩ := b.ne
    have hb := b.snd X G pos
    rw [e] at hb ⊢
    exact PW.imp (pw_and (a.snd X G) hb) fun σ H Q h => tT_and h
def wOr (a : CT nm) (b : CW nm .Or) : CW nm .Or where
  vals := a.syn :: b.vals
  sem := semOr a.sem b.sem
  ne := ⟨_, _, rfl⟩
  snd := fun X G pos => by
    obtain ⟨v, r, e⟩ := b.ne
    have hb := b.snd X G pos
    rw [e] at hb ⊢
    exact PW.imp (pw_or (a.snd X G) hb) fun σ H Q h => tT_or h
def tBool (op : BoolOp) (w : CW nm op) (pos : Pos) : CT nm where
  syn := .BoolOp op w.vals pos
  sem := w.sem
  snd := fun X G => (w.snd X G pos).pt
def tNt (a : CT nm) (pos : Pos) : CT nm where
  syn := .UnaryOp .Not a.syn pos
  sem := semNot a.sem
  snd := fun X G => PT.imp (pt_not (a.snd X G)) fun σ H Q h => by
    obtain ⟨F, ρ, g, c, ρ', e, q⟩ := h
    obtain ⟨x, ρ1, e1, e⟩ := bnd_some e
    cases e
    exact ⟨F, ρ, g, x, ρ', e1, fun F1 H1 g1 f1 => q F1 H1 g1 f1⟩
/-! ### as values: all but the last are truths -/
structure CV (nm : Nm) (op : BoolOp) where
  vals : List Expr
  sem : En → Option (D × En)
  ne : ∃ v r, vals = v :: r
  snd : ∀ X, Gd nm X → ∀ pos, PE X (.BoolOp op vals pos) (tE (kw X) sem)
def v1 (op : BoolOp) (a : CE nm) : CV nm op where
  vals := [a.syn]
  sem := a.sem
  ne := ⟨_, _, rfl⟩
  snd := fun X G pos => pe_one (a.snd X G)
def semAndV (a b : En → Option (D × En)) : En → Option (D × En) := fun ρ => bnd (semT a ρ) fun c ρ1 => if c = true then b ρ1 else some (.bool false, ρ1)
def semOrV (a b : En → Option (D × En)) : En → Option (D × En) := fun ρ => bnd (semT a ρ) fun c ρ1 => if c = true then some (.bool true, ρ1) else b ρ1
theorem tE_asB {K : KW} {e : En → Option (D × En)} {F H : Hp} {σ : St} {ρ ρ1 : En} {c : Bool} {Q : VK} (g : Gs K F H σ ρ) (h : semT e ρ = some (c, ρ1)) (q : ∀ F' H', Gs K F' H' σ ρ1 → Fw F H σ ρ F' H' σ ρ1 → Q (.bl c) H') : tE K e σ H Q := by
  obtain ⟨d, ρ2, e2, e3⟩ := bnd_some h
  refine ⟨F, ρ, g, d, ρ2, e2, fun v F' H' g1 f1 dp => ?_⟩
  cases d with
  | bool k =>
    cases e3
    cases dp
    exact q F' H' g1 f1
  | _ => cases e3
def vAnd (a : CE nm) (b : CV nm .And) : CV nm .And where
  vals := a.syn :: b.vals
  sem := semAndV a.sem b.sem
  ne := ⟨_, _, rfl⟩
  snd := fun X G pos => by
    obtain ⟨v, r, e⟩ := b.ne
    have hb := b.snd X G pos
    rw [e] at hb ⊢
    refine PE.imp (pe_and (a.snd X G) hb) fun σ H Q h => ?_
    obtain ⟨F, ρ, g, c, ρ', e, q⟩ := h
    obtain ⟨x, ρ1, e1, e⟩ := bnd_some e
    refine tE_asB g e1 fun F1 H1 g1 f1 => ⟨x, rfl, ?_⟩
    split
    · rename_i hx
      rw [if_pos hx] at e
      exact ⟨F1, ρ1, g1, c, ρ', e, fun v F2 H2 g2 f2 => q v F2 H2 g2 (f1.trans f2)⟩
    · rename_i hx
      rw [if_neg hx] at e
      cases e
      exact q _ F1 H1 g1 f1 (.bl false)
def vOr (a : CE nm) (b : CV nm .Or) : CV nm .Or where
  vals := a.syn :: b.vals
  sem := semOrV a.sem b.sem
  ne := ⟨_, _, rfl⟩
  snd := fun X G pos => by
    obtain ⟨v, r, e⟩ := b.ne
    have hb := b.snd X G pos
    rw [e] at hb ⊢
    refine PE.imp (pe_or (a.snd X G) hb) fun σ H Q h => ?_
    obtain ⟨F, ρ, g, c, ρ', e, q⟩ := h
    obtain ⟨x, ρ1, e1, e⟩ := bnd_some e
    refine tE_asB g e1 fun F1 H1 g1 f1 => ⟨x, rfl, ?_⟩
    split
    · rename_i hx
      rw [if_pos hx] at e
      cases e
      exact q _ F1 H1 g1 f1 (.bl true)
    · rename_i hx
      rw [if_neg hx] at e
      exact ⟨F1, ρ1, g1, c, ρ', e, fun v F2 H2 g2 f2 => q v F2 H2 g2 (f1.trans f2)⟩
def eBool (op : BoolOp) (w : CV nm op) (pos : Pos) : CE nm where
  syn := .BoolOp op w.vals pos
  sem := w.sem
  pl := rfl
  snd := fun X G => w.snd X G pos
def semNotV (a : En → Option (D × En)) : En → Option (D × En) := fun ρ => bnd (semT a ρ) fun c ρ1 => some (.bool !c, ρ1)
def eNot (a : CE nm) (pos : Pos) : CE nm where
  syn := .UnaryOp .Not a.syn pos
  sem := semNotV a.sem
  pl := rfl
  snd := fun X G => PE.imp (pe_not (a.snd X G)) fun σ H Q h => by
    obtain ⟨F, ρ, g, c, ρ', e, q⟩ := h
    obtain ⟨x, ρ1, e1, e⟩ := bnd_some e
    cases e
    exact tE_asB g e1 fun F1 H1 g1 f1 => ⟨x, rfl, q _ F1 H1 g1 f1 (.bl _)⟩
def semIf (t : En → Option (Bool × En)) (a b : En → Option (D × En)) : En → Option (D × En) := fun ρ => bnd (t ρ) fun c ρ1 => if c = true then a ρ1 else b ρ1
def eIf (t : CT nm) (a b : CE nm) (pos : Pos) : CE nm where
  syn := .IfExp t.syn a.syn b.syn pos
  sem := semIf t.sem a.sem b.sem
  pl := rfl
  snd := fun X G => PE.imp (pe_ifExp (t.snd X G) (a.snd X G) (b.snd X G)) fun σ H Q h => by
    obtain ⟨F, ρ, g, d, ρ', e, q⟩ := h
    obtain ⟨x, ρ1, e1, e⟩ := bnd_some e
    refine ⟨F, ρ, g, x, ρ1, e1, fun F1 H1 g1 f1 => ?_⟩
    dsimp only
    split
    · rename_i hx
      rw [if_pos hx] at e
      exact ⟨F1, ρ1, g1, d, ρ', e, fun v F2 H2 g2 f2 => q v F2 H2 g2 (f1.trans f2)⟩
    · rename_i hx
      rw [if_neg hx] at e
      exact ⟨F1, ρ1, g1, d, ρ', e, fun v F2 H2 g2 f2 => q v F2 H2 g2 (f1.trans f2)⟩
end
end FL
end L2

/-! FL2t: makers of tuples that tell the very object that they lay -/
namespace L2
namespace FL
open PySem PySem.Spec PyProof.Rows
/-- what is wanted behind a new tuple: whoever goes on chooses how it is laid -/
def MkT (xs : List V) (H : Hp) (Q : VK) : Prop := ∀ (p : Addr) (o : Obj), H p = none → o.dict = none → ∃ ho, (ho = HO.tup xs ∨ ho = HO.frz o (.tup xs)) ∧ Q (.ref p) (upd H p ho)
variable {X : Cx} {pins : List (Addr × Obj)} {σ : St} {H : Hp} {s : Shared} {Q : VK}
theorem MkT.fin {xs : List V} {its : List Value} {c : Nat} (I : Inv X pins σ H s) (rv : Vals xs its) (z : xs.length ≤ sizeLine) (q : MkT xs H Q) :
    EP X pins σ Q (.ref s.heap.objs.size) { s with heap := s.heap.push { cls := .type "tuple", data := .seq its.toArray }, toks := c } := by
  obtain ⟨ho, hc, q'⟩ := q s.heap.objs.size { cls := .type "tuple", data := .seq its.toArray } (I.hok.fresh (Nat.le_refl _)) rfl
  refine ⟨.ref _, upd H _ ho, I.laid (t' := c) (o := ho) (fun b ob e => Heap.get?_push_of_some _ e) (Nat.le_refl _) ?_, rfl, q'⟩
  rcases hc with e | e
  · subst e
    exact ⟨z, its, rv, IsTup.new _ _⟩
  · subst e
    exact ⟨Heap.get?_push_size _ rfl, z, its, rv, IsTup.new _ _⟩
/-- (a, b, ..) -/
theorem pe_tupF {es : List Expr} {t : TA} {k : Nat} {pos : Pos} (h : PA X es t) : PE X (.Tuple es k pos) (fun σ H Q => t σ H fun xs H1 => xs.length ≤ sizeLine ∧ MkT xs H1 Q) := by
  refine ⟨fun pins s σ H Q J hq => wpAny_Tuple_spliced (thn (h.run pos pins s σ H _ J hq) fun us c ⟨xs, H1, J1, rv, z, q⟩ => ?_)⟩
  refine ⟨by rw [← rv.length]; exact z, ?_⟩
  exact MkT.fin (c := c.toks) J1 rv z q
/-- t + u -/
theorem op_catF : OpR X (binaryOp .Add) (fun x y H Q => ∃ a b xs ys, x = .ref a ∧ y = .ref b ∧ SqT X.K H a xs ∧ SqT X.K H b ys ∧ xs.length + ys.length ≤ sizeLine ∧ (xs = [] → Q (.ref b) H) ∧ (xs ≠ [] → ys = [] → Q (.ref a) H) ∧ (xs ≠ [] → ys ≠ [] → MkT (xs ++ ys) H Q)) := by
  intro pins s σ H x y v u Q J rx ry h
  obtain ⟨a, b, xs, ys, rfl, rfl, ka, kb, z, q0, q1, q2⟩ := h
  by_cases nx : xs = []
  · exact op_catA pins s σ H _ _ v u Q J rx ry ⟨a, b, xs, ys, rfl, rfl, ka, kb, z, q0, q1, fun w => absurd nx w⟩
  by_cases ny : ys = []
  · exact op_catA pins s σ H _ _ v u Q J rx ry ⟨a, b, xs, ys, rfl, rfl, ka, kb, z, q0, q1, fun _ w => absurd ny w⟩
  cases rx
  cases ry
  obtain ⟨l1, v1, t1, -⟩ := J.tuple ka
  obtain ⟨l2, v2, t2, -⟩ := J.tuple kb
  refine HT.cat_tup t1 t2 (fun e => nx (v1.nil_iff.mp e)) (fun e => absurd (v2.nil_iff.mp e) ny) (fun _ => ?_) (by rw [← v1.length, ← v2.length]; exact z)
  exact MkT.fin (c := s.toks) J (v1.append v2) (by rw [List.length_append]; exact z) (q2 nx ny)
/-- t[lo:hi] -/
theorem sl_tupF : SlR X (fun x lo hi H Q => ∃ a xs, x = .ref a ∧ SqT X.K H a xs ∧
    (HT.sIx xs.length 0 lo = 0 ∧ HT.sIx xs.length xs.length hi = xs.length → Q (.ref a) H) ∧ (¬ (HT.sIx xs.length 0 lo = 0 ∧ HT.sIx xs.length xs.length hi = xs.length) → MkT (cutV xs lo hi) H Q)) := by
  intro pins s σ H x v vl vu lo hi sl Q J rx hs pl pu h
  obtain ⟨a, xs, rfl, ka, q1, q2⟩ := h
  by_cases hw : HT.sIx xs.length 0 lo = 0 ∧ HT.sIx xs.length xs.length hi = xs.length
  · exact sl_tupA pins s σ H _ v vl vu lo hi sl Q J rx hs pl pu ⟨a, xs, rfl, ka, q1, fun w => absurd hw w⟩
  cases rx
  obtain ⟨l1, v1, t1, z⟩ := J.tuple ka
  have e : l1.toArray.size = xs.length := List.size_toArray.trans v1.length.symm
  refine ⟨"tuple", _, PyProof.Rows.slot_tuple_getitem.lookup, t1.typeIs, ?_⟩
  refine HT.getItem_tuple_cut t1 hs pl pu (e ▸ hw) ?_ (e ▸ z)
  rw [e]
  exact MkT.fin (c := s.toks) J ((v1.drop (HT.sIx xs.length 0 lo)).take (HT.sIx xs.length xs.length hi - HT.sIx xs.length 0 lo)) (Nat.le_trans (cutV_length xs lo hi) z) (q2 hw)
/-- tuple(list), tuple(tuple) -/
theorem call_tupF : CallR X (.type "tuple") (fun xs H Q => ∃ p ys, xs = [.ref p] ∧ ((SqL X.K H p ys ∧ MkT ys H Q) ∨ (SqT X.K H p ys ∧ Q (.ref p) H))) := by
  intro pins s σ H xs us Q J r h
  obtain ⟨p, ys, rfl, h⟩ := h
  rcases h with ⟨kl, q⟩ | ⟨kt, q⟩
  · obtain ⟨w, rfl, rw'⟩ := vals1 r
    cases rw'
    obtain ⟨l1, v1, pl, z⟩ := J.list kl
    have e := v1.length
    refine call_tuple_list pl.isList (fun h' kp => ?_) (by simp only [List.size_toArray] <;> omega)
    exact MkT.fin (c := s.toks) (J.kept (t' := s.toks) kp) v1 z q
  · exact call_tuple_of pins s σ H _ us Q J r ⟨p, ys, rfl, .inr ⟨kt, q⟩⟩
/-- t * k -/
theorem flat_len {xs : List V} {k : Int} (h : k ≤ 1000) (z : xs.length ≤ 1000) : (List.replicate k.toNat xs).flatten.length ≤ sizeLine := by
  have e : (List.replicate k.toNat xs).flatten.length = k.toNat * xs.length := PyProof.Rows.lm_len_rep_flat _ _
  have b : k.toNat * xs.length ≤ 1000 * 1000 := Nat.mul_le_mul (by omega) z
  have c : 1000 * 1000 ≤ sizeLine := by decide
  omega
theorem op_repF : OpR X (binaryOp .Mult) (fun x y H Q => ∃ l k xs, x = .ref l ∧ y = .int k ∧ SqT X.K H l xs ∧ xs ≠ [] ∧ 2 ≤ k ∧ k ≤ 1000 ∧ xs.length ≤ 1000 ∧ MkT (List.replicate k.toNat xs).flatten H Q) := by
  rintro pins s σ H _ _ v u Q I rx ry ⟨l, k, xs, rfl, rfl, ht, ne, k2, k3, z, q⟩
  obtain rfl : v = Value.ref l := rx
  obtain ⟨tk, rfl⟩ := ry
  obtain ⟨its, rv, ⟨⟨c, dd, dt, sl⟩, ho, hc, n, hd⟩, _⟩ := I.tuple ht
  obtain rfl : c = _ := hc
  obtain rfl : dt = _ := hd
  have len := rv.length
  obtain ⟨i0, ir, rfl⟩ : ∃ i0 ir, its = i0 :: ir := by
    cases its with
    | nil => exact absurd (List.eq_nil_of_length_eq_zero len) ne
    | cons a b => exact ⟨a, b, rfl⟩
  generalize hits : i0 :: ir = its at *
  have hne : its.toArray.isEmpty = false := by subst hits; rfl
  have hsz : its.toArray.size = xs.length := by rw [List.size_toArray, len]
  have hprod : ((its.toArray.size : Nat) : Int) * k ≤ 1000000 := by
    have := Int.mul_le_mul_of_nonneg_right (show ((xs.length : Nat) : Int) ≤ 1000 by omega) (show 0 ≤ k by omega)
    rw [hsz]; omega
  have hfl : (List.replicate k.toNat its).flatten.length ≤ sizeLine := by
    have e : (List.replicate k.toNat its).flatten.length = k.toNat * its.length := PyProof.Rows.lm_len_rep_flat _ _
    have b : k.toNat * its.length ≤ 1000 * 1000 := Nat.mul_le_mul (by omega) (by omega)
    have c : 1000 * 1000 ≤ sizeLine := by decide
    omega
  have inner : wpAny (model X.prog X.w) X.A (call (.builtin "tuple.__mul__") [.ref l, .int k tk]) (EP X pins σ Q) X.xe s :=
    call_meets F.slot_tuple_mul ⟨_, ho, rfl⟩ F.entry_tuple_mul (F.args_tuple_mul_2 _ _)
      (tuple_mulW l its.toArray n dd sl k tk (Bool.or_eq_false_iff.mpr ⟨decide_eq_false (by omega), decide_eq_false (by omega)⟩) (Bool.or_eq_false_iff.mpr ⟨hne, beq_eq_false_iff_ne.mpr (by omega)⟩)
        (Bool.or_eq_false_iff.mpr ⟨decide_eq_false (by omega), hne⟩) (by omega) (by unfold Builtin.Tuple.tupleTooMany; have c : (1000000 : Nat) ≤ sizeLine := (by decide); exact decide_eq_false (by omega)) (by rw [size_rep, List.size_toArray]; exact hfl))
      ⟨ho, by rw [size_rep]; exact MkT.fin (c := s.toks) I (rv.rep k.toNat) (flat_len k3 z) q⟩
  exact wpAny_binaryOp_repeat_ref (T := "tuple") (U := "int") (by decide) ⟨_, ho, rfl⟩ (fun s' => typeIs_int s' k tk) noFill_tuple_mul F.fills_int_mul F.slot_int_rmul repeat_tuple F.slot_int_index.lookup
    (call_meets F.slot_int_rmul (typeIs_int s k tk) F.entry_int_rmul (F.args_int_rmul_2 _ _) (int_rmul_tuple k tk l its.toArray n dd sl) ⟨ho, rfl, ⟨_, ho, rfl⟩, inner⟩)
theorem Gs.mkT {K : KW} {F H : Hp} {σ : St} {ρ : En} {vs : List V} {ds : List D} {Q : VK} (g : Gs K F H σ ρ) (z : vs.length ≤ sizeLine) (r : DpAll K F vs ds)
    (q : ∀ v F' H', Gs K F' H' σ ρ → Fw F H σ ρ F' H' σ ρ → Dp K F' v (.tuple ds) → Q v H') : MkT vs H Q := fun p o hp ho => by
  obtain ⟨g1, f1, dp⟩ := g.putTup hp (o := o) ho z r
  exact ⟨_, hoT_or o vs ds, q _ _ _ g1 f1 dp⟩
theorem Gs.mkK {K : KW} {F H : Hp} {σ : St} {ρ : En} {vs : List V} {ds : List D} {Q : VK} {p : Addr} (g : Gs K F H σ ρ) (hp : H p = none) (z : vs.length ≤ sizeLine) (r : DpAll K F vs ds) (hk : kOk ds = true)
    (q : ∀ v F' H', Gs K F' H' σ ρ → Fw F H σ ρ F' H' σ ρ → Dp K F' v (.tuple ds) → Q v H') : Q (.ref p) (upd H p (.tup vs)) := by
  obtain ⟨g1, f1, dp⟩ := g.putTup hp (o := { cls := .none, data := .plain }) rfl z r
  have e : hoT { cls := .none, data := .plain } vs ds = .tup vs := if_pos hk
  rw [e] at g1 f1 dp
  exact q _ _ _ g1 f1 dp
end FL
end L2

/-! FL2k: dicts whose keys are tuples of any kind -/
namespace L2
namespace FL
open PySem PySem.Spec PyProof.Rows
section
variable {X : Cx} {pins : List (Addr × Obj)} {σ : St} {H F : Hp} {s : Shared}
mutual
theorem nested_of (I : Inv X pins σ H s) (hs : Same F H) : ∀ {v : V} {d : D} {k : NestedKey} {u : Value}, Dp (kw X) F v d → nkOf d = some k → RelV v u → NestedIs s.heap k u
  | _, _, _, _, .non, e, r => by cases e; obtain rfl := r; exact .none
  | _, _, _, _, .bl b, e, r => by cases e; obtain rfl := r; exact .bool rfl
  | _, _, _, _, .int i, e, r => by cases e; obtain ⟨t, rfl⟩ := r; exact .int i t
  | _, _, _, _, .str x, e, r => by cases e; obtain ⟨t, rfl⟩ := r; exact .text x t
  | _, _, _, _, .lst q r, e, _ => by cases e
  | _, _, _, _, .tup q w, e, r => by
    obtain ⟨ks, e1, rfl⟩ := Option.map_eq_some_iff.mp (show (nksOf _).map NestedKey.tup = some _ from e)
    obtain rfl := r
    obtain ⟨its, rv, ⟨o, ho, hc, n, hd⟩, _⟩ := I.tuple (SqT.up q.sq hs)
    exact .tup ho hc hd (nested_all I hs w e1 rv)
  | _, _, _, _, .scr q r, e, _ => by cases e
  | _, _, _, _, .wpr q r r', e, _ => by cases e
  | _, _, _, _, .dic q r, e, _ => by cases e
  | _, _, _, _, .dit q r, e, _ => by cases e
theorem nested_all (I : Inv X pins σ H s) (hs : Same F H) : ∀ {vs : List V} {ds : List D} {ks : List NestedKey} {us : List Value}, DpAll (kw X) F vs ds → nksOf ds = some ks → Vals vs us → NestedAll s.heap ks us
  | _, _, _, _, .nil, e, r => by cases e; cases r; exact .nil
  | _, _, _, _, .cons q w, e, r => by
    cases r with
    | cons r1 r2 =>
      unfold nksOf at e
      split at e
      · cases e
        exact .cons (nested_of I hs q (by assumption) r1) (nested_all I hs w (by assumption) r2)
      · cases e
end
end
def lookN (kvs : List (D × D)) (k : NestedKey) : Option D := (kvs.find? fun p => decide (nkOf p.1 = some k)).map (·.2)
def putN (kvs : List (D × D)) (dk : D) (k : NestedKey) (d : D) : List (D × D) := if (lookN kvs k).isSome = true then kvs.map (fun p => if nkOf p.1 = some k then (p.1, d) else p) else kvs ++ [(dk, d)]
section
variable {K : KW} {F : Hp}
theorem DtR.length : ∀ {es : List NkE} {kvs : List (D × D)}, DtR K F es kvs → es.length = kvs.length
  | _, _, .nil => rfl
  | _, _, .cons _ _ _ _ _ r => congrArg Nat.succ (DtR.length r)
theorem DtR.look (k : NestedKey) : ∀ {es : List NkE} {kvs : List (D × D)}, DtR K F es kvs → (atKey es k = none ∧ lookN kvs k = none) ∨ ∃ p v d, atKey es k = some p ∧ lookN kvs k = some d ∧ RelV v p.2 ∧ Dp K F v d
  | _, _, .nil => .inl ⟨rfl, rfl⟩
  | _, _, .cons (k := j) (b := b) (u := u) (v := v) (dk := dk) (d := d) (r := r) (r' := r') q0 e1 e2 rv q t => by
    by_cases e : j = k
    · subst e
      refine .inr ⟨(b, u), v, d, ?_, ?_, rv, q⟩
      · unfold atKey
        rw [List.find?_cons_of_pos (by simp)]
        rfl
      · unfold lookN
        rw [List.find?_cons_of_pos (by simp [e1])]
        rfl
    · have h1 : atKey ((j, b, u) :: r) k = atKey r k := by
        unfold atKey
        rw [List.find?_cons_of_neg (by simp [e])]
      have h2 : lookN ((dk, d) :: r') k = lookN r' k := by
        unfold lookN
        rw [List.find?_cons_of_neg (by simp [e1, e])]
      rw [h1, h2]
      exact DtR.look k t
theorem DtR.lookS (k : NestedKey) {es : List NkE} {kvs : List (D × D)} (r : DtR K F es kvs) : (atKey es k).isSome = (lookN kvs k).isSome := by
  rcases DtR.look k r with ⟨h1, h2⟩ | ⟨_, _, _, h1, h2, _⟩ <;> rw [h1, h2] <;> rfl
theorem DtR.append : ∀ {es es' : List NkE} {kvs kvs' : List (D × D)}, DtR K F es kvs → DtR K F es' kvs' → DtR K F (es ++ es') (kvs ++ kvs')
  | _, _, _, _, .nil, s => s
  | _, _, _, _, .cons a b c d e t, s => .cons a b c d e (DtR.append t s)
theorem DtR.repl (k : NestedKey) {v : V} {u : Value} {d : D} (rv : RelV v u) (h : Dp K F v d) : ∀ {es : List NkE} {kvs : List (D × D)}, DtR K F es kvs → DtR K F (es.map (putAt k u)) (kvs.map fun p => if nkOf p.1 = some k then (p.1, d) else p)
  | _, _, .nil => .nil
  | _, _, .cons (k := j) q0 e1 e2 rv' q t => by
    rw [List.map_cons, List.map_cons]
    unfold putAt
    by_cases e : j = k
    · rw [if_pos e, if_pos (by rw [e1, e])]
      exact .cons q0 e1 e2 rv h (DtR.repl k rv h t)
    · rw [if_neg e, if_neg (by rw [e1]; exact fun z => e (Option.some.inj z))]
      exact .cons q0 e1 e2 rv' q (DtR.repl k rv h t)
theorem DtR.put {k : NestedKey} {b : Addr} {dk : D} (q0 : Dp K F (.ref b) dk) (e1 : nkOf dk = some k) (e2 : k.depth ≤ 8) {v : V} {u : Value} {d : D} (rv : RelV v u) (h : Dp K F v d) {es : List NkE} {kvs : List (D × D)} (r : DtR K F es kvs) : DtR K F (storedH es k b u) (putN kvs dk k d) := by
  unfold storedH putN
  rw [DtR.lookS k r]
  split
  · exact DtR.repl k rv h r
  · exact DtR.append r (.cons q0 e1 e2 rv h .nil)
theorem len_storedH (es : List NkE) (k : NestedKey) (b : Addr) (u : Value) : (storedH es k b u).length ≤ es.length + 1 := by
  unfold storedH
  split
  · rw [List.length_map]; omega
  · rw [List.length_append]; exact Nat.le_refl _
theorem Dp.ditOf {v : V} {kvs : List (D × D)} (h : Dp K F v (.dict ((.bool true, .none) :: kvs))) : ∃ a es, v = .ref a ∧ F a = some (kdO K.w a es) ∧ DtR K F es kvs := by
  generalize e : PyData.dict ((.bool true, .none) :: kvs) = z at h
  cases h with
  | scr q r => cases e
  | wpr q r r' => cases e
  | dic q r =>
    cases e
    generalize e2 : ((PyData.bool true, PyData.none) :: kvs) = y at r
    cases r with
    | nil => cases e2
    | @cons k _ _ _ _ _ _ => cases k <;> cases e2
  | dit q r => cases e; exact ⟨_, _, rfl, q, r⟩
  | _ => cases e
theorem Cel.dt {H : Hp} {a : Addr} {kvs : List (D × D)} (c : Cel K F H a (.dict ((.bool true, .none) :: kvs))) : ∃ es, H a = some (kdO K.w a es) ∧ DtR K F es kvs := by
  rcases c with ⟨es, q, r⟩ | ⟨es, k, e0, q, r⟩
  · generalize e2 : ((PyData.bool true, PyData.none) :: kvs) = y at r
    cases r with
    | nil => cases e2
    | @cons k _ _ _ _ _ _ => cases k <;> cases e2
  · cases e0
    exact ⟨es, q, r⟩
end
section
variable {X : Cx} {pins : List (Addr × Obj)} {σ : St} {H F : Hp} {s : Shared} {a : Addr} {es : List NkE} {kvs : List (D × D)}
theorem DtR.keys (I : Inv X pins σ H s) (hs : Same F H) : ∀ {es : List NkE} {kvs : List (D × D)}, DtR (kw X) F es kvs → ∀ x ∈ es, (nestedKind X.prog X.w).is s.heap x.1 x.2.1
  | _, _, .nil => fun x hx => nomatch hx
  | _, _, .cons q0 e1 e2 _ _ t => fun x hx => by
    rcases List.mem_cons.mp hx with rfl | hx
    · exact ⟨nested_of I hs q0 e1 rfl, e2⟩
    · exact DtR.keys I hs t x hx
theorem kd_of (I : Inv X pins σ H s) (hs : Same F H) (h : H a = some (kdO X.w a es)) (r : DtR (kw X) F es kvs) : (a == sysModules) = false ∧ es.length ≤ sizeLine ∧ s.heap.DictOfH (nestedKind X.prog X.w) a es := by
  obtain ⟨⟨h1, h2, h3, o, en, ep, h4, h5, h6, h7⟩, _⟩ := I.hok a _ h
  exact ⟨h1, h3, o, en, ep, h4, h5, h6, h7, DtR.keys I hs r, h2⟩
theorem kd_ok {H' : Hp} {h' : Heap} (h1 : (a == sysModules) = false) (h3 : es.length ≤ sizeLine) (m : h'.DictOfH (nestedKind X.prog X.w) a es) : ObjOk X.prog X.w H' h' a (kdO X.w a es) := by
  obtain ⟨o, en, ep, h4, h5, h6, h7, h8, h2⟩ := m
  refine ⟨⟨h1, h2, h3, o, en, ep, h4, h5, h6, h7⟩, ⟨o, h4⟩, ?_⟩
  rintro k1 k2 ⟨g1, g2, g3, o, en, ep, g4, g⟩ st
  exact ⟨g1, g2, g3, o, en, ep, st o g4, g⟩
theorem kd_room (hu : X.A.units + 65 < cLine) : (nestedKind X.prog X.w).room X.A.in1 := by
  show X.A.units + 1 + 8 < cLine
  omega
section
variable {v : V} {dk : D} {k : NestedKey} {u : Value}
theorem ref_of_nk {K : KW} (h : Dp K F v dk) (e : nkOf dk = some k) (ht : ∃ l, dk = .tuple l) : ∃ b, v = .ref b := by
  obtain ⟨l, rfl⟩ := ht
  obtain ⟨b, _, rfl, _⟩ := h.tupOf
  exact ⟨b, rfl⟩
theorem kd_in {E : Value → Shared → Prop} {Q : Value → Shared → Prop} {b : Addr} (hu : X.A.units + 65 < cLine) (I : Inv X pins σ H s) (hs : Same F H) (h : H a = some (kdO X.w a es)) (r : DtR (kw X) F es kvs) (q0 : Dp (kw X) F (.ref b) dk) (e1 : nkOf dk = some k) (e2 : k.depth ≤ 8)
    (hq : ∀ s', Inv X pins σ H s' → Q (.bool (lookN kvs k).isSome) s') : wpAny (model X.prog X.w) X.A (compareOp .In (.ref b) (.ref a)) Q E s := by
  obtain ⟨h1, h2, m⟩ := kd_of I hs h r
  refine wpAny_in_heap (kd_room hu) ⟨nested_of I hs q0 e1 rfl, e2⟩ h1 m ?_
  rw [DtR.lookS k r]
  exact hq _ (I.tok _)
theorem kd_notIn {E : Value → Shared → Prop} {Q : Value → Shared → Prop} {b : Addr} (hu : X.A.units + 65 < cLine) (I : Inv X pins σ H s) (hs : Same F H) (h : H a = some (kdO X.w a es)) (r : DtR (kw X) F es kvs) (q0 : Dp (kw X) F (.ref b) dk) (e1 : nkOf dk = some k) (e2 : k.depth ≤ 8)
    (hq : ∀ s', Inv X pins σ H s' → Q (.bool (!(lookN kvs k).isSome)) s') : wpAny (model X.prog X.w) X.A (compareOp .NotIn (.ref b) (.ref a)) Q E s := by
  obtain ⟨h1, h2, m⟩ := kd_of I hs h r
  refine notIn_keyed (kd_room hu) ⟨nested_of I hs q0 e1 rfl, e2⟩ h1 ⟨_, m, rfl⟩ ?_
  rw [valueAt_pairsH, Option.isSome_map, DtR.lookS k r]
  exact hq _ (I.tok _)
theorem kd_get {E : Value → Shared → Prop} {Q : Value → Shared → Prop} {b : Addr} {d : D} (hu : X.A.units + 65 < cLine) (I : Inv X pins σ H s) (hs : Same F H) (h : H a = some (kdO X.w a es)) (r : DtR (kw X) F es kvs) (q0 : Dp (kw X) F (.ref b) dk) (e1 : nkOf dk = some k) (e2 : k.depth ≤ 8)
    (hl : lookN kvs k = some d) (hq : ∀ v u s', Inv X pins σ H s' → RelV v u → Dp (kw X) F v d → Q u s') : wpAny (model X.prog X.w) X.A (getItem (.ref a) (.ref b)) Q E s := by
  obtain ⟨h1, h2, m⟩ := kd_of I hs h r
  rcases DtR.look k r with ⟨_, w2⟩ | ⟨p, v, d', w1, w2, w3, w4⟩
  · rw [w2] at hl; cases hl
  · rw [w2] at hl; cases hl
    exact wpAny_getItem_heap (kd_room hu) ⟨nested_of I hs q0 e1 rfl, e2⟩ m w1 (hq v _ _ (I.tok _) w3 w4)
theorem kd_put {E : Value → Shared → Prop} {Q : Unit → Shared → Prop} {b : Addr} {u : Value} (hu : X.A.units + 65 < cLine) (I : Inv X pins σ H s) (hs : Same F H) (h : H a = some (kdO X.w a es)) (r : DtR (kw X) F es kvs) (q0 : Dp (kw X) F (.ref b) dk) (e1 : nkOf dk = some k) (e2 : k.depth ≤ 8) (hl : es.length < sizeLine)
    (hq : ∀ s', Inv X pins σ (upd H a (kdO X.w a (storedH es k b u))) s' → Q () s') : wpAny (model X.prog X.w) X.A (setItem (.ref a) (.ref b) u) Q E s := by
  obtain ⟨h1, h2, m⟩ := kd_of I hs h r
  refine wpAny_setItem_heap (kd_room hu) ⟨nested_of I hs q0 e1 rfl, e2⟩ m (fun h' m' sb => ?_) h2
  have z : (storedH es k b u).length ≤ sizeLine := Nat.le_trans (len_storedH es k b u) hl
  have he : ∃ q, h'.get? a = some q := let ⟨o, _, _, g, _⟩ := m'; ⟨o, g⟩
  exact hq _ (d_write I (by rw [h]; exact trivial) sb he (kd_ok h1 z m'))
end
end
def isTupD : D → Bool
  | .tuple _ => true
  | _ => false
theorem isTupD_of {d : D} (h : isTupD d = true) : ∃ l, d = .tuple l := by
  cases d <;> first | exact ⟨_, rfl⟩ | cases h
/-- a key that a keyed dict takes -/
def nkT (d : D) : Option NestedKey := if isTupD d = true then match nkOf d with
  | some k => if k.depth ≤ 8 then some k else none
  | none => none
  else none
theorem nkT_of {d : D} {k : NestedKey} (h : nkT d = some k) : (∃ l, d = .tuple l) ∧ nkOf d = some k ∧ k.depth ≤ 8 := by
  unfold nkT at h
  split at h
  · rename_i ht
    refine ⟨isTupD_of ht, ?_⟩
    split at h
    · rename_i k' hk
      split at h
      · cases h; exact ⟨hk, by assumption⟩
      · cases h
    · cases h
  · cases h
end FL
end L2

/-! FL3: operators and comparisons over data -/
namespace L2
namespace FL
open PySem PySem.Spec PyProof.Rows
section
variable {K : KW} {F H : Hp} {σ : St} {ρ : En}
def strA (a b : Str) : Option D := if a.length + b.length ≤ sizeLine then some (.str (a ++ b)) else none
def fAdd : D → D → Option D
  | .int i, .int j => some (.int (i + j))
  | .str a, .str b => strA a b
  | .tuple a, .tuple b => if a.length + b.length ≤ sizeLine then some (.tuple (a ++ b)) else none
  | .list a, .list b => if a.length + b.length ≤ sizeLine then some (.list (a ++ b)) else none
  | _, _ => none
def fSub : D → D → Option D
  | .int i, .int j => some (.int (i - j))
  | _, _ => none
def fMul : D → D → Option D
  | .int i, .int j => if i.natAbs < 2 ^ 64 ∨ j.natAbs < 2 ^ 64 then some (.int (i * j)) else none
  | .tuple a, .int k => if a ≠ [] ∧ 2 ≤ k ∧ k ≤ 1000 ∧ a.length ≤ 1000 then some (.tuple (List.replicate k.toNat a).flatten) else none
  | .list a, .int k => if -(2 ^ 62) ≤ k ∧ k < 2 ^ 62 ∧ a.length * k.toNat ≤ sizeLine then some (.list (List.replicate k.toNat a).flatten) else none
  | _, _ => none
def fFdiv : D → D → Option D
  | .int i, .int j => if 0 < j ∧ j.natAbs.log2 < 9000 then some (.int (i / j)) else none
  | _, _ => none
def fMod : D → D → Option D
  | .int i, .int j => if 0 < j then some (.int (i % j)) else none
  | _, _ => none
def fPow : D → D → Option D
  | .int i, .int j => if 0 ≤ j ∧ j ≤ 1000000 ∧ i.natAbs < 2 ^ 64 then some (.int (i ^ j.toNat)) else none
  | _, _ => none
def fEq (a b : D) : Option D := if SeqAt.shaped a = true ∧ SeqAt.shaped b = true then some (.bool (PyData.eqv a b)) else none
def fNe (a b : D) : Option D := if SeqAt.shaped a = true ∧ SeqAt.shaped b = true then some (.bool (!PyData.eqv a b)) else none
def fCI (p : Int → Int → Bool) (q : List Nat → List Nat → Bool) : D → D → Option D
  | .int i, .int j => some (.bool (p i j))
  | .str a, .str b => some (.bool (q a.cps.toList b.cps.toList))
  | _, _ => none
def fLt := fCI (fun i j => decide (i < j)) fun a b => decide (a < b)
def fLe := fCI (fun i j => decide (i ≤ j)) fun a b => !decide (b < a)
def fGt := fCI (fun i j => decide (j < i)) fun a b => decide (b < a)
def fGe := fCI (fun i j => decide (j ≤ i)) fun a b => !decide (a < b)
def fIsN : D → D → Option D
  | d, .none => some (.bool (match d with | .none => true | _ => false))
  | .bool a, .bool b => some (.bool (a == b))
  | _, _ => none
def fNotN : D → D → Option D
  | d, .none => some (.bool (match d with | .none => false | _ => true))
  | .bool a, .bool b => some (.bool (!(a == b)))
  | _, _ => none
theorem ite_some {α : Type} {c : Prop} [Decidable c] {x y : α} (h : (if c then some x else none) = some y) : c ∧ x = y := by
  split at h
  · cases h; exact ⟨by assumption, rfl⟩
  · cases h
def inD (x : D) : D → Option Bool
  | .list ds => if SeqAt.shaped x = true ∧ SeqAt.shaped (.list ds) = true then some (ds.any fun z => PyData.eqv z x) else none
  | .tuple ds => if SeqAt.shaped x = true ∧ SeqAt.shaped (.tuple ds) = true then some (ds.any fun z => PyData.eqv z x) else none
  | .str z => match x with
    | .str c => match c.cps.toList with
      | [n] => some (decide (n ∈ z.cps.toList))
      | _ => none
    | _ => none
  | .dict kvs => match keyOf x with
    | some k => if okK kvs = true then some (lookK kvs k).isSome else none
    | none => match kvs, nkT x with
      | (.bool true, .none) :: r, some k => some (lookN r k).isSome
      | _, _ => none
  | _ => none
def fIn (x y : D) : Option D := (inD x y).map .bool
def fNotIn (x y : D) : Option D := (inD x y).map fun b => .bool !b
variable {X : Cx}
/-- a list + a list, read or tracked -/
theorem op_catR : OpR X (binaryOp .Add) (fun x y H Q => ∃ l b xs zs, x = .ref l ∧ y = .ref b ∧ Rd H l (.lst xs) ∧ Rd H b (.lst zs) ∧ xs.length + zs.length ≤ sizeLine ∧ ∀ p, H p = none → Q (.ref p) (upd H p (.lst (xs ++ zs)))) := by
  intro pins s σ H x y v u Q I rx ry h
  obtain ⟨l, b, xs, zs, rfl, rfl, hH, hB, hz, q⟩ := h
  cases rx
  cases ry
  obtain ⟨z, its, n, r, e⟩ := hH.ok I.hok
  obtain ⟨z2, its2, n2, r2, e2⟩ := hB.ok I.hok
  have hl := r.length
  have hl2 := r2.length
  refine PySem.P.add_list e e2 ?_ (by rw [List.size_toArray, List.size_toArray]; omega)
  have ea : its.toArray ++ its2.toArray = (its ++ its2).toArray := by simp
  rw [ea]
  exact ⟨.ref _, _, I.lnew (t' := s.toks) (r.append r2) (by rw [List.length_append]; omega), rfl, q _ I.fresh⟩
theorem op_repR : OpR X (binaryOp .Mult) (fun x y H Q => ∃ l k xs, x = .ref l ∧ y = .int k ∧ Rd H l (.lst xs) ∧ -(2 ^ 63) ≤ k ∧ k < 2 ^ 63 ∧ xs.length * k.toNat ≤ sizeLine ∧
  ∀ p, H p = none → Q (.ref p) (upd H p (.lst (List.replicate k.toNat xs).flatten))) := by
  intro pins s σ H x y v u Q I rx ry h
  obtain ⟨l, k, xs, rfl, rfl, hH, h1, h2, hz, q⟩ := h
  cases rx
  obtain ⟨t, rfl⟩ := ry
  obtain ⟨z, its, n, r, e⟩ := hH.ok I.hok
  have hl := r.length
  have hlen : its.toArray.size * k.toNat ≤ sizeLine := by rw [List.size_toArray, ← hl]; exact hz
  have hcap : ¬ its.toArray.size * k.toNat > (2 ^ 63 - 1) / 8 := by
    have : (sizeLine : Nat) ≤ (2 ^ 63 - 1) / 8 := by decide
    omega
  have hfit : ¬ (!Builtin.List.listFitsIndex k) = true := by
    rw [fitsIndex_both h1 h2]
    exact Bool.false_ne_true
  have hlong : ¬ Builtin.List.listTooLong (its.toArray.size * k.toNat) = true := by
    rw [notLongL hlen]
    exact Bool.false_ne_true
  have hnew : List.foldl (fun x1 x2 => x1 ++ x2) #[] (List.replicate (if its.toArray.isEmpty = true then 0 else k.toNat) its.toArray) = (List.replicate k.toNat its).flatten.toArray := by
    have f0 : ∀ m : Nat, List.foldl (fun x1 x2 => x1 ++ x2) #[] (List.replicate m its.toArray) = (List.replicate m its).flatten.toArray := fun m => by
      have := foldl_rep its m []
      rw [List.nil_append] at this
      exact this
    rw [f0]
    cases its with
    | nil => simp
    | cons a r' => rw [if_neg (by simp)]
  refine wpAny_binaryOp_repeat_ref (T := "list") (U := "int") (by decide) ⟨_, e, rfl⟩ (fun s' => typeIs_int s' k t) noFill_list_mul F.fills_int_mul F.slot_int_rmul repeat_list F.slot_int_index.lookup
    (call_meets F.slot_int_rmul (typeIs_int s k t) F.entry_int_rmul (F.args_int_rmul_2 _ _) (int___rmul___int_list k t l its.toArray n)
      ⟨e, rfl, ⟨_, e, rfl⟩, call_meets F.slot_list_mul ⟨_, e, rfl⟩ F.entry_list_mul (F.args_list_mul_2 _ _) (AutoListH.list___mul___list_int_3 l its.toArray n k t hfit hcap hlong) ⟨e, ?_⟩⟩)
  rw [hnew]
  exact ⟨.ref _, _, I.lnew (t' := s.toks) (r.rep k.toNat) (by rw [PyProof.Rows.lm_len_rep_flat, Nat.mul_comm]; exact hz), rfl, q _ I.fresh⟩
theorem OpR.run {f : Value → Value → Sem Value} {r : R2} (h : OpR X f r) {pins : List (Addr × Obj)} {s : Shared} {σ : St} {H : Hp} {x y : V} {v u : Value} {Q : VK} (I : Inv X pins σ H s) (rx : RelV x v) (ry : RelV y u) (q : r x y H Q) :
    wpAny (model X.prog X.w) X.A (f v u) (EP X pins σ Q) X.xe s := h pins s σ H x y v u Q I rx ry q
theorem od_add : OpD X (binaryOp .Add) fAdd := by
  intro pins s σ0 H x y v u Q I rx ry h
  obtain ⟨F, σ, ρ, dx, dy, d, g, px, py, e, q⟩ := h
  unfold fAdd at e
  split at e
  · cases e; cases px; cases py
    exact op_add pins s σ0 H _ _ v u Q I rx ry ⟨_, _, rfl, rfl, q _ F H g Fw.refl (.int _)⟩
  · unfold strA at e
    split at e <;> cases e
    cases px; cases py
    exact op_add_str pins s σ0 H _ _ v u Q I rx ry ⟨_, _, rfl, rfl, by assumption, q _ F H g Fw.refl (.str _)⟩
  · split at e <;> cases e
    rename_i hz
    obtain ⟨a, xs, rfl, qa, ra⟩ := px.tupOf
    obtain ⟨b, ys, rfl, qb, rb⟩ := py.tupOf
    have l1 := DpAll.length ra
    have l2 := DpAll.length rb
    have hz' : xs.length + ys.length ≤ sizeLine := by omega
    refine op_catF pins s σ0 H _ _ v u Q I rx ry ⟨a, b, xs, ys, rfl, rfl, SqT.up qa g.le, SqT.up qb g.le, hz', fun e0 => ?_, fun _ e0 => ?_, fun _ _ => g.mkT (by rw [List.length_append]; exact hz') (DpAll.append ra rb) q⟩
    · subst e0; cases ra
      exact q _ F H g Fw.refl py
    · subst e0; cases rb
      rw [List.append_nil] at q
      exact q _ F H g Fw.refl px
  · split at e <;> cases e
    rename_i hz
    obtain ⟨a, xs, rfl, qa, ra⟩ := px.lstOf
    obtain ⟨b, ys, rfl, qb, rb⟩ := py.lstOf
    have l1 := DpAll.length ra
    have l2 := DpAll.length rb
    have hz' : xs.length + ys.length ≤ sizeLine := by omega
    refine op_catR pins s σ0 H _ _ v u Q I rx ry ⟨a, b, xs, ys, rfl, rfl, Rd.up qa g.le, Rd.up qb g.le, hz', fun p hp => ?_⟩
    obtain ⟨g1, f1, dp⟩ := g.putList hp (vs := xs ++ ys) (by rw [List.length_append]; exact hz') (DpAll.append ra rb)
    exact q _ _ _ g1 f1 dp
  · cases e
theorem od_sub : OpD X (binaryOp .Sub) fSub := by
  intro pins s σ0 H x y v u Q I rx ry h
  obtain ⟨F, σ, ρ, dx, dy, d, g, px, py, e, q⟩ := h
  unfold fSub at e
  split at e
  · cases e; cases px; cases py
    exact op_sub pins s σ0 H _ _ v u Q I rx ry ⟨_, _, rfl, rfl, q _ F H g Fw.refl (.int _)⟩
  · cases e
theorem od_mul : OpD X (binaryOp .Mult) fMul := by
  intro pins s σ0 H x y v u Q I rx ry h
  obtain ⟨F, σ, ρ, dx, dy, d, g, px, py, e, q⟩ := h
  unfold fMul at e
  split at e
  · split at e <;> cases e
    cases px; cases py
    rename_i hz
    exact op_mul pins s σ0 H _ _ v u Q I rx ry ⟨_, _, rfl, rfl, by
      unfold CMul
      rcases hz with hz | hz
      · exact .inl (by omega)
      · exact .inr (by omega), q _ F H g Fw.refl (.int _)⟩
  · split at e <;> cases e
    rename_i hz
    obtain ⟨a, xs, rfl, qa, ra⟩ := px.tupOf
    cases py
    have l1 := DpAll.length ra
    exact op_repF pins s σ0 H _ _ v u Q I rx ry ⟨a, _, xs, rfl, rfl, SqT.up qa g.le, fun z => hz.1 (by subst z; cases ra; rfl), hz.2.1, hz.2.2.1, by omega, g.mkT (flat_len hz.2.2.1 (by omega)) (DpAll.rep ra _) q⟩
  · split at e <;> cases e
    rename_i hz
    obtain ⟨a, xs, rfl, qa, ra⟩ := px.lstOf
    cases py
    have l1 := DpAll.length ra
    refine op_repR pins s σ0 H _ _ v u Q I rx ry ⟨a, _, xs, rfl, rfl, Rd.up qa g.le, by omega, by omega, by rw [l1]; exact hz.2.2, fun p hp => ?_⟩
    have z : ∀ k : Int, xs.length * k.toNat ≤ sizeLine → (List.replicate k.toNat xs).flatten.length ≤ sizeLine := fun k hk => by
      rw [PyProof.Rows.lm_len_rep_flat, Nat.mul_comm]; exact hk
    obtain ⟨g1, f1, dp⟩ := g.putList hp (z _ (by rw [l1]; exact hz.2.2)) (DpAll.rep ra _)
    exact q _ _ _ g1 f1 dp
  · cases e
theorem od_fdiv : OpD X (binaryOp .FloorDiv) fFdiv := by
  intro pins s σ0 H x y v u Q I rx ry h
  obtain ⟨F, σ, ρ, dx, dy, d, g, px, py, e, q⟩ := h
  unfold fFdiv at e
  split at e
  · split at e <;> cases e
    cases px; cases py
    exact op_fdivW pins s σ0 H _ _ v u Q I rx ry ⟨_, _, rfl, rfl, by assumption, q _ F H g Fw.refl (.int _)⟩
  · cases e
theorem od_mod : OpD X (binaryOp .Mod) fMod := by
  intro pins s σ0 H x y v u Q I rx ry h
  obtain ⟨F, σ, ρ, dx, dy, d, g, px, py, e, q⟩ := h
  unfold fMod at e
  split at e
  · split at e <;> cases e
    cases px; cases py
    exact op_mod pins s σ0 H _ _ v u Q I rx ry ⟨_, _, rfl, rfl, by assumption, q _ F H g Fw.refl (.int _)⟩
  · cases e
theorem od_pow : OpD X (binaryOp .Pow) fPow := by
  intro pins s σ0 H x y v u Q I rx ry h
  obtain ⟨F, σ, ρ, dx, dy, d, g, px, py, e, q⟩ := h
  unfold fPow at e
  split at e
  · split at e <;> cases e
    cases px; cases py
    exact op_pow pins s σ0 H _ _ v u Q I rx ry ⟨_, _, rfl, rfl, by assumption, q _ F H g Fw.refl (.int _)⟩
  · cases e
theorem od_eq (hu : X.A.units + 64 < cLine) : OpD X (compareOp .Eq) fEq := by
  intro pins s σ0 H x y v u Q I rx ry h
  obtain ⟨F, σ, ρ, dx, dy, d, g, px, py, e, q⟩ := h
  unfold fEq at e
  split at e <;> cases e
  rename_i hs
  exact op_eqD hu pins s σ0 H _ _ v u Q I rx ry ⟨_, _, (Dp.mono g.le px).toL (SeqAt.canLay_of_shaped hs.1), (Dp.mono g.le py).toL (SeqAt.canLay_of_shaped hs.2), hs.1, hs.2, q _ F H g Fw.refl (.bl _)⟩
theorem od_ne (hu : X.A.units + 64 < cLine) : OpD X (compareOp .NotEq) fNe := by
  intro pins s σ0 H x y v u Q I rx ry h
  obtain ⟨F, σ, ρ, dx, dy, d, g, px, py, e, q⟩ := h
  unfold fNe at e
  split at e <;> cases e
  rename_i hs
  exact op_neD hu pins s σ0 H _ _ v u Q I rx ry ⟨_, _, (Dp.mono g.le px).toL (SeqAt.canLay_of_shaped hs.1), (Dp.mono g.le py).toL (SeqAt.canLay_of_shaped hs.2), hs.1, hs.2, q _ F H g Fw.refl (.bl _)⟩
theorem od_ci {op : CmpOp} {p : Int → Int → Bool} {q' : List Nat → List Nat → Bool} (h1 : OpR X (compareOp op) (rI0 fun i j => .bl (p i j)))
    (h2 : OpR X (compareOp op) (fun x y H Q => ∃ i j, x = .str i ∧ y = .str j ∧ Q (.bl (q' i.cps.toList j.cps.toList)) H)) : OpD X (compareOp op) (fCI p q') := by
  intro pins s σ0 H x y v u Q I rx ry h
  obtain ⟨F, σ, ρ, dx, dy, d, g, px, py, e, q⟩ := h
  unfold fCI at e
  split at e
  · cases e; cases px; cases py
    exact h1 pins s σ0 H _ _ v u Q I rx ry ⟨_, _, rfl, rfl, q _ F H g Fw.refl (.bl _)⟩
  · cases e; cases px; cases py
    exact h2 pins s σ0 H _ _ v u Q I rx ry ⟨_, _, rfl, rfl, q _ F H g Fw.refl (.bl _)⟩
  · cases e
theorem od_lt : OpD X (compareOp .Lt) fLt := od_ci op_lt op_lt_str
theorem od_le : OpD X (compareOp .LtE) fLe := od_ci op_le op_le_str
theorem od_gt : OpD X (compareOp .Gt) fGt := od_ci op_gt op_gt_str
theorem od_ge : OpD X (compareOp .GtE) fGe := od_ci op_ge op_ge_str
theorem bl_beq (a b : Bool) : (Value.bool a == Value.bool b) = (a == b) := by
  cases a <;> cases b <;> decide
theorem od_isN : OpD X (compareOp .Is) fIsN := by
  intro pins s σ0 H x y v u Q I rx ry h
  obtain ⟨F, σ, ρ, dx, dy, d, g, px, py, e, q⟩ := h
  unfold fIsN at e
  split at e
  · cases py
    refine op_isN pins s σ0 H _ _ v u Q I rx ry ⟨rfl, ?_⟩
    cases e
    cases px <;> exact q _ F H g Fw.refl (.bl _)
  · rename_i a b
    cases px
    cases py
    cases e
    cases rx
    cases ry
    exact wpAny_is_plain rfl (fin_bl I (q _ F H g Fw.refl (.bl _)) (bl_beq a b).symm)
  · cases e
theorem od_notN : OpD X (compareOp .IsNot) fNotN := by
  intro pins s σ0 H x y v u Q I rx ry h
  obtain ⟨F, σ, ρ, dx, dy, d, g, px, py, e, q⟩ := h
  unfold fNotN at e
  split at e
  · cases py
    refine op_notN pins s σ0 H _ _ v u Q I rx ry ⟨rfl, ?_⟩
    cases e
    cases px <;> exact q _ F H g Fw.refl (.bl _)
  · rename_i a b
    cases px
    cases py
    cases e
    cases rx
    cases ry
    exact wpAny_isNot_plain rfl (fin_bl I (q _ F H g Fw.refl (.bl _)) (congrArg not (bl_beq a b).symm))
  · cases e
theorem str_one {c : Str} {n : Nat} (h : c.cps.toList = [n]) : c = ⟨#[n]⟩ := by
  obtain ⟨a⟩ := c
  obtain ⟨l⟩ := a
  cases h
  rfl
theorem lay_tuple {ds : List D} (h : SeqAt.shaped (.tuple ds) = true) : PyData.canLayAll0 ds = true := by
  have := SeqAt.canLay_of_shaped h
  simpa [PyData.canLay0] using this
theorem room_inT {d : D} {ds : List D} (h : SeqAt.shaped d = true) (hu : X.A.units + 65 < cLine) : X.A.units + 1 + min (PyData.depthAll ds) d.depth < cLine := by
  have h1 := SeqAt.depth_of_shaped h
  have h2 : min (PyData.depthAll ds) d.depth ≤ d.depth := Nat.min_le_right _ _
  omega
theorem od_in (hu : X.A.units + 65 < cLine) : OpD X (compareOp .In) fIn := by
  intro pins s σ0 H x y v u Q I rx ry h
  obtain ⟨F, σ, ρ, dx, dy, d, g, px, py, e, q⟩ := h
  unfold fIn at e
  obtain ⟨b, e1, rfl⟩ := Option.map_eq_some_iff.mp e
  unfold inD at e1
  split at e1
  · split at e1 <;> cases e1
    rename_i hs
    exact op_inD hu pins s σ0 H _ _ v u Q I rx ry ⟨_, _, (Dp.mono g.le px).toL (SeqAt.canLay_of_shaped hs.1), (Dp.mono g.le py).toL (SeqAt.canLay_of_shaped hs.2), hs.1, hs.2, q _ F H g Fw.refl (.bl _)⟩
  · split at e1 <;> cases e1
    rename_i hs
    obtain ⟨as, r1⟩ := L2.Dp.reads I _ x v ((Dp.mono g.le px).toL (SeqAt.canLay_of_shaped hs.1)) rx
    obtain ⟨bs, r2⟩ := L2.Dp.reads I _ y u ((Dp.mono g.le py).toL (SeqAt.canLay_of_shaped hs.2)) ry
    exact SeqAt.in_tuple_reads r2 r1 (lay_tuple hs.2) (SeqAt.canLay_of_shaped hs.1) (room_inT hs.1 hu) ⟨.bl _, H, I, rfl, q _ F H g Fw.refl (.bl _)⟩
  · split at e1
    · split at e1
      · rename_i hc
        cases e1
        obtain rfl := str_one hc
        cases px; cases py
        exact op_in_sign pins s σ0 H _ _ v u Q I rx ry ⟨_, _, rfl, rfl, q _ F H g Fw.refl (.bl _)⟩
      · cases e1
    · cases e1
  · split at e1
    · rename_i k hk
      obtain ⟨hok, e1⟩ := ite_some e1
      cases e1
      obtain ⟨a, es, rfl, qa, ra⟩ := py.dictOf hok
      obtain rfl := kV_dp px hk
      cases ry
      have hs := DkR.lookS k ra
      refine d_in (by omega) I (.inl ⟨es, k, Rd.up qa g.le, rfl, rfl⟩) rx fun s' I' => ⟨.bl _, H, I', rfl, ?_⟩
      rw [hs]
      exact q _ F H g Fw.refl (.bl _)
    · split at e1
      · rename_i hk
        cases e1
        obtain ⟨ht, e2, e3⟩ := nkT_of hk
        obtain ⟨a, es, rfl, qa, ra⟩ := py.ditOf
        obtain ⟨b, rfl⟩ := ref_of_nk px e2 ht
        cases ry
        cases rx
        refine kd_in hu I g.le (g.le _ _ qa) ra px e2 e3 fun s' I' => ⟨.bl _, H, I', rfl, q _ F H g Fw.refl (.bl _)⟩
      · cases e1
  · cases e1
theorem od_notIn (hu : X.A.units + 65 < cLine) : OpD X (compareOp .NotIn) fNotIn := by
  intro pins s σ0 H x y v u Q I rx ry h
  obtain ⟨F, σ, ρ, dx, dy, d, g, px, py, e, q⟩ := h
  unfold fNotIn at e
  obtain ⟨b, e1, rfl⟩ := Option.map_eq_some_iff.mp e
  unfold inD at e1
  split at e1
  · split at e1 <;> cases e1
    rename_i hs
    exact op_notInD hu pins s σ0 H _ _ v u Q I rx ry ⟨_, _, (Dp.mono g.le px).toL (SeqAt.canLay_of_shaped hs.1), (Dp.mono g.le py).toL (SeqAt.canLay_of_shaped hs.2), hs.1, hs.2, q _ F H g Fw.refl (.bl _)⟩
  · split at e1 <;> cases e1
    rename_i hs
    obtain ⟨as, r1⟩ := L2.Dp.reads I _ x v ((Dp.mono g.le px).toL (SeqAt.canLay_of_shaped hs.1)) rx
    obtain ⟨bs, r2⟩ := L2.Dp.reads I _ y u ((Dp.mono g.le py).toL (SeqAt.canLay_of_shaped hs.2)) ry
    exact SeqAt.notIn_tuple_reads r2 r1 (lay_tuple hs.2) (SeqAt.canLay_of_shaped hs.1) (room_inT hs.1 hu) ⟨.bl _, H, I, rfl, q _ F H g Fw.refl (.bl _)⟩
  · split at e1
    · split at e1
      · rename_i hc
        cases e1
        obtain rfl := str_one hc
        cases px; cases py
        exact op_notIn_sign pins s σ0 H _ _ v u Q I rx ry ⟨_, _, rfl, rfl, q _ F H g Fw.refl (.bl _)⟩
      · cases e1
    · cases e1
  · split at e1
    · rename_i k hk
      obtain ⟨hok, e1⟩ := ite_some e1
      cases e1
      obtain ⟨a, es, rfl, qa, ra⟩ := py.dictOf hok
      obtain rfl := kV_dp px hk
      cases ry
      have hs := DkR.lookS k ra
      refine d_notIn (by omega) I (.inl ⟨es, k, Rd.up qa g.le, rfl, rfl⟩) rx fun s' I' => ⟨.bl _, H, I', rfl, ?_⟩
      rw [hs]
      exact q _ F H g Fw.refl (.bl _)
    · split at e1
      · rename_i hk
        cases e1
        obtain ⟨ht, e2, e3⟩ := nkT_of hk
        obtain ⟨a, es, rfl, qa, ra⟩ := py.ditOf
        obtain ⟨b, rfl⟩ := ref_of_nk px e2 ht
        cases ry
        cases rx
        refine kd_notIn hu I g.le (g.le _ _ qa) ra px e2 e3 fun s' I' => ⟨.bl _, H, I', rfl, q _ F H g Fw.refl (.bl _)⟩
      · cases e1
  · cases e1
end
theorem Gd.u64 {nm : Nm} {X : Cx} (G : Gd nm X) : X.A.units + 64 < cLine := G.room.units
theorem Gd.u65 {nm : Nm} {X : Cx} (G : Gd nm X) : X.A.units + 65 < cLine := by have := G.room.un; omega
section
variable {nm : Nm}
abbrev eAdd (a b : CE nm) (pos : Pos) : CE nm := eBin .Add fAdd (fun _ _ => od_add) a b pos
abbrev eSub (a b : CE nm) (pos : Pos) : CE nm := eBin .Sub fSub (fun _ _ => od_sub) a b pos
abbrev eMul (a b : CE nm) (pos : Pos) : CE nm := eBin .Mult fMul (fun _ _ => od_mul) a b pos
abbrev eFdiv (a b : CE nm) (pos : Pos) : CE nm := eBin .FloorDiv fFdiv (fun _ _ => od_fdiv) a b pos
abbrev eMod (a b : CE nm) (pos : Pos) : CE nm := eBin .Mod fMod (fun _ _ => od_mod) a b pos
abbrev ePow (a b : CE nm) (pos : Pos) : CE nm := eBin .Pow fPow (fun _ _ => od_pow) a b pos
/-- a comparison's data and its rule -/
structure Cp (nm : Nm) (op : CmpOp) where
  f : D → D → Option D
  h : ∀ X, Gd nm X → OpD X (compareOp op) f
abbrev cEq : Cp nm .Eq := ⟨fEq, fun _ G => od_eq G.u64⟩
abbrev cNe : Cp nm .NotEq := ⟨fNe, fun _ G => od_ne G.u64⟩
abbrev cLt : Cp nm .Lt := ⟨fLt, fun _ _ => od_lt⟩
abbrev cLe : Cp nm .LtE := ⟨fLe, fun _ _ => od_le⟩
abbrev cGt : Cp nm .Gt := ⟨fGt, fun _ _ => od_gt⟩
abbrev cGe : Cp nm .GtE := ⟨fGe, fun _ _ => od_ge⟩
abbrev cIs : Cp nm .Is := ⟨fIsN, fun _ _ => od_isN⟩
abbrev cIsNot : Cp nm .IsNot := ⟨fNotN, fun _ _ => od_notN⟩
abbrev cIn : Cp nm .In := ⟨fIn, fun _ G => od_in G.u65⟩
abbrev cNotIn : Cp nm .NotIn := ⟨fNotIn, fun _ G => od_notIn G.u65⟩
abbrev eC {op : CmpOp} (c : Cp nm op) (a b : CE nm) (pos : Pos) : CE nm := eCmp op c.f c.h a b pos
abbrev tCp {op : CmpOp} (c : Cp nm op) (a b : CE nm) (pos : Pos) : CT nm := tCmpT op c.f c.h a b pos
/-! ### a < b < c -/
def semChain (f f' : D → D → Option D) (ea eb ec : En → Option (D × En)) : En → Option (D × En) := fun ρ => bnd (ea ρ) fun x ρ1 => bnd (eb ρ1) fun y ρ2 =>
  match (f x y).bind asB with
  | some true => bnd (ec ρ2) fun z ρ3 => (f' y z).map fun d => (d, ρ3)
  | some false => some (.bool false, ρ2)
  | none => none
theorem tE_chain {K : KW} {f f' : D → D → Option D} {ea eb ec : En → Option (D × En)} {σ : St} {H : Hp} {Q : VK} (h : tE K (semChain f f' ea eb ec) σ H Q) : tChain (rD K f) (rD K f') (tE K ea) (tE K eb) (tE K ec) σ H Q := by
  obtain ⟨F, ρ, g, d, ρ', e, q⟩ := h
  obtain ⟨x, ρ1, e1, e⟩ := bnd_some e
  obtain ⟨y, ρ2, e2, e⟩ := bnd_some e
  refine ⟨F, ρ, g, x, ρ1, e1, fun v1 F1 H1 g1 f1 d1 => ?_⟩
  refine ⟨F1, ρ1, g1, y, ρ2, e2, fun v2 F2 H2 g2 f2 d2 => ?_⟩
  cases e3 : f x y with
  | none => rw [e3] at e; cases e
  | some z =>
    cases z with
    | bool k =>
      rw [e3] at e
      refine ⟨F2, σ, ρ2, x, y, .bool k, g2, Dp.mono f2.leF d1, d2, e3, fun v F3 H3 g3 f3 d3 => ?_⟩
      cases d3
      refine ⟨k, rfl, ?_⟩
      cases k with
      | false =>
        rw [if_neg Bool.false_ne_true]
        cases e
        exact q _ F3 H3 g3 (f1.trans (f2.trans f3)) (.bl false)
      | true =>
        rw [if_pos rfl]
        have e : bnd (ec ρ2) (fun z ρ3 => (f' y z).map fun d => (d, ρ3)) = some (d, ρ') := e
        obtain ⟨z, ρ3, e4, e⟩ := bnd_some e
        refine ⟨F3, ρ2, g3, z, ρ3, e4, fun v4 F4 H4 g4 f4 d4 => ?_⟩
        cases e5 : f' y z with
        | none => rw [e5] at e; cases e
        | some w =>
          rw [e5] at e; cases e
          exact ⟨F4, σ, ρ', y, z, d, g4, Dp.mono (f3.leF.trans f4.leF) d2, d4, e5, fun v F' H' g5 f5 d5 => q v F' H' g5 (f1.trans (f2.trans (f3.trans (f4.trans f5)))) d5⟩
    | _ => rw [e3] at e; cases e
def eChain {op op' : CmpOp} (c : Cp nm op) (c' : Cp nm op') (a b d : CE nm) (pos : Pos) : CE nm where
  syn := .Compare a.syn [op, op'] [b.syn, d.syn] pos
  sem := semChain c.f c'.f a.sem b.sem d.sem
  pl := rfl
  snd := fun X G => PE.imp (pe_chain (c.h X G) (c'.h X G) (a.snd X G) (b.snd X G) (d.snd X G) (Pl.mark d.pl op')) fun σ H Q h => tE_chain h
def tChainT {op op' : CmpOp} (c : Cp nm op) (c' : Cp nm op') (a b d : CE nm) (pos : Pos) : CT nm where
  syn := .Compare a.syn [op, op'] [b.syn, d.syn] pos
  sem := semT (semChain c.f c'.f a.sem b.sem d.sem)
  snd := fun X G => PT.imp (pt_chain (c.h X G) (c'.h X G) (a.snd X G) (b.snd X G) (d.snd X G) (Pl.mark d.pl op')) fun σ H Q h => tE_chain (tT_of h)
/-- -a -/
def fNeg : D → Option D
  | .int i => some (.int (-i))
  | _ => none
def semUn (f : D → Option D) (e : En → Option (D × En)) : En → Option (D × En) := fun ρ => bnd (e ρ) fun x ρ1 => (f x).map fun d => (d, ρ1)
def eNeg (a : CE nm) (pos : Pos) : CE nm where
  syn := .UnaryOp .USub a.syn pos
  sem := semUn fNeg a.sem
  pl := rfl
  snd := fun X G => PE.imp (pe_un un_neg (a.snd X G)) fun σ H Q h => by
    obtain ⟨F, ρ, g, d, ρ', e, q⟩ := h
    obtain ⟨x, ρ1, e1, e⟩ := bnd_some e
    refine ⟨F, ρ, g, x, ρ1, e1, fun v1 F1 H1 g1 f1 d1 => ?_⟩
    cases x with
    | int i =>
      cases e
      cases d1
      exact ⟨i, rfl, q _ F1 H1 g1 f1 (.int _)⟩
    | _ => cases e
end
end FL
end L2

/-! FL4: arguments, displays, calls, built-ins, subscripts, cells of one's own -/
namespace L2
namespace FL
open PySem PySem.Spec PyProof.Rows
theorem CA_hs {es : List Expr} (h : ∀ e ∈ es, Pl e = true) {e : Expr} (he : Pl e = true) (env : Env) : starEach (e :: es) env = (false, eval e env) :: starEach es env := Pl.star he es env
section
variable {nm : Nm}
def semNil : En → Option (List Ar × En) := fun ρ => some ([], ρ)
def semCons (e : En → Option (D × En)) (a : En → Option (List Ar × En)) : En → Option (List Ar × En) := fun ρ => bnd (e ρ) fun d ρ1 => bnd (a ρ1) fun as ρ2 => some (.d d :: as, ρ2)
def semLend (i : Nat) (a : En → Option (List Ar × En)) : En → Option (List Ar × En) := fun ρ => match ρ[i]? with
  | some (.own _) => bnd (a ρ) fun as ρ2 => some (.o i :: as, ρ2)
  | _ => none
def aNil : CA nm where
  syn := []
  sem := semNil
  pl := fun _ h => nomatch h
  snd := fun X G => PA.imp pa_nil fun σ H Q h => by
    obtain ⟨F, ρ, g, as, ρ', e, q⟩ := h
    cases e
    exact q [] F H g Fw.refl .nil
def aCons (e : CE nm) (a : CA nm) : CA nm where
  syn := e.syn :: a.syn
  sem := semCons e.sem a.sem
  pl := fun x h => by
    rcases List.mem_cons.mp h with rfl | h
    · exact e.pl
    · exact a.pl x h
  snd := fun X G => PA.imp (pa_cons (e.snd X G) (a.snd X G) (Pl.star e.pl _ _)) fun σ H Q h => by
    obtain ⟨F, ρ, g, as, ρ', e0, q⟩ := h
    obtain ⟨x, ρ1, e1, e0⟩ := bnd_some e0
    obtain ⟨as', ρ2, e2, e0⟩ := bnd_some e0
    cases e0
    refine ⟨F, ρ, g, x, ρ1, e1, fun v1 F1 H1 g1 f1 d1 => ?_⟩
    exact ⟨F1, ρ1, g1, as', ρ', e2, fun vs F2 H2 g2 f2 r2 => q _ F2 H2 g2 (f1.trans f2) (.d (Dp.mono f2.leF d1) r2)⟩
theorem tE_slot {K : KW} {F H : Hp} {σ : St} {ρ : En} {i : Nat} {d : D} (g : Gs K F H σ ρ) (h : ρ[i]? = some (.own d)) : ∃ a, σ[i]? = some (some (.ref a)) ∧ F a = none ∧ Cel K F H a d := g.own i d h
/-- a cell of one's own handed to a def that may change it -/
def aLend (i : Nat) (x : Str) (pos : Pos) (a : CA nm) (hN : nm.N[i]? = some x) (hv : visB nm.sc x = true) (hd : (x == ("__debug__" : Str)) = false := by rfl) (hcd : (x == ("__classdict__" : Str)) = false := by rfl) : CA nm where
  syn := .Name x pos :: a.syn
  sem := semLend i a.sem
  pl := fun y h => by
    rcases List.mem_cons.mp h with rfl | h
    · rfl
    · exact a.pl y h
  snd := fun X G => PA.imp (pa_cons (pe_var (i := i) (by rw [G.N]; exact hN) (by rw [G.sc]; exact vis_of hv) hd hcd) (a.snd X G)) fun σ H Q h => by
    obtain ⟨F, ρ, g, as, ρ', e0, q⟩ := h
    unfold semLend at e0
    split at e0
    · obtain ⟨as', ρ2, e2, e0⟩ := bnd_some e0
      cases e0
      obtain ⟨b, e1, _, _⟩ := g.own i _ (by assumption)
      exact ⟨_, e1, F, ρ, g, as', ρ', e2, fun vs F2 H2 g2 f2 r2 => q _ F2 H2 g2 f2 (.o e1 r2)⟩
    · cases e0
/-- all arguments are values -/
def asDs : List Ar → Option (List D)
  | [] => some []
  | .d x :: r => (asDs r).map fun ds => x :: ds
  | .o _ :: _ => none
theorem asDs_of {K : KW} {F : Hp} {σ : St} : ∀ {vs : List V} {as : List Ar} {ds : List D}, ArgR K F σ vs as → asDs as = some ds → DpAll K F vs ds
  | _, _, _, .nil, e => by cases e; exact .nil
  | _, _, _, .d q r, e => by
    obtain ⟨ds, e1, rfl⟩ := Option.map_eq_some_iff.mp e
    exact .cons q (asDs_of r e1)
  | _, _, _, .o _ _, e => nomatch e
def small (ds : List D) : Bool := decide (ds.length ≤ 1000)
theorem small_le {ds : List D} (h : small ds = true) : ds.length ≤ sizeLine := Nat.le_of_lt (small1000 (of_decide_eq_true h))
def semTup (a : En → Option (List Ar × En)) : En → Option (D × En) := fun ρ => bnd (a ρ) fun as ρ1 => (asDs as).bind fun ds => if small ds = true then some (.tuple ds, ρ1) else none
def semLst (a : En → Option (List Ar × En)) : En → Option (List D × En) := fun ρ => bnd (a ρ) fun as ρ1 => (asDs as).bind fun ds => if small ds = true then some (ds, ρ1) else none
def eTup (a : CA nm) (k : Nat) (pos : Pos) : CE nm where
  syn := .Tuple a.syn k pos
  sem := semTup a.sem
  pl := rfl
  snd := fun X G => PE.imp (pe_tupF (a.snd X G)) fun σ H Q h => by
    obtain ⟨F, ρ, g, d, ρ', e0, q⟩ := h
    obtain ⟨as, ρ1, e1, e0⟩ := bnd_some e0
    obtain ⟨ds, e2, e0⟩ := Option.bind_eq_some_iff.mp e0
    obtain ⟨hz, e3⟩ := ite_some e0
    cases e3
    refine ⟨F, ρ, g, as, ρ', e1, fun vs F1 H1 g1 f1 r1 => ?_⟩
    have r := asDs_of r1 e2
    have z : vs.length ≤ sizeLine := by rw [DpAll.length r]; exact small_le hz
    exact ⟨z, g1.mkT z r fun v F' H' g2 f2 dp => q v F' H' g2 (f1.trans f2) dp⟩
def nList (a : CA nm) (pos : Pos) : CN nm where
  syn := .List a.syn pos
  sem := semLst a.sem
  pl := rfl
  snd := fun X G => PE.imp (pe_lst (a.snd X G)) fun σ H Q h => by
    obtain ⟨F, ρ, g, d, ρ', e0, q⟩ := h
    obtain ⟨as, ρ1, e1, e0⟩ := bnd_some e0
    obtain ⟨ds, e2, e0⟩ := Option.bind_eq_some_iff.mp e0
    obtain ⟨hz, e3⟩ := ite_some e0
    cases e3
    refine ⟨F, ρ, g, as, ρ', e1, fun vs F1 H1 g1 f1 r1 => ?_⟩
    have r := asDs_of r1 e2
    have z : vs.length ≤ sizeLine := by rw [DpAll.length r]; exact small_le hz
    refine ⟨z, fun p hp => ?_⟩
    obtain ⟨g2, f2⟩ := g1.alloc (o := .lst vs) hp z
    exact q p vs F1 _ g2 (f1.trans f2) (f1.th p hp) (fun w => (g1.ownThere w).1 hp) (g1.Fnone hp) upd_same r
end
end FL
end L2

/-! FL5: calls of the program's own defs; cells lent -/
namespace L2
namespace FL
open PySem PySem.Spec PyProof.Rows
def isOwn : Option Sl → Bool
  | some (.own _) => true
  | _ => false
theorem isOwn_of {o : Option Sl} (h : isOwn o = true) : ∃ d, o = some (.own d) := by
  unfold isOwn at h
  split at h
  · exact ⟨_, rfl⟩
  · cases h
def toSl (ρ : En) : Ar → Sl
  | .d x => .val x
  | .o i => (ρ[i]?).getD .un
def slotsOf : List Ar → List Nat
  | [] => []
  | .d _ :: r => slotsOf r
  | .o i :: r => i :: slotsOf r
def lentOk (ρ : En) (as : List Ar) : Bool := decide (slotsOf as).Nodup && (slotsOf as).all fun i => isOwn ρ[i]?
def putBack : En → List Ar → List Sl → Option En
  | ρ, [], [] => some ρ
  | ρ, .d _ :: as, _ :: os => putBack ρ as os
  | ρ, .o i :: as, .own c :: os => putBack (ρ.set i (.own c)) as os
  | _, _, _ => none
theorem mem_slots : ∀ {as : List Ar} {i : Nat}, i ∈ slotsOf as ↔ ∃ (j : Nat), as[j]? = some (Ar.o i)
  | [], i => by simp [slotsOf]
  | .d x :: r, i => by
    unfold slotsOf
    rw [mem_slots (as := r)]
    constructor
    · rintro ⟨j, h⟩; exact ⟨j + 1, by simpa using h⟩
    · rintro ⟨j, h⟩
      cases j with
      | zero => simp at h
      | succ j => exact ⟨j, by simpa using h⟩
  | .o k :: r, i => by
    unfold slotsOf
    rw [List.mem_cons, mem_slots (as := r)]
    constructor
    · rintro (rfl | ⟨j, h⟩)
      · exact ⟨0, rfl⟩
      · exact ⟨j + 1, by simpa using h⟩
    · rintro ⟨j, h⟩
      cases j with
      | zero => simp at h; exact .inl h.symm
      | succ j => exact .inr ⟨j, by simpa using h⟩
theorem slots_inj : ∀ {as : List Ar} {i j k : Nat}, (slotsOf as).Nodup → as[j]? = some (.o i) → as[k]? = some (.o i) → j = k
  | [], i, j, k, _, h, _ => by simp at h
  | .d x :: r, i, 0, k, _, h, _ => by simp at h
  | .d x :: r, i, j + 1, 0, _, _, h => by simp at h
  | .d x :: r, i, j + 1, k + 1, n, h, h' => by
    unfold slotsOf at n
    exact congrArg (· + 1) (slots_inj n (by simpa using h) (by simpa using h'))
  | .o x :: r, i, 0, 0, _, _, _ => rfl
  | .o x :: r, i, 0, k + 1, n, h, h' => by
    unfold slotsOf at n
    simp at h
    subst h
    exact absurd (mem_slots.mpr ⟨k, by simpa using h'⟩) (List.nodup_cons.mp n).1
  | .o x :: r, i, j + 1, 0, n, h, h' => by
    unfold slotsOf at n
    simp at h'
    subst h'
    exact absurd (mem_slots.mpr ⟨j, by simpa using h⟩) (List.nodup_cons.mp n).1
  | .o x :: r, i, j + 1, k + 1, n, h, h' => by
    unfold slotsOf at n
    exact congrArg (· + 1) (slots_inj (List.nodup_cons.mp n).2 (by simpa using h) (by simpa using h'))
theorem putBack_spec : ∀ {as : List Ar} {os : List Sl} {ρ ρ' : En}, (slotsOf as).Nodup → putBack ρ as os = some ρ' →
    ρ'.length = ρ.length ∧ (∀ i, i ∉ slotsOf as → ρ'[i]? = ρ[i]?) ∧ ∀ (j i : Nat), as[j]? = some (.o i) → ∃ c, os[j]? = some (.own c) ∧ (i < ρ.length → ρ'[i]? = some (.own c))
  | [], [], ρ, ρ', _, h => by
    cases h
    exact ⟨rfl, fun _ _ => rfl, fun j i q => by simp at q⟩
  | [], _ :: _, ρ, ρ', _, h => by cases h
  | .d x :: as, [], ρ, ρ', _, h => by cases h
  | .d x :: as, o :: os, ρ, ρ', n, h => by
    unfold slotsOf at n ⊢
    unfold putBack at h
    obtain ⟨h1, h2, h3⟩ := putBack_spec n h
    refine ⟨h1, h2, fun j i q => ?_⟩
    cases j with
    | zero => simp at q
    | succ j => simpa using h3 j i (by simpa using q)
  | .o k :: as, [], ρ, ρ', _, h => by cases h
  | .o k :: as, .un :: os, ρ, ρ', _, h => by cases h
  | .o k :: as, .val _ :: os, ρ, ρ', _, h => by cases h
  | .o k :: as, .own c :: os, ρ, ρ', n, h => by
    unfold slotsOf at n ⊢
    unfold putBack at h
    obtain ⟨nk, n'⟩ := List.nodup_cons.mp n
    obtain ⟨h1, h2, h3⟩ := putBack_spec n' h
    rw [List.length_set] at h1
    refine ⟨h1, fun i hi => ?_, fun j i q => ?_⟩
    · rw [h2 i fun z => hi (List.mem_cons_of_mem _ z), List.getElem?_set_ne (fun z => hi (by rw [z]; exact List.mem_cons_self))]
    · cases j with
      | zero =>
        simp at q
        subst q
        refine ⟨c, rfl, fun hl => ?_⟩
        rw [h2 _ nk, List.getElem?_set_self hl]
      | succ j =>
        obtain ⟨c', e1, e2⟩ := h3 j i (by simpa using q)
        exact ⟨c', by simpa using e1, fun hl => e2 (by rw [List.length_set]; exact hl)⟩
section
variable {K : KW} {F F' H H' : Hp} {σ : St} {ρ ρ' : En} {vs : List V} {as : List Ar} {outs : List Sl}
theorem ArgR.length : ∀ {vs : List V} {as : List Ar}, ArgR K F σ vs as → vs.length = as.length
  | _, _, .nil => rfl
  | _, _, .d _ r => congrArg (· + 1) r.length
  | _, _, .o _ r => congrArg (· + 1) r.length
theorem ArgR.atD : ∀ {vs : List V} {as : List Ar} {j : Nat} {x : D}, ArgR K F σ vs as → as[j]? = some (.d x) → ∃ v, vs[j]? = some v ∧ Dp K F v x
  | _, _, _, _, .nil, h => by simp at h
  | _, _, 0, _, .d q _, h => by simp at h; subst h; exact ⟨_, rfl, q⟩
  | _, _, 0, _, .o _ _, h => by simp at h
  | _, _, j + 1, _, .d _ r, h => by simpa using ArgR.atD (j := j) r (by simpa using h)
  | _, _, j + 1, _, .o _ r, h => by simpa using ArgR.atD (j := j) r (by simpa using h)
theorem ArgR.atO : ∀ {vs : List V} {as : List Ar} {j i : Nat}, ArgR K F σ vs as → as[j]? = some (.o i) → ∃ v, vs[j]? = some v ∧ σ[i]? = some (some v)
  | _, _, _, _, .nil, h => by simp at h
  | _, _, 0, _, .o q _, h => by simp at h; subst h; exact ⟨_, rfl, q⟩
  | _, _, 0, _, .d _ _, h => by simp at h
  | _, _, j + 1, _, .d _ r, h => by simpa using ArgR.atO (j := j) r (by simpa using h)
  | _, _, j + 1, _, .o _ r, h => by simpa using ArgR.atO (j := j) r (by simpa using h)
theorem mapSome {vs : List V} {j : Nat} {w : Option V} (h : (vs.map some)[j]? = some w) : ∃ v, w = some v ∧ vs[j]? = some v := by
  rw [List.getElem?_map] at h
  cases e : vs[j]? with
  | none => rw [e] at h; cases h
  | some v => rw [e] at h; cases h; exact ⟨v, rfl, rfl⟩
theorem mapSome' {vs : List V} {j : Nat} {v : V} (h : vs[j]? = some v) : (vs.map some)[j]? = some (some v) := by rw [List.getElem?_map, h]; rfl
/-- what the callee sees -/
theorem args_in (g : Gs K F H σ ρ) (r : ArgR K F σ vs as) (h : lentOk ρ as = true) : Gs K F H (vs.map some) (as.map (toSl ρ)) ∧ ∀ a, Owns (vs.map some) (as.map (toSl ρ)) a → ∃ (i j : Nat) (d : D), as[j]? = some (.o i) ∧ ρ[i]? = some (.own d) ∧ σ[i]? = some (some (.ref a)) := by
  obtain ⟨nd, al⟩ := Bool.and_eq_true_iff.mp h
  have nd := of_decide_eq_true nd
  have al := List.all_eq_true.mp al
  have ownAt : ∀ {i j : Nat}, as[j]? = some (.o i) → ∃ d, ρ[i]? = some (.own d) := fun {i j} e => isOwn_of (al i (mem_slots.mpr ⟨j, e⟩))
  have at1 : ∀ {j : Nat} {x : Sl}, (as.map (toSl ρ))[j]? = some x → ∃ a, as[j]? = some a ∧ toSl ρ a = x := fun {j x} e => by
    rw [List.getElem?_map] at e
    cases q : as[j]? with
    | none => rw [q] at e; cases e
    | some a => rw [q] at e; cases e; exact ⟨a, rfl, rfl⟩
  have atV : ∀ {j : Nat} {d : D}, (as.map (toSl ρ))[j]? = some (.val d) → as[j]? = some (.d d) := fun {j d} e => by
    obtain ⟨a, e1, e2⟩ := at1 e
    cases a with
    | d x => cases e2; exact e1
    | o i =>
      obtain ⟨c, q⟩ := ownAt e1
      have e2 : (ρ[i]?).getD .un = _ := e2
      rw [q] at e2
      cases e2
  have atO : ∀ {j : Nat} {d : D}, (as.map (toSl ρ))[j]? = some (.own d) → ∃ i, as[j]? = some (.o i) ∧ ρ[i]? = some (.own d) := fun {j d} e => by
    obtain ⟨a, e1, e2⟩ := at1 e
    cases a with
    | d x => cases e2
    | o i =>
      obtain ⟨c, q⟩ := ownAt e1
      have e2 : (ρ[i]?).getD .un = _ := e2
      rw [q] at e2
      cases e2
      exact ⟨i, e1, q⟩
  have adr : ∀ {i j : Nat} {v : V}, as[j]? = some (.o i) → (vs.map some)[j]? = some (some v) → σ[i]? = some (some v) := fun {i j v} e1 e2 => by
    obtain ⟨w, q1, q2⟩ := r.atO e1
    obtain ⟨w', q3, q4⟩ := mapSome e2
    cases q3
    rw [q1] at q4; cases q4
    exact q2
  refine ⟨⟨by rw [List.length_map, List.length_map]; exact r.length, g.le, g.sz, fun j d e => ?_, fun j d e => ?_, fun j k dj dk a e1 e2 e3 e4 => ?_⟩, fun a ⟨j, d, e1, e2⟩ => ?_⟩
  · obtain ⟨v, q1, q2⟩ := r.atD (atV e)
    exact ⟨v, mapSome' q1, q2⟩
  · obtain ⟨i, q1, q2⟩ := atO e
    obtain ⟨a, w1, w2, w3⟩ := g.own i d q2
    obtain ⟨v, q3, q4⟩ := r.atO q1
    rw [w1] at q4; cases q4
    exact ⟨a, mapSome' q3, w2, w3⟩
  · obtain ⟨i, q1, q2⟩ := atO e1
    obtain ⟨i', q1', q2'⟩ := atO e2
    obtain rfl := g.inj i i' _ _ a q2 q2' (adr q1 e3) (adr q1' e4)
    exact slots_inj nd q1 q1'
  · obtain ⟨i, q1, q2⟩ := atO e1
    exact ⟨i, j, d, q1, q2, adr q1 e2⟩
/-- what the caller has behind the call -/
theorem args_out (g : Gs K F H σ ρ) (r : ArgR K F σ vs as) (h : lentOk ρ as = true) (hp : putBack ρ as outs = some ρ') (g' : Gs K F' H' (vs.map some) outs) (f' : Fw F H (vs.map some) (as.map (toSl ρ)) F' H' (vs.map some) outs) :
    Gs K F' H' σ ρ' ∧ Fw F H σ ρ F' H' σ ρ' := by
  obtain ⟨gin, oin⟩ := args_in g r h
  obtain ⟨nd, al⟩ := Bool.and_eq_true_iff.mp h
  have nd := of_decide_eq_true nd
  have al := List.all_eq_true.mp al
  obtain ⟨p1, p2, p3⟩ := putBack_spec nd hp
  have ownAt : ∀ {i : Nat}, i ∈ slotsOf as → ∃ d, ρ[i]? = some (.own d) := fun {i} e => isOwn_of (al i e)
  -- an own slot behind was own ahead
  have was : ∀ {i : Nat} {d : D}, ρ'[i]? = some (.own d) → ∃ c, ρ[i]? = some (.own c) := fun {i d} e => by
    by_cases hi : i ∈ slotsOf as
    · exact ownAt hi
    · rw [p2 i hi] at e; exact ⟨d, e⟩
  have wasV : ∀ {i : Nat} {d : D}, ρ'[i]? = some (.val d) → ρ[i]? = some (.val d) := fun {i d} e => by
    by_cases hi : i ∈ slotsOf as
    · obtain ⟨j, ej⟩ := mem_slots.mp hi
      obtain ⟨c, _, q⟩ := p3 j i ej
      obtain ⟨d', e'⟩ := ownAt hi
      rw [q (g.inRange e').1] at e; cases e
    · rw [p2 i hi] at e; exact e
  have nown : ∀ {i : Nat} {d : D} {a : Addr}, i ∉ slotsOf as → ρ[i]? = some (.own d) → σ[i]? = some (some (.ref a)) → ¬ Owns (vs.map some) (as.map (toSl ρ)) a := fun {i d a} hi e1 e2 w => by
    obtain ⟨i', j, d', q1, q2, q3⟩ := oin a w
    obtain rfl := g.inj i i' _ _ a e1 q2 e2 q3
    exact hi (mem_slots.mpr ⟨j, q1⟩)
  refine ⟨⟨by rw [p1]; exact g.len, g'.le, g'.sz, fun i d e => ?_, fun i d e => ?_, fun i k di dk a e1 e2 e3 e4 => ?_⟩, ⟨f'.leF, fun a n no => ?_, fun a ⟨i, d, e1, e2⟩ => ?_, f'.th⟩⟩
  · obtain ⟨v, q1, q2⟩ := g.val i d (wasV e)
    exact ⟨v, q1, Dp.mono f'.leF q2⟩
  · by_cases hi : i ∈ slotsOf as
    · obtain ⟨j, ej⟩ := mem_slots.mp hi
      obtain ⟨c, e1, q⟩ := p3 j i ej
      obtain ⟨d', e'⟩ := ownAt hi
      rw [q (g.inRange e').1] at e; cases e
      obtain ⟨a, w1, w2, w3⟩ := g'.own j _ e1
      obtain ⟨v, q1, q2⟩ := r.atO ej
      obtain ⟨v', q3, q4⟩ := mapSome w1
      cases q3
      rw [q1] at q4; cases q4
      exact ⟨a, q2, w2, w3⟩
    · rw [p2 i hi] at e
      obtain ⟨a, w1, w2, w3⟩ := g.own i d e
      obtain ⟨k1, k2⟩ := f'.keep a w3.there (nown hi e w1)
      exact ⟨a, w1, k2.trans w2, w3.mono f'.leF k1⟩
  · obtain ⟨c1, w1⟩ := was e1
    obtain ⟨c2, w2⟩ := was e2
    exact g.inj i k _ _ a w1 w2 e3 e4
  · refine f'.keep a n fun w => no ?_
    obtain ⟨i, j, d, _, q2, q3⟩ := oin a w
    exact ⟨i, d, q2, q3⟩
  · obtain ⟨c, w⟩ := was e1
    exact .inl ⟨i, c, w, e2⟩
end
section
variable {nm : Nm}
def semCall (p : Prom) (a : En → Option (List Ar × En)) : En → Option (D × En) := fun ρ => bnd (a ρ) fun as ρ1 => if lentOk ρ1 as = true ∧ as.length = p.ps.length then match p.sem (as.map (toSl ρ1)) with
  | some (d, outs) => (putBack ρ1 as outs).map fun ρ2 => (d, ρ2)
  | none => none
  else none
/-- a call of a def of the program -/
def eCall (p : Prom) (a : CA nm) (fpos pos : Pos) (hp : p ∈ nm.Γ) (hg : nm.sc.names.lookup p.name = some .globalImplicit) (hne : a.syn ≠ []) (hd : (p.name == ("__debug__" : Str)) = false := by rfl) (hkn : p.kn = false := by rfl) : CE nm where
  syn := .Call (.Name p.name fpos) a.syn [] pos
  sem := semCall p a.sem
  pl := rfl
  snd := fun X G => by
    obtain ⟨f, fd, k, hm, hk, hb, hF, hr⟩ := (G.knows p hp).ex
    have ha := a.snd X G
    have hpl := a.pl
    cases es : a.syn with
    | nil => exact absurd es hne
    | cons e rest =>
      rw [es] at ha hpl
      refine PE.imp (pe_call hF hr (by show X.env.scope.names.lookup p.name = _; rw [G.sc]; exact hg) hm hk (hb.pos hkn) .nil pass0 ha hd (Pl.star (hpl e (by simp)) _ _) (starred_tail (fun x hx => hpl x (by simp [hx])) _ _)) fun σ H Q h => ?_
      obtain ⟨F, ρ, g, d, ρ', e0, q⟩ := h
      obtain ⟨as, ρ1, e1, e0⟩ := bnd_some e0
      split at e0
      · rename_i hl
        split at e0
        · rename_i d' outs e2
          obtain ⟨ρ2, e3, e4⟩ := Option.map_eq_some_iff.mp e0
          cases e4
          refine ⟨F, ρ, g, as, ρ1, e1, fun vs F1 H1 g1 f1 r1 => ?_⟩
          obtain ⟨hl, hlen⟩ := hl
          obtain ⟨gin, _⟩ := args_in g1 r1 hl
          show spOf _ _ (vs ++ []) _ _ _
          rw [List.append_nil]
          refine ⟨F1, as.map (toSl ρ1), by rw [List.length_map]; exact hlen, gin, d, outs, e2, fun v F2 H2 g2 f2 dp => ?_⟩
          obtain ⟨g3, f3⟩ := args_out g1 r1 hl e3 g2 f2
          exact q v F2 H2 g3 (f1.trans f3) dp
        · cases e0
      · cases e0
/-- arguments, and one more by its name -/
def semApd (a : En → Option (List Ar × En)) (k : En → Option (D × En)) : En → Option (List Ar × En) := fun ρ => bnd (a ρ) fun as ρ1 => bnd (k ρ1) fun d ρ2 => some (as ++ [.d d], ρ2)
theorem argR_snoc {K : KW} {F : Hp} {σ : St} {v : V} {d : D} (h : Dp K F v d) : ∀ {vs : List V} {as : List Ar}, ArgR K F σ vs as → ArgR K F σ (vs ++ [v]) (as ++ [.d d])
  | _, _, .nil => .d h .nil
  | _, _, .d q r => .d q (argR_snoc h r)
  | _, _, .o q r => .o q (argR_snoc h r)
theorem argR_len {K : KW} {F : Hp} {σ : St} : ∀ {vs : List V} {as : List Ar}, ArgR K F σ vs as → vs.length = as.length
  | _, _, .nil => rfl
  | _, _, .d q r => congrArg Nat.succ (argR_len r)
  | _, _, .o q r => congrArg Nat.succ (argR_len r)
/-- f(.., x=e) -/
def eCallK (p : Prom) (a : CA nm) (x : Str) (b : CE nm) (fpos kpos pos : Pos) (hp : p ∈ nm.Γ) (hg : nm.sc.names.lookup p.name = some .globalImplicit) (hne : a.syn ≠ []) (hx : p.ps.getLast? = some x := by rfl) (hd : (p.name == ("__debug__" : Str)) = false := by rfl) (hkn : p.kn = true := by rfl) : CE nm where
  syn := .Call (.Name p.name fpos) a.syn [⟨some x, b.syn, kpos⟩] pos
  sem := semCall p (semApd a.sem b.sem)
  pl := rfl
  snd := fun X G => by
    obtain ⟨f, fd, k, hm, hk, hb, hF, hr⟩ := (G.knows p hp).ex
    obtain ⟨qs, y, hy, hb⟩ := hb.kwd hkn
    have ex : y = x := by
      rw [hy, List.getLast?_concat] at hx
      exact Option.some.inj hx
    subst ex
    have ha := a.snd X G
    have hpl := a.pl
    cases es : a.syn with
    | nil => exact absurd es hne
    | cons e rest =>
      rw [es] at ha hpl
      refine PE.imp (pe_callN hF hr (by show X.env.scope.names.lookup p.name = _; rw [G.sc]; exact hg) hm hk hb pass0 ha (pk_cons (b.snd X G) pk_nil) (by rfl) (by rfl) hd (Pl.star (hpl e (by simp)) _ _) (by rw [starred_tail hpl]; rfl)) fun σ H Q h => ?_
      obtain ⟨F, ρ, g, d, ρ', e0, q⟩ := h
      obtain ⟨as', ρ1', e6, e0⟩ := bnd_some e0
      obtain ⟨as, ρ0, e1, e2⟩ := bnd_some e6
      obtain ⟨db, ρ1, e2, e3⟩ := bnd_some e2
      cases e3
      split at e0
      · rename_i hl
        split at e0
        · rename_i d' outs e5
          obtain ⟨ρ2, e3, e4⟩ := Option.map_eq_some_iff.mp e0
          cases e4
          refine ⟨F, ρ, g, as, ρ0, e1, fun vs F1 H1 g1 f1 r1 => ?_⟩
          refine ⟨F1, ρ0, g1, db, _, e2, fun v F2 H2 g2 f2 dp => ?_⟩
          obtain ⟨hl, hlen⟩ := hl
          have r2 : ArgR (kw X) F2 σ (vs ++ [v]) (as ++ [.d db]) := argR_snoc dp (ArgR.mono f2.leF r1)
          obtain ⟨gin, _⟩ := args_in g2 r2 hl
          refine ⟨?_, rfl, ?_⟩
          · rw [argR_len r1]
            rw [hy, List.length_append, List.length_append] at hlen
            exact Nat.add_right_cancel hlen
          show spOf _ _ (vs ++ [v]) _ _ _
          refine ⟨F2, (as ++ [Ar.d db]).map (toSl _), by rw [List.length_map]; exact hlen, gin, d, outs, e5, fun v F3 H3 g3 f3 dp3 => ?_⟩
          obtain ⟨g4, f4⟩ := args_out g2 r2 hl e3 g3 f3
          exact q v F3 H3 g4 (f1.trans (f2.trans f4)) dp3
        · cases e0
      · cases e0
/-- f(..), the last one left out -/
def eCallD (p : Prom) (a : CA nm) (fpos pos : Pos) (hp : p ∈ nm.Γ) (hg : nm.sc.names.lookup p.name = some .globalImplicit) (hne : a.syn ≠ []) (hd : (p.name == ("__debug__" : Str)) = false := by rfl) (hkn : p.kn = true := by rfl) : CE nm where
  syn := .Call (.Name p.name fpos) a.syn [] pos
  sem := semCall p (semApd a.sem (cst (.tuple [])))
  pl := rfl
  snd := fun X G => by
    obtain ⟨f, fd, k, hm, hk, hb, hF, hr⟩ := (G.knows p hp).ex
    obtain ⟨u, ad, hu, hmod, hb⟩ := hb.dfl hkn
    have ha := a.snd X G
    have hpl := a.pl
    cases es : a.syn with
    | nil => exact absurd es hne
    | cons e rest =>
      rw [es] at ha hpl
      refine PE.imp (pe_call hF hr (by show X.env.scope.names.lookup p.name = _; rw [G.sc]; exact hg) hm hk hb (.cons hu .nil) pass0 ha hd (Pl.star (hpl e (by simp)) _ _) (starred_tail (fun x hx => hpl x (by simp [hx])) _ _)) fun σ H Q h => ?_
      obtain ⟨F, ρ, g, d, ρ', e0, q⟩ := h
      obtain ⟨as', ρ1', e1, e0⟩ := bnd_some e0
      obtain ⟨as, ρ1, e1, e2⟩ := bnd_some e1
      cases e2
      split at e0
      · rename_i hl
        split at e0
        · rename_i d' outs e5
          obtain ⟨ρ2, e3, e4⟩ := Option.map_eq_some_iff.mp e0
          cases e4
          refine ⟨F, ρ, g, as, _, e1, fun vs F1 H1 g1 f1 r1 => ?_⟩
          obtain ⟨hl, hlen⟩ := hl
          have dp : Dp (kw X) F1 (.ref ad) (.tuple []) := .tup ⟨fun z => (Bool.false_ne_true z).elim, fun _ => .inr hmod⟩ .nil
          have r2 := argR_snoc dp r1
          obtain ⟨gin, _⟩ := args_in g1 r2 hl
          refine ⟨F1, (as ++ [Ar.d (.tuple [])]).map (toSl _), by rw [List.length_map]; exact hlen, gin, d, outs, e5, fun v F3 H3 g3 f3 dp3 => ?_⟩
          obtain ⟨g4, f4⟩ := args_out g1 r2 hl e3 g3 f3
          exact q v F3 H3 g4 (f1.trans f4) dp3
        · cases e0
      · cases e0
end
end FL
end L2

/-! FL6: built-ins, subscripts, slices, what is read of cells of one's own -/
namespace L2
namespace FL
open PySem PySem.Spec PyProof.Rows
section
variable {nm : Nm}
def semFrz (n : En → Option (List D × En)) : En → Option (D × En) := fun ρ => bnd (n ρ) fun ds ρ1 => some (.list ds, ρ1)
/-- a new list as a value -/
def eFrz (n : CN nm) : CE nm where
  syn := n.syn
  sem := semFrz n.sem
  pl := n.pl
  snd := fun X G => PE.imp (n.snd X G) fun σ H Q h => by
    obtain ⟨F, ρ, g, d, ρ', e, q⟩ := h
    obtain ⟨ds, ρ1, e1, e⟩ := bnd_some e
    cases e
    refine ⟨F, ρ, g, ds, ρ', e1, fun a vs F1 H1 g1 f1 h0 no hf hH r => ?_⟩
    have g2 := g1.freeze hH hf no
    have s : Same F1 (upd F1 a (.lst vs)) := Same.upd_new hf
    refine q _ (upd F1 a (.lst vs)) H1 g2 ⟨f1.leF.trans s, fun b n nb => ?_, f1.own, f1.th⟩ (.lst (Rd.of upd_same) (DpAll.mono s r))
    obtain ⟨k1, k2⟩ := f1.keep b n nb
    exact ⟨k1, (upd_ne (fun z => n (by rw [z]; exact h0))).trans k2⟩
/-! ### built-ins by data -/
def rC1 (K : KW) (f : D → Option D) : List V → Hp → VK → Prop := fun xs H Q => ∃ F σ ρ x dx d, xs = [x] ∧ Gs K F H σ ρ ∧ Dp K F x dx ∧ f dx = some d ∧
  ∀ v F' H', Gs K F' H' σ ρ → Fw F H σ ρ F' H' σ ρ → Dp K F' v d → Q v H'
def rC2 (K : KW) (f : D → D → Option D) : List V → Hp → VK → Prop := fun xs H Q => ∃ F σ ρ x y dx dy d, xs = [x, y] ∧ Gs K F H σ ρ ∧ Dp K F x dx ∧ Dp K F y dy ∧ f dx dy = some d ∧
  ∀ v F' H', Gs K F' H' σ ρ → Fw F H σ ρ F' H' σ ρ → Dp K F' v d → Q v H'
/-- .. that give a new list -/
def rN1 (K : KW) (f : D → Option (List D)) : List V → Hp → VK → Prop := fun xs H Q => ∃ F σ ρ x dx ds, xs = [x] ∧ Gs K F H σ ρ ∧ Dp K F x dx ∧ f dx = some ds ∧
  ∀ a vs F' H', Gs K F' H' σ ρ → Fw F H σ ρ F' H' σ ρ → H a = none → ¬ Owns σ ρ a → F' a = none → H' a = some (.lst vs) → DpAll K F' vs ds → Q (.ref a) H'
theorem tE_un {K : KW} {f : D → Option D} {ea : En → Option (D × En)} {σ : St} {H : Hp} {Q : VK} (h : tE K (semUn f ea) σ H Q) : tE K ea σ H fun x H1 => rC1 K f [x] H1 Q := by
  obtain ⟨F, ρ, g, d, ρ', e, q⟩ := h
  obtain ⟨x, ρ1, e1, e⟩ := bnd_some e
  obtain ⟨z, e2, e3⟩ := Option.map_eq_some_iff.mp e
  cases e3
  exact ⟨F, ρ, g, x, ρ', e1, fun v1 F1 H1 g1 f1 d1 => ⟨F1, σ, ρ', v1, x, d, rfl, g1, d1, e2, fun v F' H' g2 f2 d2 => q v F' H' g2 (f1.trans f2) d2⟩⟩
theorem tE_un2 {K : KW} {f : D → D → Option D} {ea eb : En → Option (D × En)} {σ : St} {H : Hp} {Q : VK} (h : tE K (semBin f ea eb) σ H Q) : tE K ea σ H fun x H1 => tE K eb σ H1 fun y H2 => rC2 K f [x, y] H2 Q := by
  obtain ⟨F, ρ, g, d, ρ', e, q⟩ := h
  obtain ⟨x, ρ1, e1, e⟩ := bnd_some e
  obtain ⟨y, ρ2, e2, e⟩ := bnd_some e
  obtain ⟨z, e3, e4⟩ := Option.map_eq_some_iff.mp e
  cases e4
  refine ⟨F, ρ, g, x, ρ1, e1, fun v1 F1 H1 g1 f1 d1 => ⟨F1, ρ1, g1, y, ρ', e2, fun v2 F2 H2 g2 f2 d2 => ?_⟩⟩
  exact ⟨F2, σ, ρ', v1, v2, x, y, d, rfl, g2, Dp.mono f2.leF d1, d2, e3, fun v F' H' g3 f3 d3 => q v F' H' g3 (f1.trans (f2.trans f3)) d3⟩
def semN1 (f : D → Option (List D)) (e : En → Option (D × En)) : En → Option (List D × En) := fun ρ => bnd (e ρ) fun x ρ1 => (f x).map fun ds => (ds, ρ1)
theorem tN_un {K : KW} {f : D → Option (List D)} {ea : En → Option (D × En)} {σ : St} {H : Hp} {Q : VK} (h : tN K (semN1 f ea) σ H Q) : tE K ea σ H fun x H1 => rN1 K f [x] H1 Q := by
  obtain ⟨F, ρ, g, d, ρ', e, q⟩ := h
  obtain ⟨x, ρ1, e1, e⟩ := bnd_some e
  obtain ⟨z, e2, e3⟩ := Option.map_eq_some_iff.mp e
  cases e3
  refine ⟨F, ρ, g, x, ρ', e1, fun v1 F1 H1 g1 f1 d1 => ⟨F1, σ, ρ', v1, x, d, rfl, g1, d1, e2, fun a vs F' H' g2 f2 h0 no hf hH r => ?_⟩⟩
  exact q a vs F' H' g2 (f1.trans f2) (f1.th a h0) no hf hH r
/-- a built-in function (v = .builtin id) or type of one argument -/
structure B1 (x : Str) where
  f : D → Option D
  snd : (∃ id, bootBuiltins x = some (.builtin id) ∧ ∀ X : Cx, X.calm = true → Room 0 X.A → CallR X (.builtin id) (rC1 (kw X) f)) ∨ (∃ T, bootBuiltins x = some (.type T) ∧ ∀ X : Cx, X.calm = true → Room 0 X.A → CallR X (.type T) (rC1 (kw X) f))
def bltNames : List Str := ["len", "isinstance", "all", "any", "tuple", "list", "dict", "set", "zip", "enumerate", "range", "sorted", "max", "min", "sum", "str", "int", "bool"]
def eB1 {x : Str} (b : B1 x) (a : CE nm) (fpos pos : Pos) (hx : x ∈ bltNames) (hg : nm.sc.names.lookup x = some .globalImplicit) (hn : (x == "__name__") = false := by rfl) (hd : (x == ("__debug__" : Str)) = false := by rfl) : CE nm where
  syn := .Call (.Name x fpos) [a.syn] [] pos
  sem := semUn b.f a.sem
  pl := rfl
  snd := fun X G => by
    have hg' : Gl X x := by show X.env.scope.names.lookup x = _; rw [G.sc]; exact hg
    have hm := G.blt x hx
    have hn' : x ≠ "__name__" := fun z => by rw [z] at hn; simp at hn
    rcases b.snd with ⟨id, h1, h2⟩ | ⟨T, h1, h2⟩
    · refine PE.imp (pe_callB (h2 X G.calm G.room) hg' hm h1 (pa_cons (a.snd X G) pa_nil (Pl.star a.pl _ _)) hn' hd (Pl.star a.pl _ _)) fun σ H Q h => ?_
      exact tE_un h
    · refine PE.imp (pe_callTy (h2 X G.calm G.room) hg' hm h1 (pa_cons (a.snd X G) pa_nil (Pl.star a.pl _ _)) hn' hd (Pl.star a.pl _ _)) fun σ H Q h => ?_
      exact tE_un h
structure B2 (x : Str) where
  f : D → D → Option D
  snd : ∃ id, bootBuiltins x = some (.builtin id) ∧ ∀ X : Cx, X.calm = true → Room 0 X.A → CallR X (.builtin id) (rC2 (kw X) f)
def eB2 {x : Str} (b : B2 x) (a c : CE nm) (fpos pos : Pos) (hx : x ∈ bltNames) (hg : nm.sc.names.lookup x = some .globalImplicit) (hn : (x == "__name__") = false := by rfl) (hd : (x == ("__debug__" : Str)) = false := by rfl) : CE nm where
  syn := .Call (.Name x fpos) [a.syn, c.syn] [] pos
  sem := semBin b.f a.sem c.sem
  pl := rfl
  snd := fun X G => by
    have hg' : Gl X x := by show X.env.scope.names.lookup x = _; rw [G.sc]; exact hg
    have hm := G.blt x hx
    have hn' : x ≠ "__name__" := fun z => by rw [z] at hn; simp at hn
    obtain ⟨id, h1, h2⟩ := b.snd
    refine PE.imp (pe_callB (h2 X G.calm G.room) hg' hm h1 (pa_cons (a.snd X G) (pa_cons (c.snd X G) pa_nil (Pl.star c.pl _ _)) (Pl.star a.pl _ _)) hn' hd (Pl.star a.pl _ _) (starred_tail (es := [c.syn]) (fun e he => by rw [List.mem_singleton.mp he]; exact c.pl) _ _)) fun σ H Q h => ?_
    exact tE_un2 h
structure BN1 (x : Str) where
  f : D → Option (List D)
  snd : (∃ id, bootBuiltins x = some (.builtin id) ∧ ∀ X : Cx, X.calm = true → Room 0 X.A → CallR X (.builtin id) (rN1 (kw X) f)) ∨ (∃ T, bootBuiltins x = some (.type T) ∧ ∀ X : Cx, X.calm = true → Room 0 X.A → CallR X (.type T) (rN1 (kw X) f))
def nB1 {x : Str} (b : BN1 x) (a : CE nm) (fpos pos : Pos) (hx : x ∈ bltNames) (hg : nm.sc.names.lookup x = some .globalImplicit) (hn : (x == "__name__") = false := by rfl) (hd : (x == ("__debug__" : Str)) = false := by rfl) : CN nm where
  syn := .Call (.Name x fpos) [a.syn] [] pos
  sem := semN1 b.f a.sem
  pl := rfl
  snd := fun X G => by
    have hg' : Gl X x := by show X.env.scope.names.lookup x = _; rw [G.sc]; exact hg
    have hm := G.blt x hx
    have hn' : x ≠ "__name__" := fun z => by rw [z] at hn; simp at hn
    rcases b.snd with ⟨id, h1, h2⟩ | ⟨T, h1, h2⟩
    · refine PE.imp (pe_callB (h2 X G.calm G.room) hg' hm h1 (pa_cons (a.snd X G) pa_nil (Pl.star a.pl _ _)) hn' hd (Pl.star a.pl _ _)) fun σ H Q h => ?_
      exact tN_un h
    · refine PE.imp (pe_callTy (h2 X G.calm G.room) hg' hm h1 (pa_cons (a.snd X G) pa_nil (Pl.star a.pl _ _)) hn' hd (Pl.star a.pl _ _)) fun σ H Q h => ?_
      exact tN_un h
end
/-! ### the built-ins -/
def dLen : D → Option D
  | .str z => if z.length ≤ sizeLine then some (.int z.length) else none
  | .list ds => some (.int ds.length)
  | .tuple ds => some (.int ds.length)
  | .dict kvs => if okK kvs = true then some (.int kvs.length) else none
  | _ => none
def bLen : B1 "len" where
  f := dLen
  snd := .inl ⟨"len", by decide +kernel, fun X _ _ pins s σ0 H xs us Q I r h => by
    obtain ⟨F, σ, ρ, x, dx, d, rfl, g, px, e, q⟩ := h
    unfold dLen at e
    split at e
    · obtain ⟨hz, e⟩ := ite_some e
      cases e
      cases px
      exact call_len pins s σ0 H _ us Q I r ⟨_, _, rfl, ⟨hz, rfl⟩, q _ F H g Fw.refl (.int _)⟩
    · cases e
      obtain ⟨a, xs, rfl, qa, ra⟩ := px.lstOf
      refine call_len pins s σ0 H _ us Q I r ⟨_, _, rfl, .inl ⟨_, .inl (Rd.up qa g.le), rfl⟩, ?_⟩
      rw [DpAll.length ra]
      exact q _ F H g Fw.refl (.int _)
    · cases e
      obtain ⟨a, xs, rfl, qa, ra⟩ := px.tupOf
      refine call_len pins s σ0 H _ us Q I r ⟨_, _, rfl, .inr ⟨_, SqT.up qa g.le, rfl⟩, ?_⟩
      rw [DpAll.length ra]
      exact q _ F H g Fw.refl (.int _)
    · obtain ⟨hok, e⟩ := ite_some e
      cases e
      obtain ⟨a, es, rfl, qa, ra⟩ := px.dictOf hok
      obtain ⟨u, rfl, ru⟩ := vals1 r
      cases ru
      refine d_len I (Rd.up qa g.le) fun t s' I' => ⟨.int es.length, H, I', ⟨_, rfl⟩, ?_⟩
      rw [DkR.length ra]
      exact q _ F H g Fw.refl (.int _)
    · cases e⟩
theorem bls_of {K : KW} {F : Hp} : ∀ {vs : List V} {ds : List D} {bs : List Bool}, DpAll K F vs ds → ds.mapM asB = some bs → vs = bs.map V.bl := by
  intro vs
  induction vs with
  | nil =>
    intro ds bs h e
    cases h
    cases e
    rfl
  | cons v vs ih =>
    intro ds bs h e
    cases h with
    | cons h1 h2 =>
      rw [List.mapM_cons] at e
      obtain ⟨b, e1, e⟩ := Option.bind_eq_some_iff.mp e
      obtain ⟨bs', e2, e⟩ := Option.bind_eq_some_iff.mp e
      cases e
      rw [ih h2 e2]
      cases h1 with
      | bl b' => cases e1; rfl
      | _ => cases e1
def dAll : D → Option D
  | .list ds => (ds.mapM asB).map fun bs => .bool (bs.all id)
  | _ => none
def dAny : D → Option D
  | .list ds => (ds.mapM asB).map fun bs => .bool (bs.any id)
  | _ => none
def bAll : B1 "all" where
  f := dAll
  snd := .inl ⟨"all", by decide +kernel, fun X hc _ pins s σ0 H xs us Q I r h => by
    obtain ⟨F, σ, ρ, x, dx, d, rfl, g, px, e, q⟩ := h
    cases px with
    | lst qa ra =>
      obtain ⟨bs, e1, e2⟩ := Option.map_eq_some_iff.mp e
      cases e2
      obtain rfl := bls_of ra e1
      exact cr_all hc pins s σ0 H _ us Q I r ⟨_, bs, rfl, .inl (Rd.up qa g.le), q _ F H g Fw.refl (.bl _)⟩
    | _ => cases e⟩
def bAny : B1 "any" where
  f := dAny
  snd := .inl ⟨"any", by decide +kernel, fun X hc _ pins s σ0 H xs us Q I r h => by
    obtain ⟨F, σ, ρ, x, dx, d, rfl, g, px, e, q⟩ := h
    cases px with
    | lst qa ra =>
      obtain ⟨bs, e1, e2⟩ := Option.map_eq_some_iff.mp e
      cases e2
      obtain rfl := bls_of ra e1
      exact cr_any hc pins s σ0 H _ us Q I r ⟨_, bs, rfl, .inl (Rd.up qa g.le), q _ F H g Fw.refl (.bl _)⟩
    | _ => cases e⟩
def dTuple : D → Option D
  | .list ds => some (.tuple ds)
  | .tuple ds => some (.tuple ds)
  | _ => none
def bTuple : B1 "tuple" where
  f := dTuple
  snd := .inr ⟨"tuple", by decide +kernel, fun X _ _ pins s σ0 H xs us Q I r h => by
    obtain ⟨F, σ, ρ, x, dx, d, rfl, g, px, e, q⟩ := h
    unfold dTuple at e
    split at e
    · cases e
      obtain ⟨a, xs, rfl, qa, ra⟩ := px.lstOf
      exact call_tupF pins s σ0 H _ us Q I r ⟨_, _, rfl, .inl ⟨.inl (Rd.up qa g.le), g.mkT (g.szL qa) ra q⟩⟩
    · cases e
      obtain ⟨a, xs, rfl, qa, ra⟩ := px.tupOf
      exact call_tupF pins s σ0 H _ us Q I r ⟨_, _, rfl, .inr ⟨SqT.up qa g.le, q _ F H g Fw.refl px⟩⟩
    · cases e⟩
def dItems : D → Option (List D)
  | .list ds => some ds
  | .tuple ds => some ds
  | _ => none
/-- what list(x) takes: also the script -/
def dItemsS : D → Option (List D)
  | .list ds => some ds
  | .tuple ds => some ds
  | .dict [(.none, .list ds)] => some ds
  | .dict kvs => if okK kvs = true then some (kvs.map fun p => p.1) else none
  | _ => none
/-- a new list is laid, nobody's -/
theorem Gs.newN {K : KW} {F H : Hp} {σ : St} {ρ : En} {p : Addr} {vs : List V} {ds : List D} (g : Gs K F H σ ρ) (hp : H p = none) (z : vs.length ≤ sizeLine) (r : DpAll K F vs ds) :
    Gs K F (upd H p (.lst vs)) σ ρ ∧ Fw F H σ ρ F (upd H p (.lst vs)) σ ρ ∧ ¬ Owns σ ρ p ∧ F p = none := by
  obtain ⟨g2, f2⟩ := g.alloc (o := .lst vs) hp z
  exact ⟨g2, f2, fun w => (g.ownThere w).1 hp, g.Fnone hp⟩
def bListN : BN1 "list" where
  f := dItemsS
  snd := .inr ⟨"list", by decide +kernel, fun X hc _ pins s σ0 H xs us Q I r h => by
    obtain ⟨F, σ, ρ, x, dx, d, rfl, g, px, e, q⟩ := h
    unfold dItemsS at e
    split at e
    · cases e
      obtain ⟨a, xs, rfl, qa, ra⟩ := px.lstOf
      refine call_list_of pins s σ0 H _ us Q I r ⟨_, _, rfl, .inl (.inl (Rd.up qa g.le)), fun p hp => ?_⟩
      obtain ⟨g1, f1, no, hf⟩ := g.newN hp (g.szL qa) ra
      exact q _ _ _ _ g1 f1 hp no hf upd_same ra
    · cases e
      obtain ⟨a, xs, rfl, qa, ra⟩ := px.tupOf
      refine call_list_of pins s σ0 H _ us Q I r ⟨_, _, rfl, .inr (SqT.up qa g.le), fun p hp => ?_⟩
      obtain ⟨g1, f1, no, hf⟩ := g.newN hp (g.szT qa) ra
      exact q _ _ _ _ g1 f1 hp no hf upd_same ra
    · cases e
      obtain ⟨a, xs, rfl, qa, ra⟩ := px.scrOf
      refine call_list_of pins s σ0 H _ us Q I r ⟨_, _, rfl, .inl (g.le.seq qa), fun p hp => ?_⟩
      obtain ⟨g1, f1, no, hf⟩ := g.newN hp (g.szS qa) ra
      exact q _ _ _ _ g1 f1 hp no hf upd_same ra
    · obtain ⟨hok, e⟩ := ite_some e
      cases e
      obtain ⟨a, es, rfl, qa, ra⟩ := px.dictOf hok
      refine call_listD hc pins s σ0 H _ us Q I r ⟨_, _, rfl, Rd.up qa g.le, fun p hp => ?_⟩
      obtain ⟨g1, f1, no, hf⟩ := g.newN hp (by rw [List.length_map]; exact g.szK qa) ra.keys
      exact q _ _ _ _ g1 f1 hp no hf upd_same ra.keys
    · cases e⟩
def dMax2 : D → D → Option D
  | .int i, .int j => some (.int (if j > i then j else i))
  | _, _ => none
def dMin2 : D → D → Option D
  | .int i, .int j => some (.int (if j < i then j else i))
  | _, _ => none
def bMax2 : B2 "max" where
  f := dMax2
  snd := ⟨"max", by decide +kernel, fun X hc _ pins s σ0 H xs us Q I r h => by
    obtain ⟨F, σ, ρ, x, y, dx, dy, d, rfl, g, px, py, e, q⟩ := h
    unfold dMax2 at e
    split at e
    · cases e; cases px; cases py
      exact call_max2 hc pins s σ0 H _ us Q I r ⟨_, _, rfl, q _ F H g Fw.refl (.int _)⟩
    · cases e⟩
def bMin2 : B2 "min" where
  f := dMin2
  snd := ⟨"min", by decide +kernel, fun X hc _ pins s σ0 H xs us Q I r h => by
    obtain ⟨F, σ, ρ, x, y, dx, dy, d, rfl, g, px, py, e, q⟩ := h
    unfold dMin2 at e
    split at e
    · cases e; cases px; cases py
      exact call_min2 hc pins s σ0 H _ us Q I r ⟨_, _, rfl, q _ F H g Fw.refl (.int _)⟩
    · cases e⟩
/-! ### isinstance -/
def tyD : D → String
  | .none => "NoneType"
  | .bool _ => "bool"
  | .int _ => "int"
  | .str _ => "str"
  | .list _ => "list"
  | .tuple _ => "tuple"
  | .dict _ => "dict"
/-- the types asked for, with their answers -/
def isTyS (T t : String) : Bool := T == t || (t == "bool" && T == "int")
def isTy (T : String) (d : D) : Bool := isTyS T (tyD d)
def okTy (T : String) : Bool := T == "int" || T == "bool" || T == "str" || T == "list" || T == "tuple"
theorem kit_D {K : PySem.W.Frag} {T : String} (h : okTy T = true) (d : D) : PySem.W.kitOne K (.type (tyD d)) (.type T) = some (isTy T d) := by
  have hT : T = "int" ∨ T = "bool" ∨ T = "str" ∨ T = "list" ∨ T = "tuple" := by
    unfold okTy at h
    simp only [Bool.or_eq_true, beq_iff_eq] at h
    rcases h with (((h | h) | h) | h) | h <;> simp [h]
  have ht : tyD d = "NoneType" ∨ tyD d = "bool" ∨ tyD d = "int" ∨ tyD d = "str" ∨ tyD d = "list" ∨ tyD d = "tuple" ∨ tyD d = "dict" := by
    cases d <;> simp [tyD]
  refine kit_ty ?_
  unfold isTy
  rcases hT with rfl | rfl | rfl | rfl | rfl <;> rcases ht with h | h | h | h | h | h | h <;> rw [h] <;> decide +kernel
def notDict : D → Bool
  | .dict _ => false
  | _ => true
def dIsi (b : D → Bool) (d : D) : Option D := if notDict d = true then some (.bool (b d)) else none
theorem ty_D {K : KW} {F H : Hp} {v : V} {d : D} (s : Same F H) (hd : notDict d = true) (h : Dp K F v d) : TyX K H v (.type (tyD d)) := by
  cases h with
  | non => exact .base .non
  | bl b => exact .base (.bl b)
  | int i => exact .base (.int i)
  | str x => exact .base (.str x)
  | lst q r =>
    rcases q with q | ⟨o, q⟩
    · exact .base (.lst (s _ _ q))
    · exact .base (.frz (s _ _ q))
  | tup q r =>
    rcases q.sq (K := K) with (q | ⟨o, q⟩) | ⟨o, its, n, h1, h2, _⟩
    · exact .base (.tup (s _ _ q))
    · exact .fTuple (s _ _ q)
    · exact .kTuple h1 h2
  | scr q r => cases hd
  | wpr q r r' => cases hd
  | dic q r => cases hd
  | dit q r => cases hd
section
variable {nm : Nm}
def eIsi (a : CE nm) (x : Str) (T : String) (fpos tpos pos : Pos) (hT : okTy T = true) (hb : bootBuiltins x = some (.type T)) (hx : x ∈ bltNames) (hg : nm.sc.names.lookup ("isinstance" : Str) = some .globalImplicit) (hgx : nm.sc.names.lookup x = some .globalImplicit)
    (hn : (x == "__name__") = false := by rfl) (hd : (x == ("__debug__" : Str)) = false := by rfl) : CE nm where
  syn := .Call (.Name "isinstance" fpos) [a.syn, .Name x tpos] [] pos
  sem := semUn (dIsi fun d => isTy T d) a.sem
  pl := rfl
  snd := fun X G => by
    have gl : ∀ y, nm.sc.names.lookup y = some .globalImplicit → Gl X y := fun y hy => by show X.env.scope.names.lookup y = _; rw [G.sc]; exact hy
    have hn' : x ≠ "__name__" := fun z => by rw [z] at hn; simp at hn
    have pt : PE X (.Name x tpos) (tC (.ty T)) := pe_bltn (gl x hgx) (G.blt x hx) hb rfl hn' hd
    refine PE.imp (pe_callB call_isi (gl _ hg) (G.blt "isinstance" (by decide)) (by decide +kernel) (pa_cons (a.snd X G) (pa_cons pt pa_nil) (Pl.star a.pl _ _)) (by decide) (by decide) (Pl.star a.pl _ _)) fun σ H Q h => ?_
    obtain ⟨F, ρ, g, d, ρ', e, q⟩ := h
    obtain ⟨z, ρ1, e1, e⟩ := bnd_some e
    obtain ⟨d', e2, e3⟩ := Option.map_eq_some_iff.mp e
    obtain ⟨hnd, e4⟩ := ite_some e2
    subst e4
    cases e3
    refine ⟨F, ρ, g, z, ρ', e1, fun v1 F1 H1 g1 f1 d1 => ?_⟩
    exact ⟨v1, .ty T, _, _, _, rfl, .ty T, ty_D g1.le hnd d1, kit_D hT z, q _ F1 H1 g1 f1 (.bl _)⟩
/-- isinstance(a, (S, T)) -/
def eIsi2 (a : CE nm) (x y : Str) (S T : String) (fpos xpos ypos tpos pos : Pos) (k : Nat) (hS : okTy S = true) (hT : okTy T = true) (hbx : bootBuiltins x = some (.type S)) (hby : bootBuiltins y = some (.type T)) (hx : x ∈ bltNames) (hy : y ∈ bltNames)
    (hg : nm.sc.names.lookup ("isinstance" : Str) = some .globalImplicit) (hgx : nm.sc.names.lookup x = some .globalImplicit) (hgy : nm.sc.names.lookup y = some .globalImplicit)
    (hnx : (x == "__name__") = false := by rfl) (hdx : (x == ("__debug__" : Str)) = false := by rfl) (hny : (y == "__name__") = false := by rfl) (hdy : (y == ("__debug__" : Str)) = false := by rfl) : CE nm where
  syn := .Call (.Name "isinstance" fpos) [a.syn, .Tuple [.Name x xpos, .Name y ypos] k tpos] [] pos
  sem := semUn (dIsi fun d => isTy S d || isTy T d) a.sem
  pl := rfl
  snd := fun X G => by
    have gl : ∀ y, nm.sc.names.lookup y = some .globalImplicit → Gl X y := fun y hy => by show X.env.scope.names.lookup y = _; rw [G.sc]; exact hy
    have hnx' : x ≠ "__name__" := fun z => by rw [z] at hnx; simp at hnx
    have hny' : y ≠ "__name__" := fun z => by rw [z] at hny; simp at hny
    have px : PE X (.Name x xpos) (tC (.ty S)) := pe_bltn (gl x hgx) (G.blt x hx) hbx rfl hnx' hdx
    have py : PE X (.Name y ypos) (tC (.ty T)) := pe_bltn (gl y hgy) (G.blt y hy) hby rfl hny' hdy
    refine PE.imp (pe_callB call_isiT (gl _ hg) (G.blt "isinstance" (by decide)) (by decide +kernel) (pa_cons (a.snd X G) (pa_cons (pe_tup (pa_cons px (pa_cons py pa_nil))) pa_nil) (Pl.star a.pl _ _)) (by decide) (by decide) (Pl.star a.pl _ _)) fun σ H Q h => ?_
    obtain ⟨F, ρ, g, d, ρ', e, q⟩ := h
    obtain ⟨z, ρ1, e1, e⟩ := bnd_some e
    obtain ⟨d', e2, e3⟩ := Option.map_eq_some_iff.mp e
    obtain ⟨hnd, e4⟩ := ite_some e2
    subst e4
    cases e3
    refine ⟨F, ρ, g, z, ρ', e1, fun v1 F1 H1 g1 f1 d1 => ?_⟩
    refine ⟨(by show 2 ≤ sizeLine; decide), fun p hp => ?_⟩
    obtain ⟨g2, f2⟩ := g1.alloc (o := .tup [.ty S, .ty T]) hp (by show 2 ≤ sizeLine; decide)
    refine ⟨v1, p, [.ty S, .ty T], _, [.type S, .type T], isTy S z || isTy T z, rfl, upd_same, .cons (.ty S) (.cons (.ty T) .nil), ty_D g2.le hnd d1, ?_, q _ F1 _ g2 (f1.trans f2) (.bl _)⟩
    refine kitAny_cons (b := isTy S z) (kit_D hS z) (fun h0 => kitAny_cons (b := isTy T z) (kit_D hT z) (fun h1 => ?_) fun h1 => ?_) fun h0 => ?_
    · rw [h0, h1]; exact kitAny_nil
    · rw [h0, h1]; rfl
    · rw [h0]; rfl
/-! ### subscripts -/
def dIdx : D → D → Option D
  | .list ds, .int k => atI ds k
  | .tuple ds, .int k => atI ds k
  | .str z, .int k => if z.length ≤ sizeLine then (atI z.cps.toList k).map fun c => .str ⟨#[c]⟩ else none
  | .dict kvs, y => match keyOf y with
    | some k => if okK kvs = true then lookK kvs k else none
    | none => match kvs, nkT y with
      | (.bool true, .none) :: r, some k => lookN r k
      | _, _ => none
  | _, _ => none
/-- d[y] of a dict -/
theorem ix_dict {X : Cx} (hu : X.A.units + 1 < cLine) : IxR X (fun x y H Q => ∃ a v, x = .ref a ∧ DGet H a y (some v) ∧ Q v H) := by
  intro value slice pins s σ H x y v u Q I rx ry h hs
  obtain ⟨a, r, rfl, g, q⟩ := h
  obtain rfl : v = Value.ref a := rx
  exact tail_any (dict_typeIs I g) PySem.F.slot_dict_getitem.lookup (d_getItem hu I g ry fun w' s' I' rw' => ⟨r, H, I', rw', q⟩) hs
theorem atI_dp {K : KW} {F : Hp} {vs : List V} {ds : List D} {k : Int} {d : D} (r : DpAll K F vs ds) (h : atI ds k = some d) : ∃ v, atI vs k = some v ∧ Dp K F v d := by
  unfold atI at h ⊢
  rw [DpAll.length r]
  cases e : ixN ds.length k with
  | none => rw [e] at h; cases h
  | some j =>
    rw [e] at h
    exact DpAll.get r h
/-- d[y] of a keyed dict -/
theorem ix_kd {X : Cx} (hu : X.A.units + 65 < cLine) : IxR X (fun x y H Q => ∃ F a es kvs dk k d, x = .ref a ∧ Same F H ∧ H a = some (kdO X.w a es) ∧ DtR (kw X) F es kvs ∧ Dp (kw X) F y dk ∧ nkT dk = some k ∧ lookN kvs k = some d ∧ ∀ v, Dp (kw X) F v d → Q v H) := by
  intro value slice pins s σ H x y v u Q I rx ry h hs
  obtain ⟨F, a, es, kvs, dk, k, d, rfl, sm, ha, r, qk, hk, hl, q⟩ := h
  obtain ⟨ht, e2, e3⟩ := nkT_of hk
  obtain ⟨b, rfl⟩ := ref_of_nk qk e2 ht
  obtain rfl : v = Value.ref a := rx
  obtain rfl : u = Value.ref b := ry
  exact tail_any (kd_of I sm ha r).2.2.typeIs PySem.F.slot_dict_getitem.lookup (kd_get hu I sm ha r qk e2 e3 hl fun v' u' s' I' rv dp => ⟨v', H, I', rv, q v' dp⟩) hs
theorem ix_D {X : Cx} (hu : X.A.units + 65 < cLine) : IxR X (rD (kw X) dIdx) := by
  intro value slice pins s σ0 H x y v u Q I rx ry h hs
  obtain ⟨F, σ, ρ, dx, dy, d, g, px, py, e, q⟩ := h
  refine (IxR.or (IxR.or ix_seq (ix_dict (by omega))) (ix_kd hu)) value slice pins s σ0 H x y v u Q I rx ry ?_ hs
  unfold dIdx at e
  split at e
  · obtain ⟨a, xs, rfl, qa, ra⟩ := px.lstOf
    cases py
    obtain ⟨w, e1, e2⟩ := atI_dp ra e
    exact .inl (.inl (.inl ⟨a, xs, _, w, rfl, rfl, .inl (Rd.up qa g.le), e1, q w F H g Fw.refl e2⟩))
  · obtain ⟨a, xs, rfl, qa, ra⟩ := px.tupOf
    cases py
    obtain ⟨w, e1, e2⟩ := atI_dp ra e
    exact .inl (.inl (.inr (.inl ⟨a, xs, _, w, rfl, rfl, SqT.up qa g.le, e1, q w F H g Fw.refl e2⟩)))
  · split at e
    · rename_i hz
      obtain ⟨c, e1, rfl⟩ := Option.map_eq_some_iff.mp e
      cases px; cases py
      exact .inl (.inl (.inr (.inr ⟨_, _, c, rfl, rfl, hz, e1, q _ F H g Fw.refl (.str _)⟩)))
    · cases e
  · split at e
    · rename_i k hk
      split at e
      · rename_i hok
        obtain ⟨a, es, rfl, qa, ra⟩ := px.dictOf hok
        obtain rfl := kV_dp py hk
        rcases DkR.look k ra with ⟨h1, h2⟩ | ⟨v', d', h1, h2, h3⟩
        · rw [h2] at e; cases e
        · rw [h2] at e; cases e
          exact .inl (.inr ⟨a, v', rfl, .inl ⟨es, k, Rd.up qa g.le, rfl, h1.symm⟩, q v' F H g Fw.refl h3⟩)
      · cases e
    · split at e
      · rename_i hk
        obtain ⟨a, es, rfl, qa, ra⟩ := px.ditOf
        exact .inr ⟨F, a, es, _, _, _, _, rfl, g.le, g.le _ _ qa, ra, py, hk, e, fun v dp => q v F H g Fw.refl dp⟩
      · cases e
  · cases e
def eIdx (a b : CE nm) (pos : Pos) : CE nm where
  syn := .Subscript a.syn b.syn pos
  sem := semBin dIdx a.sem b.sem
  pl := rfl
  snd := fun X G => PE.imp (pe_ix (ix_D G.u65) (a.snd X G) (b.snd X G) (Pl.plainIx b.pl)) fun σ H Q h => tE_bin h
/-- x[e], x's cell one's own -/
def semOIdx (i : Nat) (e : En → Option (D × En)) : En → Option (D × En) := fun ρ => if isOwn ρ[i]? = true then bnd (e ρ) fun k ρ1 => match ρ1[i]? with
  | some (.own (.list ds)) => (dIdx (.list ds) k).map fun d => (d, ρ1)
  | _ => none
  else none
def oIdx (i : Nat) (x : Str) (e : CE nm) (xpos pos : Pos) (hN : nm.N[i]? = some x) (hv : visB nm.sc x = true) (hd : (x == ("__debug__" : Str)) = false := by rfl) (hcd : (x == ("__classdict__" : Str)) = false := by rfl) : CE nm where
  syn := .Subscript (.Name x xpos) e.syn pos
  sem := semOIdx i e.sem
  pl := rfl
  snd := fun X G => PE.imp (pe_ix ix_list (pe_var (i := i) (by rw [G.N]; exact hN) (by rw [G.sc]; exact vis_of hv) hd hcd) (e.snd X G) (Pl.plainIx e.pl)) fun σ H Q h => by
    obtain ⟨F, ρ, g, d, ρ', e0, q⟩ := h
    unfold semOIdx at e0
    split at e0
    · rename_i ho
      obtain ⟨c, ho⟩ := isOwn_of ho
      obtain ⟨k, ρ1, e1, e0⟩ := bnd_some e0
      split at e0
      · rename_i ds hc
        obtain ⟨d', e2, e3⟩ := Option.map_eq_some_iff.mp e0
        cases e3
        obtain ⟨a, w1, _, _⟩ := g.own i c ho
        refine ⟨.ref a, w1, F, ρ, g, k, ρ', e1, fun v F1 H1 g1 f1 d1 => ?_⟩
        obtain ⟨a', w2, _, vs, w3, w4⟩ := g1.own i _ hc
        rw [w1] at w2; cases w2
        cases k with
        | int k =>
          cases d1
          obtain ⟨w, e4, e5⟩ := atI_dp w4 e2
          exact ⟨a, vs, k, w, rfl, rfl, SqL.of w3, e4, q w F1 H1 g1 f1 e5⟩
        | _ => cases e2
      · cases e0
    · cases e0
/-! ### cells of one's own read for a moment -/
def thawS : Sl → Sl
  | .own d => .val d
  | s => s
theorem thawS_own {s : Sl} {d : D} : thawS s ≠ .own d := by
  cases s <;> exact fun z => nomatch z
theorem Gs.borrow {K : KW} {F H : Hp} {σ : St} {ρ : En} (g : Gs K F H σ ρ) : ∃ Fb, Gs K Fb H σ (ρ.map thawS) ∧ Same F Fb ∧ (∀ a, ¬ Owns σ (ρ.map thawS) a) := by
  classical
  have nown : ∀ (i : Nat) (d : D), (ρ.map thawS)[i]? ≠ some (.own d) := fun i d e => by
    rw [List.getElem?_map] at e
    cases q : ρ[i]? with
    | none => rw [q] at e; cases e
    | some x =>
      rw [q] at e
      exact thawS_own (Option.some.inj e)
  have no : ∀ a, ¬ Owns σ (ρ.map thawS) a := fun a ⟨i, d, e, _⟩ => nown i d e
  have s : Same F (fun a => if Owns σ ρ a then H a else F a) := fun a o h => by
    show (if Owns σ ρ a then H a else F a) = _
    rw [if_neg fun w => by rw [(g.ownThere w).2] at h; cases h]
    exact h
  refine ⟨fun a => if Owns σ ρ a then H a else F a, ?_, s, no⟩
  refine ⟨by rw [List.length_map]; exact g.len, fun a o h => ?_, g.sz, fun i d e => ?_, fun i d e => absurd e (nown i d), fun i j di dj a e => absurd e (nown i di)⟩
  · have h : (if Owns σ ρ a then H a else F a) = some o := h
    split at h
    · exact h
    · exact g.le a o h
  · rw [List.getElem?_map] at e
    cases q : ρ[i]? with
    | none => rw [q] at e; cases e
    | some x =>
      rw [q] at e
      have e : thawS x = .val d := Option.some.inj e
      cases x with
      | un => cases e
      | val d' =>
        cases e
        obtain ⟨v, w1, w2⟩ := g.val i d q
        exact ⟨v, w1, Dp.mono s w2⟩
      | own d' =>
        cases e
        obtain ⟨a, w1, w2, c⟩ := g.own i _ q
        refine ⟨_, w1, c.dpS s ?_⟩
        show (if Owns σ ρ a then H a else F a) = _
        rw [if_pos ⟨i, _, q, w1⟩]
/-- behind a moment's reading: all stands as before -/
theorem Gs.unborrow {K : KW} {F Fb F' H H' : Hp} {σ : St} {ρ ρb ρ' : En} (g : Gs K F H σ ρ) (no : ∀ a, ¬ Owns σ ρb a) (g' : Gs K F' H' σ ρ') (f' : Fw Fb H σ ρb F' H' σ ρ') : Gs K F H' σ ρ ∧ Fw F H σ ρ F H' σ ρ := by
  have k : ∀ a, H a ≠ none → H' a = H a := fun a n => (f'.keep a n (no a)).1
  refine ⟨⟨g.len, fun a o h => ?_, g'.sz, g.val, fun i d e => ?_, g.inj⟩, ⟨Same.refl _, fun a n _ => ⟨k a n, rfl⟩, fun _ w => .inl w, f'.th⟩⟩
  · have h2 := g.le a o h
    rw [k a (by rw [h2]; exact fun z => nomatch z)]
    exact h2
  · obtain ⟨a, w1, w2, c⟩ := g.own i d e
    exact ⟨a, w1, w2, c.mono (Same.refl _) (k a c.there)⟩
def flatD : D → Bool
  | .none => true
  | .bool _ => true
  | .int _ => true
  | .str _ => true
  | _ => false
theorem dp_flat {K : KW} {F F' : Hp} {v : V} {d : D} (h : flatD d = true) (q : Dp K F v d) : Dp K F' v d := by
  cases q <;> first | (cases h; done) | constructor
def semBF (e : En → Option (D × En)) : En → Option (D × En) := fun ρ => bnd (e (ρ.map thawS)) fun d _ => if flatD d = true then some (d, ρ) else none
def bFlat (e : CE nm) : CE nm where
  syn := e.syn
  sem := semBF e.sem
  pl := e.pl
  snd := fun X G => PE.imp (e.snd X G) fun σ H Q h => by
    obtain ⟨F, ρ, g, d, ρ', e0, q⟩ := h
    obtain ⟨d', ρ1, e1, e0⟩ := bnd_some e0
    obtain ⟨hf, e2⟩ := ite_some e0
    cases e2
    obtain ⟨Fb, gb, sb, no⟩ := g.borrow
    refine ⟨Fb, _, gb, d, ρ1, e1, fun v F1 H1 g1 f1 d1 => ?_⟩
    obtain ⟨g2, f2⟩ := g.unborrow no g1 f1
    exact q v F H1 g2 f2 (dp_flat hf d1)
def semBT (t : En → Option (Bool × En)) : En → Option (Bool × En) := fun ρ => bnd (t (ρ.map thawS)) fun b _ => some (b, ρ)
def bTest (t : CT nm) : CT nm where
  syn := t.syn
  sem := semBT t.sem
  snd := fun X G => PT.imp (t.snd X G) fun σ H Q h => by
    obtain ⟨F, ρ, g, d, ρ', e0, q⟩ := h
    obtain ⟨d', ρ1, e1, e0⟩ := bnd_some e0
    cases e0
    obtain ⟨Fb, gb, sb, no⟩ := g.borrow
    refine ⟨Fb, _, gb, d, ρ1, e1, fun F1 H1 g1 f1 => ?_⟩
    obtain ⟨g2, f2⟩ := g.unborrow no g1 f1
    exact q F H1 g2 f2
end
end FL
end L2

/-! FL7: statements -/
namespace L2
namespace FL
open PySem PySem.Spec PyProof.Rows
/-- how a statement ends -/
inductive Fl where
  | nx (ρ : En)
  | rt (d : D) (ρ : En)
  | bk (ρ : En)
  | ct (ρ : En)
def Io (IO : List Nat) (σ σ' : St) : Prop := ∀ i ∈ IO, σ'[i]? = σ[i]?
theorem Io.refl {IO : List Nat} {σ : St} : Io IO σ σ := fun _ _ => rfl
theorem Io.trans {IO : List Nat} {σ σ' σ'' : St} (a : Io IO σ σ') (b : Io IO σ' σ'') : Io IO σ σ'' := fun i h => (b i h).trans (a i h)
/-- what is wanted behind, by the end -/
def Post (K : KW) (IO : List Nat) (D : Ends) (F H : Hp) (σ : St) (ρ : En) : Fl → Prop
  | .nx ρ' => ∀ σ' F' H', Gs K F' H' σ' ρ' → Fw F H σ ρ F' H' σ' ρ' → Io IO σ σ' → D.nx σ' H'
  | .bk ρ' => ∀ σ' F' H', Gs K F' H' σ' ρ' → Fw F H σ ρ F' H' σ' ρ' → Io IO σ σ' → D.bk σ' H'
  | .ct ρ' => ∀ σ' F' H', Gs K F' H' σ' ρ' → Fw F H σ ρ F' H' σ' ρ' → Io IO σ σ' → D.ct σ' H'
  | .rt d ρ' => ∀ v σ' F' H', Gs K F' H' σ' ρ' → Fw F H σ ρ F' H' σ' ρ' → Io IO σ σ' → Dp K F' v d → D.rt v H'
theorem Post.trans {K : KW} {IO : List Nat} {D : Ends} {F H F1 H1 : Hp} {σ σ1 : St} {ρ ρ1 : En} {fl : Fl} (p : Post K IO D F H σ ρ fl) (f : Fw F H σ ρ F1 H1 σ1 ρ1) (i : Io IO σ σ1) : Post K IO D F1 H1 σ1 ρ1 fl := by
  cases fl with
  | nx ρ' => exact fun σ' F' H' g f' j => p σ' F' H' g (f.trans f') (i.trans j)
  | bk ρ' => exact fun σ' F' H' g f' j => p σ' F' H' g (f.trans f') (i.trans j)
  | ct ρ' => exact fun σ' F' H' g f' j => p σ' F' H' g (f.trans f') (i.trans j)
  | rt d ρ' => exact fun v σ' F' H' g f' j q => p v σ' F' H' g (f.trans f') (i.trans j) q
def tS (K : KW) (IO : List Nat) (sem : En → Option Fl) : TS := fun D σ H => ∃ F ρ, Gs K F H σ ρ ∧ ∃ fl, sem ρ = some fl ∧ Post K IO D F H σ ρ fl
structure CS (nm : Nm) where
  syn : Stmt
  sem : En → Option Fl
  snd : ∀ X, Gd nm X → PS X syn (tS (kw X) nm.IO sem)
structure CB (nm : Nm) where
  syn : List Stmt
  sem : En → Option Fl
  snd : ∀ X, Gd nm X → PSs X syn (tS (kw X) nm.IO sem)
/-! ### slots set -/
section
variable {K : KW} {F H F0 H0 : Hp} {σ σ0 : St} {ρ ρ0 : En} {a : Addr} {v : V} {d : D} {i : Nat} {vs : List V} {ds : List D}
theorem Gs.setVal (g : Gs K F H σ ρ) (r : Dp K F v d) (i : Nat) : Gs K F H (σ.set i (some v)) (ρ.set i (.val d)) ∧ Fw F H σ ρ F H (σ.set i (some v)) (ρ.set i (.val d)) := by
  have back : ∀ (j : Nat) (c : D), (ρ.set i (.val d))[j]? = some (.own c) → i ≠ j ∧ ρ[j]? = some (.own c) := fun j c q => by
    by_cases hj : i = j
    · subst hj
      by_cases hi : i < ρ.length
      · rw [List.getElem?_set_self hi] at q; cases q
      · rw [List.getElem?_eq_none (by rw [List.length_set]; omega)] at q; cases q
    · rw [List.getElem?_set_ne hj] at q; exact ⟨hj, q⟩
  refine ⟨⟨by rw [List.length_set, List.length_set]; exact g.len, g.le, g.sz, fun j c q => ?_, fun j c q => ?_, fun j k dj dk b q1 q2 q3 q4 => ?_⟩, Same.refl _, fun _ _ _ => ⟨rfl, rfl⟩, fun b ⟨j, c, q1, q2⟩ => ?_, fun _ h => h⟩
  · by_cases hj : i = j
    · subst hj
      have hi : i < ρ.length := by
        have := (List.getElem?_eq_some_iff.mp q).1
        rwa [List.length_set] at this
      rw [List.getElem?_set_self hi] at q; cases q
      exact ⟨v, List.getElem?_set_self (by rw [g.len]; exact hi), r⟩
    · rw [List.getElem?_set_ne hj] at q
      obtain ⟨w, q1, q2⟩ := g.val j c q
      exact ⟨w, by rw [List.getElem?_set_ne hj]; exact q1, q2⟩
  · obtain ⟨hj, q⟩ := back j c q
    obtain ⟨b, q1, q2, q3⟩ := g.own j c q
    exact ⟨b, by rw [List.getElem?_set_ne hj]; exact q1, q2, q3⟩
  · obtain ⟨hj, q1⟩ := back j dj q1
    obtain ⟨hk, q2⟩ := back k dk q2
    rw [List.getElem?_set_ne hj] at q3
    rw [List.getElem?_set_ne hk] at q4
    exact g.inj j k _ _ b q1 q2 q3 q4
  · obtain ⟨hj, q1⟩ := back j c q1
    rw [List.getElem?_set_ne hj] at q2
    exact .inl ⟨j, c, q1, q2⟩
/-- a new cell becomes a slot's own -/
theorem Gs.setOwn (g : Gs K F H σ ρ) (hc : Cel K F H a d) (hf : F a = none) (no : ¬ Owns σ ρ a) (i : Nat) (f : Fw F0 H0 σ0 ρ0 F H σ ρ) (h0 : H0 a = none) :
    Gs K F H (σ.set i (some (.ref a))) (ρ.set i (.own d)) ∧ Fw F0 H0 σ0 ρ0 F H (σ.set i (some (.ref a))) (ρ.set i (.own d)) := by
  have back : ∀ (j : Nat) (c : D), (ρ.set i (.own d))[j]? = some (.own c) → (i = j ∧ c = d ∧ i < ρ.length) ∨ (i ≠ j ∧ ρ[j]? = some (.own c)) := fun j c q => by
    by_cases hj : i = j
    · subst hj
      by_cases hi : i < ρ.length
      · rw [List.getElem?_set_self hi] at q; cases q; exact .inl ⟨rfl, rfl, hi⟩
      · rw [List.getElem?_eq_none (by rw [List.length_set]; omega)] at q; cases q
    · rw [List.getElem?_set_ne hj] at q; exact .inr ⟨hj, q⟩
  have at1 : i < ρ.length → (σ.set i (some (.ref a)))[i]? = some (some (.ref a)) := fun hi => List.getElem?_set_self (by rw [g.len]; exact hi)
  refine ⟨⟨by rw [List.length_set, List.length_set]; exact g.len, g.le, g.sz, fun j c q => ?_, fun j c q => ?_, fun j k dj dk b q1 q2 q3 q4 => ?_⟩, f.leF, f.keep, fun b ⟨j, c, q1, q2⟩ => ?_, f.th⟩
  · by_cases hj : i = j
    · subst hj
      have hi : i < ρ.length := by
        have := (List.getElem?_eq_some_iff.mp q).1
        rwa [List.length_set] at this
      rw [List.getElem?_set_self hi] at q; cases q
    · rw [List.getElem?_set_ne hj] at q
      obtain ⟨w, q1, q2⟩ := g.val j c q
      exact ⟨w, by rw [List.getElem?_set_ne hj]; exact q1, q2⟩
  · rcases back j c q with ⟨rfl, rfl, hi⟩ | ⟨hj, q⟩
    · exact ⟨a, at1 hi, hf, hc⟩
    · obtain ⟨b, q1, q2, q3⟩ := g.own j c q
      exact ⟨b, by rw [List.getElem?_set_ne hj]; exact q1, q2, q3⟩
  · rcases back j dj q1 with ⟨e1, _, hi⟩ | ⟨hj, q1'⟩
    · rcases back k dk q2 with ⟨e2, _, _⟩ | ⟨hk, q2'⟩
      · exact e1.symm.trans e2
      · subst e1
        rw [at1 hi] at q3; cases q3
        rw [List.getElem?_set_ne hk] at q4
        exact absurd ⟨k, dk, q2', q4⟩ no
    · rcases back k dk q2 with ⟨e2, _, hi⟩ | ⟨hk, q2'⟩
      · subst e2
        rw [at1 hi] at q4; cases q4
        rw [List.getElem?_set_ne hj] at q3
        exact absurd ⟨j, dj, q1', q3⟩ no
      · rw [List.getElem?_set_ne hj] at q3
        rw [List.getElem?_set_ne hk] at q4
        exact g.inj j k _ _ b q1' q2' q3 q4
  · rcases back j c q1 with ⟨rfl, rfl, hi⟩ | ⟨hj, q1⟩
    · rw [at1 hi] at q2; cases q2
      exact .inr h0
    · rw [List.getElem?_set_ne hj] at q2
      exact f.own b ⟨j, c, q1, q2⟩
/-- a cell of one's own gets other contents -/
theorem Gs.setCell (g : Gs K F H σ ρ) {c : D} {o : HO} (hr : ρ[i]? = some (.own c)) (ha : σ[i]? = some (some (.ref a))) (hz : szO o) (hc : Cel K F (upd H a o) a d) :
    Gs K F (upd H a o) σ (ρ.set i (.own d)) ∧ Fw F H σ ρ F (upd H a o) σ (ρ.set i (.own d)) := by
  obtain ⟨a', w1, w2, w3⟩ := g.own i c hr
  rw [ha] at w1; cases w1
  have hi := (g.inRange hr).1
  have ow : Owns σ ρ a := ⟨i, c, hr, ha⟩
  have back : ∀ (j : Nat) (e : D), (ρ.set i (.own d))[j]? = some (.own e) → (i = j ∧ e = d) ∨ (i ≠ j ∧ ρ[j]? = some (.own e)) := fun j e q => by
    by_cases hj : i = j
    · subst hj
      rw [List.getElem?_set_self hi] at q; cases q; exact .inl ⟨rfl, rfl⟩
    · rw [List.getElem?_set_ne hj] at q; exact .inr ⟨hj, q⟩
  have was : ∀ (j : Nat) (e : D), (ρ.set i (.own d))[j]? = some (.own e) → ∃ e', ρ[j]? = some (.own e') := fun j e q => by
    rcases back j e q with ⟨rfl, _⟩ | ⟨_, q⟩
    · exact ⟨_, hr⟩
    · exact ⟨_, q⟩
  refine ⟨⟨by rw [List.length_set]; exact g.len, fun b u q => ?_, fun b u q => ?_, fun j e q => ?_, fun j e q => ?_, fun j k dj dk b q1 q2 q3 q4 => ?_⟩, Same.refl _, fun b n no => ⟨upd_ne fun z => no (by rw [z]; exact ow), rfl⟩, fun b ⟨j, e, q1, q2⟩ => ?_, fun b q => ?_⟩
  · rw [upd_ne fun z => by rw [z, w2] at q; cases q]
    exact g.le b u q
  · by_cases hb : b = a
    · subst hb; rw [upd_same] at q; cases q; exact hz
    · rw [upd_ne hb] at q; exact g.sz b u q
  · by_cases hj : i = j
    · subst hj
      rw [List.getElem?_set_self hi] at q; cases q
    · rw [List.getElem?_set_ne hj] at q
      exact g.val j e q
  · rcases back j e q with ⟨rfl, rfl⟩ | ⟨hj, q⟩
    · exact ⟨a, ha, w2, hc⟩
    · obtain ⟨b, q1, q2, q3⟩ := g.own j e q
      have hb : b ≠ a := fun z => by
        subst z
        exact hj (g.inj _ _ _ _ _ hr q ha q1)
      exact ⟨b, q1, q2, q3.mono (Same.refl _) (upd_ne hb)⟩
  · obtain ⟨e1, w1⟩ := was j dj q1
    obtain ⟨e2, w2⟩ := was k dk q2
    exact g.inj j k _ _ b w1 w2 q3 q4
  · obtain ⟨e', w⟩ := was j e q1
    exact .inl ⟨j, e', w, q2⟩
  · by_cases hb : b = a
    · subst hb; rw [upd_same] at q; cases q
    · rw [upd_ne hb] at q; exact q
end
section
variable {nm : Nm}
def locB (nm : Nm) (x : Str) : Bool := match nm.sc.names.lookup x with
  | some .local => true
  | some .cell => nm.cf x
  | _ => false
theorem loc_of {x : Str} (h : locB nm x = true) : Loc nm.sc x := by
  unfold locB at h
  unfold Loc
  split at h
  · exact .inl (by assumption)
  · exact .inr (by assumption)
  · cases h
theorem Gd.hf {X : Cx} (G : Gd nm X) {x : Str} (h : locB nm x = true) : X.fn x = true ∨ X.env.scope.names.lookup x = some .local := by
  unfold locB at h
  split at h
  · exact .inr (by rw [G.sc]; assumption)
  · exact .inl (G.fn x h)
  · cases h
theorem Io.set {IO : List Nat} {σ : St} {i : Nat} {w : Option V} (h : i ∉ IO) : Io IO σ (σ.set i w) := fun j hj => by
  rw [List.getElem?_set_ne fun z => h (by rw [z]; exact hj)]
/-! ### targets -/
def tG (K : KW) (IO : List Nat) (sl : List Nat) (sem : D → En → Option En) : TG := fun v σ H Q => ∃ F ρ d, Gs K F H σ ρ ∧ Dp K F v d ∧ ∃ ρ', sem d ρ = some ρ' ∧
  ∀ σ' F' H', Gs K F' H' σ' ρ' → Fw F H σ ρ F' H' σ' ρ' → Io IO σ σ' → (∀ i, i ∉ sl → σ'[i]? = σ[i]?) → σ'.length = σ.length → Q σ' H'
structure CG (nm : Nm) where
  syn : Expr
  sem : D → En → Option En
  sl : List Nat
  pl : Pl syn = true
  snd : ∀ X, Gd nm X → PG X syn (tG (kw X) nm.IO sl sem)
theorem PG.imp {X : Cx} {e : Expr} {t t' : TG} (h : PG X e t) (hi : ∀ v σ H Q, t' v σ H Q → t v σ H Q) : PG X e t' := ⟨fun pins s σ H v u Q I r q => h.run pins s σ H v u Q I r (hi v σ H Q q)⟩
theorem PGs.imp {X : Cx} {e : List Expr} {t t' : TGs} (h : PGs X e t) (hi : ∀ v σ H Q, t' v σ H Q → t v σ H Q) : PGs X e t' := ⟨fun pins s σ H v u Q I r q => h.run pins s σ H v u Q I r (hi v σ H Q q)⟩
def semG (i : Nat) : D → En → Option En := fun d ρ => some (ρ.set i (.val d))
def gNm (i : Nat) (x : Str) (pos : Pos) (hN : nm.N[i]? = some x) (hl : locB nm x = true) (hio : nm.IO.contains i = false) : CG nm where
  syn := .Name x pos
  sem := semG i
  sl := [i]
  pl := rfl
  snd := fun X G => PG.imp (pg_name (i := i) (by rw [G.N]; exact G.nd) (by rw [G.N]; exact hN) (by rw [G.sc]; exact loc_of hl) (G.hf hl)) fun v σ H Q h => by
    obtain ⟨F, ρ, d, g, r, ρ', e, q⟩ := h
    cases e
    obtain ⟨g1, f1⟩ := g.setVal r i
    refine q _ F H g1 f1 (Io.set fun z => ?_) (fun j hj => ?_) (List.length_set ..)
    · rw [List.contains_iff_mem.mpr z] at hio; cases hio
    · rw [List.getElem?_set_ne fun z => hj (by simp [z])]
/-- several targets -/
def tGs (K : KW) (IO : List Nat) (sl : List Nat) (sem : List D → En → Option En) : TGs := fun vs σ H Q => ∃ F ρ ds, Gs K F H σ ρ ∧ DpAll K F vs ds ∧ ∃ ρ', sem ds ρ = some ρ' ∧
  ∀ σ' F' H', Gs K F' H' σ' ρ' → Fw F H σ ρ F' H' σ' ρ' → Io IO σ σ' → (∀ i, i ∉ sl → σ'[i]? = σ[i]?) → σ'.length = σ.length → Q σ' H'
structure CGs (nm : Nm) where
  syn : List Expr
  sem : List D → En → Option En
  sl : List Nat
  pl : ∀ e ∈ syn, Pl e = true
  snd : ∀ X, Gd nm X → PGs X syn (tGs (kw X) nm.IO sl sem)
def semGNil : List D → En → Option En
  | [], ρ => some ρ
  | _ :: _, _ => none
def semGCons (a : D → En → Option En) (b : List D → En → Option En) : List D → En → Option En
  | [], _ => none
  | d :: ds, ρ => (a d ρ).bind fun ρ1 => b ds ρ1
theorem asgEach (h : Pl e = true) (es : List Expr) (env : Env) : assignEach (e :: es) env = (false, assign e env) :: assignEach es env := by
  cases e <;> first | rfl | exact nomatch h
def gsNil : CGs nm where
  syn := []
  sem := semGNil
  sl := []
  pl := fun _ h => nomatch h
  snd := fun X G => PGs.imp pgs_nil fun vs σ H Q h => by
    obtain ⟨F, ρ, ds, g, r, ρ', e, q⟩ := h
    cases r with
    | nil => cases e; exact ⟨rfl, q σ F H g Fw.refl Io.refl (fun _ _ => rfl) rfl⟩
    | cons _ _ => cases e
def gsCons (a : CG nm) (b : CGs nm) : CGs nm where
  syn := a.syn :: b.syn
  sem := semGCons a.sem b.sem
  sl := a.sl ++ b.sl
  pl := fun x h => by
    rcases List.mem_cons.mp h with rfl | h
    · exact a.pl
    · exact b.pl x h
  snd := fun X G => PGs.imp (pgs_cons (a.snd X G) (b.snd X G) (by rw [asgEach a.pl]; rfl)) fun vs σ H Q h => by
    obtain ⟨F, ρ, ds, g, r, ρ', e, q⟩ := h
    cases r with
    | nil => cases e
    | cons r1 r2 =>
      obtain ⟨ρ1, e1, e2⟩ := Option.bind_eq_some_iff.mp e
      refine ⟨_, _, rfl, F, ρ, _, g, r1, ρ1, e1, fun σ1 F1 H1 g1 f1 i1 s1 l1 => ?_⟩
      refine ⟨F1, ρ1, _, g1, DpAll.mono f1.leF r2, ρ', e2, fun σ2 F2 H2 g2 f2 i2 s2 l2 => ?_⟩
      refine q σ2 F2 H2 g2 (f1.trans f2) (i1.trans i2) (fun j hj => ?_) (l2.trans l1)
      rw [List.mem_append, not_or] at hj
      exact (s2 j hj.2).trans (s1 j hj.1)
def semGTup (n : Nat) (b : List D → En → Option En) : D → En → Option En
  | .tuple ds, ρ => if ds.length = n then b ds ρ else none
  | .dict [(.none, d), (.none, e)], ρ => if 2 = n then b [d, e] ρ else none
  | _, _ => none
theorem asgEach_len : ∀ {es : List Expr}, (∀ e ∈ es, Pl e = true) → ∀ env : Env, (assignEach es env).length = es.length ∧ (assignEach es env).findIdx? (·.1) = none := by
  intro es
  induction es with
  | nil => intro _ _; exact ⟨rfl, rfl⟩
  | cons e es ih =>
    intro h env
    obtain ⟨h1, h2⟩ := ih (fun x hx => h x (by simp [hx])) env
    rw [asgEach (h e (by simp))]
    refine ⟨by rw [List.length_cons, List.length_cons, h1], ?_⟩
    rw [List.findIdx?_cons, h2]
    rfl
def gTp (b : CGs nm) (k : Nat) (pos : Pos) : CG nm where
  syn := .Tuple b.syn k pos
  sem := semGTup b.syn.length b.sem
  sl := b.sl
  pl := rfl
  snd := fun X G => PG.imp (pg_tup G.calm (b.snd X G) (asgEach_len b.pl X.env).1 (asgEach_len b.pl X.env).2) fun v σ H Q h => by
    obtain ⟨F, ρ, d, g, r, ρ', e, q⟩ := h
    unfold semGTup at e
    split at e
    · obtain ⟨a, xs, rfl, qa, ra⟩ := r.tupOf
      split at e
      · rename_i hl
        exact ⟨a, xs, rfl, SqT.up qa g.le, (DpAll.length ra).trans hl, F, ρ, _, g, ra, ρ', e, q⟩
      · cases e
    · obtain ⟨a, x, y, rfl, qa, rx, ry⟩ := r.wprOf
      split at e
      · rename_i hl
        exact ⟨a, [x, y], rfl, SqT.up qa g.le, hl, F, ρ, _, g, .cons rx (.cons ry .nil), ρ', e, q⟩
      · cases e
    · cases e
/-! ### statements -/
def semAsg (i : Nat) (e : En → Option (D × En)) : En → Option Fl := fun ρ => bnd (e ρ) fun d ρ1 => some (.nx (ρ1.set i (.val d)))
def sAsg (i : Nat) (x : Str) (e : CE nm) (xpos pos : Pos) (hN : nm.N[i]? = some x) (hl : locB nm x = true) (hio : nm.IO.contains i = false) (hs : Nc e.syn = true) : CS nm where
  syn := .Assign [.Name x xpos] e.syn pos
  sem := semAsg i e.sem
  snd := fun X G => PS.imp (ps_set (i := i) (by rw [G.N]; exact G.nd) (by rw [G.N]; exact hN) (by rw [G.sc]; exact loc_of hl) (e.snd X G) (Nc.swaps hs _ _ _) (G.hf hl)) fun D σ H h => by
    obtain ⟨F, ρ, g, fl, e0, p⟩ := h
    obtain ⟨d, ρ1, e1, e0⟩ := bnd_some e0
    cases e0
    refine ⟨F, ρ, g, d, ρ1, e1, fun v F1 H1 g1 f1 d1 => ?_⟩
    obtain ⟨g2, f2⟩ := g1.setVal d1 i
    exact p _ F1 H1 g2 (f1.trans f2) (Io.set fun z => by rw [List.contains_iff_mem.mpr z] at hio; cases hio)
def semAsgN (i : Nat) (e : En → Option (List D × En)) : En → Option Fl := fun ρ => bnd (e ρ) fun ds ρ1 => some (.nx (ρ1.set i (.own (.list ds))))
def sAsgN (i : Nat) (x : Str) (e : CN nm) (xpos pos : Pos) (hN : nm.N[i]? = some x) (hl : locB nm x = true) (hio : nm.IO.contains i = false) (hs : Nc e.syn = true) : CS nm where
  syn := .Assign [.Name x xpos] e.syn pos
  sem := semAsgN i e.sem
  snd := fun X G => PS.imp (ps_set (i := i) (by rw [G.N]; exact G.nd) (by rw [G.N]; exact hN) (by rw [G.sc]; exact loc_of hl) (e.snd X G) (Nc.swaps hs _ _ _) (G.hf hl)) fun D σ H h => by
    obtain ⟨F, ρ, g, fl, e0, p⟩ := h
    obtain ⟨ds, ρ1, e1, e0⟩ := bnd_some e0
    cases e0
    refine ⟨F, ρ, g, ds, ρ1, e1, fun a vs F1 H1 g1 f1 h0 no hf hH r => ?_⟩
    obtain ⟨g2, f2⟩ := g1.setOwn (d := .list ds) ⟨vs, hH, r⟩ hf no i f1 h0
    exact p _ F1 H1 g2 f2 (Io.set fun z => by rw [List.contains_iff_mem.mpr z] at hio; cases hio)
/-- target = e, any target -/
def semAsgG (g : D → En → Option En) (e : En → Option (D × En)) : En → Option Fl := fun ρ => bnd (e ρ) fun d ρ1 => (g d ρ1).map .nx
def sAsgG (t : CG nm) (e : CE nm) (pos : Pos) (hs : Nc e.syn = true) (hw : ∀ X, Gd nm X → swappedStores [t.syn] e.syn X.env = pure none) : CS nm where
  syn := .Assign [t.syn] e.syn pos
  sem := semAsgG t.sem e.sem
  snd := fun X G => PS.imp (ps_asg (e.snd X G) (t.snd X G) (Nc.swaps hs _ _ _) (hw X G) (by rw [asgEach t.pl]; rfl)) fun D σ H h => by
    obtain ⟨F, ρ, g, fl, e0, p⟩ := h
    obtain ⟨d, ρ1, e1, e0⟩ := bnd_some e0
    obtain ⟨ρ2, e2, e3⟩ := Option.map_eq_some_iff.mp e0
    cases e3
    refine ⟨F, ρ, g, d, ρ1, e1, fun v F1 H1 g1 f1 d1 => ?_⟩
    exact ⟨F1, ρ1, d, g1, d1, ρ2, e2, fun σ2 F2 H2 g2 f2 i2 _ _ => p σ2 F2 H2 g2 (f1.trans f2) i2⟩
/-- an expression's value dropped -/
def semDrop (e : En → Option (D × En)) : En → Option Fl := fun ρ => bnd (e ρ) fun _ ρ1 => some (.nx ρ1)
def sExpr (e : CE nm) (pos : Pos) (hs : Nc e.syn = true) : CS nm where
  syn := .Expr e.syn pos
  sem := semDrop e.sem
  snd := fun X G => PS.imp (ps_expr (e.snd X G) (Nc.swaps hs _ _ _)) fun D σ H h => by
    obtain ⟨F, ρ, g, fl, e0, p⟩ := h
    obtain ⟨d, ρ1, e1, e0⟩ := bnd_some e0
    cases e0
    exact ⟨F, ρ, g, d, ρ1, e1, fun v F1 H1 g1 f1 _ => p σ F1 H1 g1 f1 Io.refl⟩
def semRet (e : En → Option (D × En)) : En → Option Fl := fun ρ => bnd (e ρ) fun d ρ1 => some (.rt d ρ1)
def sRet (e : CE nm) (pos : Pos) : CS nm where
  syn := .Return (some e.syn) pos
  sem := semRet e.sem
  snd := fun X G => PS.imp (ps_ret (e.snd X G)) fun D σ H h => by
    obtain ⟨F, ρ, g, fl, e0, p⟩ := h
    obtain ⟨d, ρ1, e1, e0⟩ := bnd_some e0
    cases e0
    exact ⟨F, ρ, g, d, ρ1, e1, fun v F1 H1 g1 f1 dp => p v σ F1 H1 g1 f1 Io.refl dp⟩
def semIfS (t : En → Option (Bool × En)) (a b : En → Option Fl) : En → Option Fl := fun ρ => bnd (t ρ) fun c ρ1 => if c = true then a ρ1 else b ρ1
def sIf (t : CT nm) (a b : CB nm) (pos : Pos) : CS nm where
  syn := .If t.syn a.syn b.syn pos
  sem := semIfS t.sem a.sem b.sem
  snd := fun X G => PS.imp (ps_if (t.snd X G) (a.snd X G) (b.snd X G)) fun D σ H h => by
    obtain ⟨F, ρ, g, fl, e0, p⟩ := h
    obtain ⟨c, ρ1, e1, e0⟩ := bnd_some e0
    refine ⟨F, ρ, g, c, ρ1, e1, fun F1 H1 g1 f1 => ?_⟩
    dsimp only
    split
    · rename_i hc
      rw [if_pos hc] at e0
      exact ⟨F1, ρ1, g1, fl, e0, p.trans f1 Io.refl⟩
    · rename_i hc
      rw [if_neg hc] at e0
      exact ⟨F1, ρ1, g1, fl, e0, p.trans f1 Io.refl⟩
def semNext : En → Option Fl := fun ρ => some (.nx ρ)
def semSeq (a b : En → Option Fl) : En → Option Fl := fun ρ => match a ρ with
  | some (.nx ρ1) => b ρ1
  | o => o
def bNil : CB nm where
  syn := []
  sem := semNext
  snd := fun X G => PSs.imp pss_nil fun D σ H h => by
    obtain ⟨F, ρ, g, fl, e0, p⟩ := h
    cases e0
    exact p σ F H g Fw.refl Io.refl
def bCons (a : CS nm) (b : CB nm) : CB nm where
  syn := a.syn :: b.syn
  sem := semSeq a.sem b.sem
  snd := fun X G => PSs.imp (pss_cons (a.snd X G) (b.snd X G)) fun D σ H h => by
    obtain ⟨F, ρ, g, fl, e0, p⟩ := h
    unfold semSeq at e0
    refine ⟨F, ρ, g, ?_⟩
    cases e1 : a.sem ρ with
    | none => rw [e1] at e0; cases e0
    | some f1 =>
      rw [e1] at e0
      refine ⟨f1, rfl, ?_⟩
      cases f1 with
      | nx ρ1 => exact fun σ1 F1 H1 g1 f1 i1 => ⟨F1, ρ1, g1, fl, e0, p.trans f1 i1⟩
      | bk ρ1 => cases e0; exact p
      | ct ρ1 => cases e0; exact p
      | rt d ρ1 => cases e0; exact p
/-! ### what changes a cell of one's own -/
/-- x[k] = e -/
def semSet (i : Nat) (k e : En → Option (D × En)) : En → Option Fl := fun ρ => bnd (e ρ) fun d ρ1 => if isOwn ρ1[i]? = true then bnd (k ρ1) fun j ρ2 => match ρ2[i]?, j with
    | some (.own (.list ds)), .int n => (ixN ds.length n).map fun m => .nx (ρ2.set i (.own (.list (ds.set m d))))
    | _, _ => none
  else none
def sSet (i : Nat) (x : Str) (k e : CE nm) (xpos tpos pos : Pos) (hN : nm.N[i]? = some x) (hv : visB nm.sc x = true) (hs : Nc e.syn = true) (hd : (x == ("__debug__" : Str)) = false := by rfl) (hcd : (x == ("__classdict__" : Str)) = false := by rfl)
    (ha : ∀ (env : Env) (v : Value), assign (.Subscript (.Name x xpos) k.syn tpos) env v = (do
      let ov ← holding [v] (eval (.Name x xpos) env)
      let iv ← holding [v, ov] (eval k.syn env)
      standAt tpos
      holding [v, ov, iv] (setItem ov iv v)
      release [v, ov, iv] []) := by intros; rfl) : CS nm where
  syn := .Assign [.Subscript (.Name x xpos) k.syn tpos] e.syn pos
  sem := semSet i k.sem e.sem
  snd := fun X G => PS.imp (ps_asg (e.snd X G) (pg_sub (pe_var (i := i) (by rw [G.N]; exact hN) (by rw [G.sc]; exact vis_of hv) hd hcd) (k.snd X G) set_list (ha X.env)) (Nc.swaps hs (some (.Subscript (.Name x xpos) k.syn tpos)) pos.line X.env)) fun D σ H h => by
    obtain ⟨F, ρ, g, fl, e0, p⟩ := h
    obtain ⟨d, ρ1, e1, e0⟩ := bnd_some e0
    refine ⟨F, ρ, g, d, ρ1, e1, fun v F1 H1 g1 f1 d1 => ?_⟩
    split at e0
    · rename_i ho
      obtain ⟨c, ho⟩ := isOwn_of ho
      obtain ⟨j, ρ2, e2, e0⟩ := bnd_some e0
      obtain ⟨a, w1, _, _⟩ := g1.own i c ho
      refine ⟨.ref a, w1, F1, ρ1, g1, j, ρ2, e2, fun w F2 H2 g2 f2 d2 => ?_⟩
      split at e0
      · rename_i ds n hc
        obtain ⟨m, e3, e4⟩ := Option.map_eq_some_iff.mp e0
        cases e4
        obtain ⟨a', w2, w3, vs, w4, w5⟩ := g2.own i _ hc
        rw [w1] at w2; cases w2
        cases d2
        have d1' := Dp.mono f2.leF d1
        have hl := DpAll.length w5
        obtain ⟨g3, f3⟩ := g2.setCell (o := .lst (vs.set m v)) (d := .list (ds.set m d)) hc w1 (by show (vs.set m v).length ≤ sizeLine; rw [List.length_set]; exact g2.sz _ _ w4) ⟨_, upd_same, DpAll.set d1' m w5⟩
        exact ⟨a, vs, n, m, rfl, rfl, w4, by rw [hl]; exact e3, p σ F2 _ g3 (f1.trans (f2.trans f3)) Io.refl⟩
      · cases e0
    · cases e0
theorem few1 {cpos : Pos} {env : Env} {e : Expr} (h : Pl e = true) : ((backTo cpos (starEach [e] env)).all (fun x => !x.1) && (backToKw cpos (keywordEach [] env)).all (fun x => x.1.isSome)
      && decide (([e] : List Expr).length + ([] : List Keyword).length + (if ([] : List Keyword).isEmpty then 0 else 1) < 30)) = true := by
  rw [Pl.star h]
  rfl
theorem few2 {cpos : Pos} {env : Env} {e e' : Expr} (h : Pl e = true) (h' : Pl e' = true) : ((backTo cpos (starEach [e, e'] env)).all (fun x => !x.1) && (backToKw cpos (keywordEach [] env)).all (fun x => x.1.isSome)
      && decide (([e, e'] : List Expr).length + ([] : List Keyword).length + (if ([] : List Keyword).isEmpty then 0 else 1) < 30)) = true := by
  rw [Pl.star h, Pl.star h']
  rfl
theorem MtM.r {X : Cx} {id : String} {r : V → List V → Hp → VK → Prop} (h : MtM X id r) : MtR X id r := by
  intro pins s σ H x xs v us Q I rx rs q
  exact h pins s σ H x xs v us Q I rx rs q
def isOwnL : Option Sl → Bool
  | some (.own (.list _)) => true
  | _ => false
theorem isOwnL_of {o : Option Sl} (h : isOwnL o = true) : ∃ ds, o = some (.own (.list ds)) := by
  unfold isOwnL at h
  split at h
  · exact ⟨_, rfl⟩
  · cases h
/-- x.append(e) -/
def semApp (i : Nat) (e : En → Option (D × En)) : En → Option (D × En) := fun ρ => if isOwnL ρ[i]? = true then bnd (e ρ) fun d ρ1 => match ρ1[i]? with
    | some (.own (.list ds)) => if ds.length < sizeLine then some (.none, ρ1.set i (.own (.list (ds ++ [d])))) else none
    | _ => none
  else none
def oAppend (i : Nat) (x : Str) (e : CE nm) (xpos apos cpos : Pos) (hN : nm.N[i]? = some x) (hv : visB nm.sc x = true) (hp : (apos.endLine == cpos.line) = true) (hd : (x == ("__debug__" : Str)) = false := by rfl) (hcd : (x == ("__classdict__" : Str)) = false := by rfl) : CE nm where
  syn := .Call (.Attribute (.Name x xpos) "append" apos) [e.syn] [] cpos
  sem := semApp i e.sem
  pl := rfl
  snd := fun X G => PE.imp (pe_bm PySem.F.plainAttrs_list PySem.F.slot_list_append PySem.F.type_list_append mt_append (pe_var (i := i) (by rw [G.N]; exact hN) (by rw [G.sc]; exact vis_of hv) hd hcd) (pa_cons (e.snd X G) pa_nil (Pl.star e.pl _ _)) rfl (few1 e.pl) hp (Pl.star e.pl _ _) rfl) fun σ H Q h => by
    obtain ⟨F, ρ, g, d, ρ', e0, q⟩ := h
    unfold semApp at e0
    split at e0
    · rename_i ho
      obtain ⟨ds0, ho⟩ := isOwnL_of ho
      obtain ⟨y, ρ1, e1, e0⟩ := bnd_some e0
      split at e0
      · rename_i ds hc
        obtain ⟨hz, e2⟩ := ite_some e0
        cases e2
        obtain ⟨a, w1, _, vs0, w0, _⟩ := g.own i _ ho
        refine ⟨.ref a, w1, .inl ⟨rfl, vs0, SqL.of w0⟩, F, ρ, g, y, ρ1, e1, fun v F1 H1 g1 f1 d1 => ?_⟩
        obtain ⟨a', w2, w3, vs, w4, w5⟩ := g1.own i _ hc
        rw [w1] at w2; cases w2
        have hl := DpAll.length w5
        obtain ⟨g3, f3⟩ := g1.setCell (o := .lst (vs ++ [v])) (d := .list (ds ++ [y])) hc w1 (by show (vs ++ [v]).length ≤ sizeLine; rw [List.length_append, List.length_singleton]; omega) ⟨_, upd_same, DpAll.append w5 (.cons d1 .nil)⟩
        exact ⟨a, vs, v, rfl, rfl, w4, by omega, q _ F1 _ g3 (f1.trans f3) .non⟩
      · cases e0
    · cases e0
/-- x.pop(k) -/
def semPop (i : Nat) (e : En → Option (D × En)) : En → Option (D × En) := fun ρ => if isOwnL ρ[i]? = true then bnd (e ρ) fun k ρ1 => match ρ1[i]?, k with
    | some (.own (.list ds)), .int n => if 0 ≤ n ∧ n < ds.length then (ds[n.toNat]?).map fun y => (y, ρ1.set i (.own (.list (ds.eraseIdx n.toNat)))) else none
    | _, _ => none
  else none
theorem seqIndex_nat {n : Int} {l : Nat} (h0 : 0 ≤ n) (h : n < l) : seqIndex? n l = some n.toNat := by
  have q : ixN l n = some n.toNat := by unfold ixN; rw [if_pos h0, if_pos h]
  exact (ixN_seq q).1
def oPop (i : Nat) (x : Str) (e : CE nm) (xpos apos cpos : Pos) (hN : nm.N[i]? = some x) (hv : visB nm.sc x = true) (hp : (apos.endLine == cpos.line) = true) (hd : (x == ("__debug__" : Str)) = false := by rfl) (hcd : (x == ("__classdict__" : Str)) = false := by rfl) : CE nm where
  syn := .Call (.Attribute (.Name x xpos) "pop" apos) [e.syn] [] cpos
  sem := semPop i e.sem
  pl := rfl
  snd := fun X G => PE.imp (pe_bm PySem.F.plainAttrs_list PySem.F.slot_list_pop PySem.F.type_list_pop mt_popAt (pe_var (i := i) (by rw [G.N]; exact hN) (by rw [G.sc]; exact vis_of hv) hd hcd) (pa_cons (e.snd X G) pa_nil (Pl.star e.pl _ _)) rfl (few1 e.pl) hp (Pl.star e.pl _ _) rfl) fun σ H Q h => by
    obtain ⟨F, ρ, g, d, ρ', e0, q⟩ := h
    unfold semPop at e0
    split at e0
    · rename_i ho
      obtain ⟨ds0, ho⟩ := isOwnL_of ho
      obtain ⟨y, ρ1, e1, e0⟩ := bnd_some e0
      split at e0
      · rename_i ds n hc
        split at e0
        · rename_i hr
          obtain ⟨z, e2, e3⟩ := Option.map_eq_some_iff.mp e0
          cases e3
          obtain ⟨a, w1, _, vs0, w0, _⟩ := g.own i _ ho
          refine ⟨.ref a, w1, .inl ⟨rfl, vs0, SqL.of w0⟩, F, ρ, g, _, ρ1, e1, fun v F1 H1 g1 f1 d1 => ?_⟩
          cases d1
          obtain ⟨a', w2, w3, vs, w4, w5⟩ := g1.own i _ hc
          rw [w1] at w2; cases w2
          have hl := DpAll.length w5
          have hz : vs.length ≤ sizeLine := g1.sz _ _ w4
          obtain ⟨w, w6, w7⟩ := DpAll.get w5 e2
          obtain ⟨g3, f3⟩ := g1.setCell (o := .lst (vs.eraseIdx n.toNat)) (d := .list (ds.eraseIdx n.toNat)) hc w1 (by show (vs.eraseIdx n.toNat).length ≤ sizeLine; exact Nat.le_trans (len_erase _ _) hz) ⟨_, upd_same, DpAll.eraseIdx _ w5⟩
          have hz2 : vs.length < 2 ^ 63 := Nat.lt_of_le_of_lt hz line63
          have h1 : -(2 ^ 63) ≤ n := by omega
          have h2 : n < 2 ^ 63 := by omega
          exact ⟨a, vs, n, n.toNat, w, rfl, rfl, w4, h1, h2, seqIndex_nat hr.1 (by omega), w6, q _ F1 _ g3 (f1.trans f3) w7⟩
        · cases e0
      · cases e0
    · cases e0
end
end FL
end L2

/-! FL7e: enumerate(tuple) -/
namespace L2
namespace FL
open PySem PySem.Spec PyProof.Rows
set_option maxHeartbeats 1000000 in
theorem meets_enumOne {v : Value} {ob : Obj} {Hh : Heap → Prop} (B : Begins v ob Hh) :
    Meets (Builtin.«enumerate.__new__» ⟨[.type "enumerate", v], []⟩) (fun _ R s => Hh s.heap ∧
      R (.ok (.ret (.ref (s.heap.push ob).objs.size))) { s with heap := (s.heap.push ob).push { cls := .type "enumerate", data := .fields #[.none, .bool false, .ref s.heap.objs.size, rawInt 0, .none, .none] } }) :=
  .of_wp fun P0 w0 A0 R0 s0 hs0 => by
    obtain ⟨h0, g0, d0, t0, o0⟩ := s0
    obtain ⟨hB, hR⟩ := hs0
    have sub0 := sub_enumerate
    have itr : ∀ {A' : Around} {E' : Value → Shared → Prop} {Q' : Value → Shared → Prop}, Q' (.ref h0.objs.size) ⟨h0.push ob, g0, d0, t0, o0⟩ → wpAny (model P0 w0) A' (pyIter v) Q' E' ⟨h0, g0, d0, t0, o0⟩ := fun q0 => B.iter P0 w0 _ _ ⟨h0, g0, d0, t0, o0⟩ _ hB q0
    wp_walk using itr
    refine wpAny_stack_any fun stk0 => wpAny_pure ?_
    split
    · rename_i cc _ _ _ _ _
      cases (cc == Value.type "enumerate") <;> (wp_walk using itr; exact ⟨_, rfl, hR⟩)
    · wp_walk using itr
      exact ⟨_, rfl, hR⟩
theorem enumOne_begins {prog : Program} {w : World} {A : Around} {E : Value → Shared → Prop} {s : Shared} {v : Value} {ob : Obj} {Hh : Heap → Prop} {Q : Value → Shared → Prop} (B : Begins v ob Hh) (hB : Hh s.heap)
    (hQ : ∀ h', IsEnum h' (s.heap.objs.size + 1) s.heap.objs.size 0 .none → h'.get? s.heap.objs.size = some ob → (∀ b o, s.heap.get? b = some o → h'.get? b = some o) → Q (.ref (s.heap.objs.size + 1)) { s with heap := h' }) :
    wpAny (model prog w) A (call (.type "enumerate") [v]) Q E s := by
  have sz : (s.heap.push ob).objs.size = s.heap.objs.size + 1 := Heap.size_push ..
  refine callType_new F.called_enumerate (by decide) (F.typeCall_enumerate_1 _) (F.newCall_enumerate_1 _) (fun z => F.args_object_init_2 z _) F.entry_enumerate_new (meets_enumOne B) ⟨hB, ?_⟩
  show _ ∧ _
  rw [sz]
  have en : IsEnum ((s.heap.push ob).push { cls := .type "enumerate", data := .fields #[.none, .bool false, .ref s.heap.objs.size, rawInt 0, .none, .none] }) (s.heap.objs.size + 1) s.heap.objs.size 0 .none := by
    have q := Heap.get?_push_size (s.heap.push ob) (o := { cls := .type "enumerate", data := .fields #[.none, .bool false, .ref s.heap.objs.size, rawInt 0, .none, .none] }) rfl
    rwa [sz] at q
  exact ⟨⟨_, en, rfl⟩, hQ _ en (Heap.get?_push_of_some _ (Heap.get?_push_size _ B.free)) fun b o q => Heap.get?_push_of_some _ (Heap.get?_push_of_some _ q)⟩
/-- the tuple at a, each item in a new pair -/
def Itu (K : PySem.W.Frag) (a : Addr) : It :=
  ⟨fun i H => ∃ (xs : List V) (x : V), SqT K H a xs ∧ xs[i]? = some x, fun i H v H' => ∃ T x, v = .ref T ∧ H T = none ∧ H' = upd H T (.tup [.int (i : Nat), x]) ∧ ∀ xs, SqT K H a xs → xs[i]? = some x, fun i H => ∃ xs : List V, SqT K H a xs ∧ xs.length ≤ i⟩
theorem turn_enumT {P : Program} {w : World} {K : PySem.W.Frag} {elts : List Expr} {kk : Nat} {tpos : Pos} (a e it : Addr) :
    Turn P w K (.Tuple elts kk tpos) (Itu K a) [e, it] e (fun i h => (∃ old, IsEnum h e it ((i : Nat) : Int) old) ∧ h.IsTupleIter it a i ∧ e ≠ it ∧ a ≠ it ∧ e ≠ a) where
  mem := by simp
  obj := fun i h st b hb => by
    obtain ⟨⟨old, he⟩, ⟨o, ho, hc, hd⟩, _⟩ := st
    simp only [List.mem_cons, List.not_mem_nil, or_false] at hb
    rcases hb with rfl | rfl
    · exact ⟨_, he, fun v q => nomatch q⟩
    · exact ⟨o, ho, fun v q => by rw [hd] at q; cases q⟩
  keep := fun i h h' st k => by
    obtain ⟨⟨old, he⟩, hi, n1, n2, n3⟩ := st
    exact ⟨⟨old, k e (by simp) _ he⟩, hi.at fun o q => k it (by simp) o q, n1, n2, n3⟩
  item := by
    intro X hP hw hK hc i pins s σ H E I hf st hg
    subst hP hw hK
    obtain ⟨⟨old, he⟩, hit, n1, n2, n3⟩ := st
    obtain ⟨xs, x, hq, hx⟩ := hg
    obtain ⟨its, rv, p, hz⟩ := I.tuple hq
    obtain ⟨u, hu, ru⟩ := rv.get hx
    have le : e < s.heap.objs.size := Heap.lt_size he
    have li : it < s.heap.objs.size := by obtain ⟨_, q, _⟩ := hit; exact Heap.lt_size q
    have ltn : i < its.toArray.size := by
      rw [List.size_toArray]
      exact (List.getElem?_eq_some_iff.mp hu).1
    have dr : Draws X.prog X.w X.A.in1 it [it, a] its.toArray.size (fun i v => its.toArray[i]? = some v) (fun i h => h.IsTupleIter it a i ∧ h.IsTuple a its.toArray) := Draws.tuple (A := X.A.in1) (show X.A.in1.handled = none from I.ok.hd hc) it a n2 its.toArray
    refine wpAny_pyNext_enum_itemD dr he ⟨hit, p⟩ ltn n1 (by simp; exact ⟨n1, n3⟩) fun y h' tk py out st' tup szs old' => ?_
    have ey : y = u := by
      rw [List.getElem?_toArray, hu] at py
      exact (Option.some.inj py).symm
    subst ey
    refine ⟨_, rfl, wpAny_letOwnedTupleGo_enum (s := { s with heap := h', toks := tk + 1 }) out fun h2 he2 sb => ?_⟩
    have tup2 : h2.get? s.heap.objs.size = some { cls := .type "tuple", data := .seq #[.int i tk, y] } := (sb.2 _ (Nat.ne_of_gt le)).trans tup
    have new : ObjOk X.prog X.w (upd H s.heap.objs.size (.tup [.int (i : Nat), x])) h2 s.heap.objs.size (.tup [.int (i : Nat), x]) :=
      ⟨(by decide : 2 ≤ sizeLine), [.int i tk, y], .cons ⟨_, rfl⟩ (.cons ru .nil), ⟨_, tup2, rfl, _, rfl⟩⟩
    have I2 : Inv X pins σ (upd H s.heap.objs.size (.tup [.int (i : Nat), x])) { s with heap := h2, toks := tk + 1 } :=
      I.turnedNew (ch := [e, it]) (fun b ob hb q => (sb.2 b fun z => hb (by rw [z]; simp)).trans (old' b ob (fun z => hb (by rw [z]; simp)) (fun z => hb (by rw [z]; simp)) q)) hf (Nat.le_refl _) new
    refine ⟨.ref s.heap.objs.size, _, I2, rfl, ⟨_, x, rfl, I.hok.fresh (Nat.le_refl _), rfl, fun ys hy => by rw [I.tuple_inj hy hq]; exact hx⟩, ⟨⟨y, ?_⟩, st'.1.at fun o q => (sb.2 it (Ne.symm n1)).trans q, n1, n2, n3⟩, fun b hb => ?_⟩
    · rw [show ((i + 1 : Nat) : Int) = (i : Int) + 1 by omega]
      exact he2
    · have lb : b < s.heap.objs.size := by
        simp only [List.mem_cons, List.not_mem_nil, or_false] at hb
        rcases hb with rfl | rfl <;> assumption
      rw [upd_ne (Nat.ne_of_lt lb)]
      exact (hf b hb).1
  done := by
    intro X hP hw hK hc i pins s σ H E I hf st hg
    subst hP hw hK
    obtain ⟨⟨old, he⟩, hit, n1, n2, n3⟩ := st
    obtain ⟨xs, hq, hx⟩ := hg
    obtain ⟨its, rv, p, hz⟩ := I.tuple hq
    obtain ⟨f0, f1, f2, f3, f4, f5⟩ := hf it (by simp)
    have hl := rv.length
    obtain ⟨ol, hol, hcl, nl, hdl⟩ := id p
    have hT : s.TypeIs (.ref e) "enumerate" := ⟨_, he, rfl⟩
    have stop := fun (Q : Value → Shared → Prop) (E : Value → Shared → Prop) hE => wpAny_nextOf_tuple_end (prog := X.prog) (w := X.w) (A := X.A.in1) (Q := Q) (E := E) (s := s) (show X.A.in1.handled = none from I.ok.hd hc) hit p (show its.toArray[i]? = none by simp; omega) hE
    unfold pyNext
    refine wpAny_bind (wpAny_attempt (wpAny_callSpecial?_slot (name := Str.ofString "__next__") hT F.slot_enumerate_next (wpAny_call_entry F.slot_enumerate_next hT F.entry_enumerate_next ?_ (F.args_enumerate_next_1 _))))
    show wpAny _ _ (field (.ref e) 2 >>= _) _ _ _
    refine wpAny_bind (wpAny_field he rfl (x := .ref it) rfl ?_)
    refine wpAny_bind (stop _ _ fun h' ex eb exs => ?_)
    obtain ⟨oe, hoe, hce⟩ := exs
    exact wpAny_bind (wpAny_isInstance (T := "StopIteration") (b := true) ⟨oe, hoe, hce⟩ isSubtype_stop (wpAny_pure ⟨rfl, I.turned (t' := s.toks) (fun b o hb q => eb b o hb q) f0 f1 f3 f4 f5⟩))
  self := fun A i s Q E st h => let ⟨⟨_, he⟩, _⟩ := st; wpAny_pyIter_enum he h
/-- enumerate(list or tuple) -/
theorem pi_enumA {X : Cx} {e : Expr} {ta : TA} {p pos tpos : Pos} {elts : List Expr} {kk : Nat} (hg : Gl X "enumerate") (hm : X.mg "enumerate" = none) (ha : PA X [e] ta) (hs : starEach [e] X.env = [(false, eval e X.env)]) :
    PI X (.Tuple elts kk tpos) (.Call (.Name "enumerate" p) [e] [] pos) (fun σ H R => ta σ H fun vs H1 => ∃ a xs, vs = [.ref a] ∧ ((SqL X.K H1 a xs ∧ R (Ite X.K a) H1) ∨ (SqT X.K H1 a xs ∧ R (Itu X.K a) H1))) := by
  refine ⟨fun pins s σ H R I h => ?_⟩
  refine Call_ (ld_blt I hg hm boot_enumerate (PyProof.Rows.callWith_type1 (thn (ha.run pos pins s σ H _ I h) fun us s1 ⟨vs, H1, I1, r1, a, xs, ev, q⟩ => ?_) hs rfl))
  subst ev
  obtain ⟨ua, rfl, ra⟩ := vals1 r1
  cases ra
  have old2 : ∀ b ∈ [s1.heap.objs.size + 1, s1.heap.objs.size], s1.heap.objs.size ≤ b := fun b hb => by
    simp only [List.mem_cons, List.not_mem_nil, or_false] at hb
    rcases hb with z | z
    · rw [z]; exact Nat.le_succ _
    · rw [z]; exact Nat.le_refl _
  rcases q with ⟨hq, q⟩ | ⟨hq, q⟩
  · obtain ⟨its, rv, pl, hz⟩ := I1.list hq
    refine call_enumerate_list pl.isList fun h' he hit hsz hk => wpAny_pyIter_enum he ?_
    exact ⟨s1.heap.objs.size + 1, [s1.heap.objs.size + 1, s1.heap.objs.size], _, _, H1, rfl, I1.kept (t' := s1.toks) hk, turn_enum a (s1.heap.objs.size + 1) s1.heap.objs.size, ⟨⟨.none, he⟩, hit, Nat.succ_ne_self _⟩, fun b hb => I1.fpOk (old2 b hb) (I1.hok.fresh (old2 b hb)), q⟩
  · obtain ⟨its, rv, pl, hz⟩ := I1.tuple hq
    have la : a < s1.heap.objs.size := by obtain ⟨_, z, _⟩ := pl; exact Heap.lt_size z
    refine enumOne_begins (begins_tuple a its.toArray) pl fun h' he hit hk => wpAny_pyIter_enum he ?_
    exact ⟨s1.heap.objs.size + 1, [s1.heap.objs.size + 1, s1.heap.objs.size], _, _, H1, rfl, I1.kept (t' := s1.toks) hk, turn_enumT a (s1.heap.objs.size + 1) s1.heap.objs.size, ⟨⟨.none, he⟩, ⟨_, hit, rfl, rfl⟩, Nat.succ_ne_self _, Nat.ne_of_lt la, Nat.ne_of_gt (Nat.lt_succ_of_lt la)⟩, fun b hb => I1.fpOk (old2 b hb) (I1.hok.fresh (old2 b hb)), q⟩
end FL
end L2

/-! FL8: what is walked; for, while, comprehensions; slices -/
namespace L2
namespace FL
open PySem PySem.Spec PyProof.Rows
/-- an iterator over data: ds, as it lies in F -/
structure JOk (K : KW) (F : Hp) (J : It) (ds : List D) : Prop where
  sz : ds.length ≤ sizeLine
  go : ∀ i H, i < ds.length → Same F H → J.go i H
  stop : ∀ H, Same F H → J.stop ds.length H
  yld : ∀ i Fc H x H' d σ ρ, Same F Fc → Gs K Fc H σ ρ → ds[i]? = some d → J.yld i H x H' → ∃ F1, Gs K F1 H' σ ρ ∧ Fw Fc H σ ρ F1 H' σ ρ ∧ Dp K F1 x d
def tI (K : KW) (sem : En → Option (List D × En)) : TI := fun σ H R => ∃ F ρ, Gs K F H σ ρ ∧ ∃ ds ρ', sem ρ = some (ds, ρ') ∧
  ∀ J F' H', Gs K F' H' σ ρ' → Fw F H σ ρ F' H' σ ρ' → JOk K F' J ds → R J H'
structure CI (nm : Nm) where
  syn : Expr
  sem : En → Option (List D × En)
  pl : Pl syn = true
  tg : Expr → Prop
  snd : ∀ X, Gd nm X → ∀ t, tg t → PI X t syn (tI (kw X) sem)
theorem PI.imp {X : Cx} {tg e : Expr} {t t' : TI} (h : PI X tg e t) (hi : ∀ σ H Q, t' σ H Q → t σ H Q) : PI X tg e t' := ⟨fun pins s σ H R I q => h.run pins s σ H R I (hi σ H R q)⟩
section
variable {K : KW} {F H : Hp} {σ : St} {ρ : En} {a b : Addr} {xs ys : List V} {ds es : List D}
theorem jok_list (g : Gs K F H σ ρ) (q : Rd F a (.lst xs)) (r : DpAll K F xs ds) : JOk K F (Itl K a) ds where
  sz := by rw [← DpAll.length r]; exact g.szL q
  go := fun i H1 hi s => by
    have hi' : i < xs.length := by rw [DpAll.length r]; exact hi
    exact ⟨xs, xs[i], .inl (Rd.up q s), List.getElem?_eq_getElem hi'⟩
  stop := fun H1 s => ⟨xs, .inl (Rd.up q s), by rw [DpAll.length r]; exact Nat.le_refl _⟩
  yld := fun i Fc H1 x H' d σ' ρ' sc g1 e y => by
    obtain ⟨rfl, y⟩ := y
    obtain ⟨v, e1, e2⟩ := DpAll.get r e
    have := y xs (.inl (Rd.up q (sc.trans g1.le)))
    rw [e1] at this; cases this
    exact ⟨Fc, g1, Fw.refl, Dp.mono sc e2⟩
theorem jok_tup (g : Gs K F H σ ρ) (q : SqT K F a xs) (r : DpAll K F xs ds) : JOk K F (Itt K a) ds where
  sz := by rw [← DpAll.length r]; exact g.szT q
  go := fun i H1 hi s => by
    have hi' : i < xs.length := by rw [DpAll.length r]; exact hi
    exact ⟨xs, xs[i], SqT.up q s, List.getElem?_eq_getElem hi'⟩
  stop := fun H1 s => ⟨xs, SqT.up q s, by rw [DpAll.length r]; exact Nat.le_refl _⟩
  yld := fun i Fc H1 x H' d σ' ρ' sc g1 e y => by
    obtain ⟨rfl, y⟩ := y
    obtain ⟨v, e1, e2⟩ := DpAll.get r e
    have := y xs (SqT.up q (sc.trans g1.le))
    rw [e1] at this; cases this
    exact ⟨Fc, g1, Fw.refl, Dp.mono sc e2⟩
def rangeD (lo : Int) (n : Nat) : List D := (List.range n).map fun (i : Nat) => .int (lo + (i : Int))
theorem jok_range {lo : Int} {n : Nat} (hn : n ≤ sizeLine) : JOk K F (Itr lo n) (rangeD lo n) where
  sz := by unfold rangeD; rw [List.length_map, List.length_range]; exact hn
  go := fun i H1 hi s => by unfold rangeD at hi; rw [List.length_map, List.length_range] at hi; exact hi
  stop := fun H1 s => by unfold rangeD; rw [List.length_map, List.length_range]; exact Nat.le_refl _
  yld := fun i Fc H1 x H' d σ' ρ' sc g1 e y => by
    obtain ⟨rfl, rfl⟩ := y
    have h : d = .int (lo + i) := by
      unfold rangeD at e
      rw [List.getElem?_map] at e
      obtain ⟨j, e1, e2⟩ := Option.map_eq_some_iff.mp e
      obtain ⟨_, e3⟩ := List.getElem?_eq_some_iff.mp e1
      rw [List.getElem_range] at e3
      rw [← e2, e3]
    rw [h]
    exact ⟨Fc, g1, Fw.refl, .int _⟩
def pairD (a b : D) : D := .dict [(.none, a), (.none, b)]
theorem zip_at {α β : Type} {l : List α} {m : List β} {i : Nat} {p : α × β} (h : (l.zip m)[i]? = some p) : l[i]? = some p.1 ∧ m[i]? = some p.2 := by
  rw [List.getElem?_zip_eq_some] at h
  exact h
theorem jok_zip {J : It} (g : Gs K F H σ ρ) (rx : DpAll K F xs ds) (ry : DpAll K F ys es) (hz : xs.length ≤ sizeLine)
    (go : ∀ i H1, i < xs.length → i < ys.length → Same F H1 → J.go i H1) (stop : ∀ i H1, xs.length ≤ i ∨ ys.length ≤ i → Same F H1 → J.stop i H1)
    (yld : ∀ i H1 v H', Same F H1 → J.yld i H1 v H' → ∃ T x y, v = .ref T ∧ H1 T = none ∧ H' = upd H1 T (.tup [x, y]) ∧ xs[i]? = some x ∧ ys[i]? = some y) :
    JOk K F J ((ds.zip es).map fun p => pairD p.1 p.2) where
  sz := by
    rw [List.length_map, List.length_zip, ← DpAll.length rx]
    exact Nat.le_trans (Nat.min_le_left _ _) hz
  go := fun i H1 hi s => by
    rw [List.length_map, List.length_zip, ← DpAll.length rx, ← DpAll.length ry] at hi
    exact go i H1 (by omega) (by omega) s
  stop := fun H1 s => by
    rw [List.length_map, List.length_zip, ← DpAll.length rx, ← DpAll.length ry]
    exact stop _ H1 (by omega) s
  yld := fun i Fc H1 v H' d σ' ρ' sc g1 e y => by
    obtain ⟨T, x, y, rfl, hT, rfl, e1, e2⟩ := yld i H1 v H' (sc.trans g1.le) y
    rw [List.getElem?_map] at e
    obtain ⟨p, e3, e4⟩ := Option.map_eq_some_iff.mp e
    obtain ⟨e5, e6⟩ := zip_at e3
    obtain ⟨v1, w1, w2⟩ := DpAll.get rx e5
    obtain ⟨v2, w3, w4⟩ := DpAll.get ry e6
    rw [e1] at w1; cases w1
    rw [e2] at w3; cases w3
    obtain ⟨g2, f2, dp⟩ := g1.putWp hT (Dp.mono sc w2) (Dp.mono sc w4)
    rw [← e4]
    exact ⟨_, g2, f2, dp⟩
theorem jok_enum (g : Gs K F H σ ρ) (q : Rd F a (.lst xs)) (r : DpAll K F xs ds) : JOk K F (Ite K a) (((rangeD 0 ds.length).zip ds).map fun p => pairD p.1 p.2) where
  sz := by
    rw [List.length_map, List.length_zip]
    refine Nat.le_trans (Nat.min_le_right _ _) ?_
    rw [← DpAll.length r]; exact g.szL q
  go := fun i H1 hi s => by
    have hi' : i < xs.length := by
      rw [List.length_map, List.length_zip, ← DpAll.length r] at hi
      omega
    exact ⟨xs, xs[i], .inl (Rd.up q s), List.getElem?_eq_getElem hi'⟩
  stop := fun H1 s => ⟨xs, .inl (Rd.up q s), by
    rw [List.length_map, List.length_zip, ← DpAll.length r]
    unfold rangeD
    rw [List.length_map, List.length_range]
    omega⟩
  yld := fun i Fc H1 v H' d σ' ρ' sc g1 e y => by
    obtain ⟨T, x, rfl, hT, rfl, y⟩ := y
    have e1 := y xs (.inl (Rd.up q (sc.trans g1.le)))
    rw [List.getElem?_map] at e
    obtain ⟨p, e3, e4⟩ := Option.map_eq_some_iff.mp e
    obtain ⟨e5, e6⟩ := zip_at e3
    obtain ⟨v2, w3, w4⟩ := DpAll.get r e6
    rw [e1] at w3; cases w3
    have h : p.1 = .int i := by
      unfold rangeD at e5
      rw [List.getElem?_map] at e5
      obtain ⟨j, q1, q2⟩ := Option.map_eq_some_iff.mp e5
      obtain ⟨_, q3⟩ := List.getElem?_eq_some_iff.mp q1
      rw [List.getElem_range] at q3
      rw [← q2, q3, Int.zero_add]
    obtain ⟨g2, f2, dp⟩ := g1.putWp hT (Dp.int i) (Dp.mono sc w4)
    rw [← e4, h]
    exact ⟨_, g2, f2, dp⟩
theorem jok_enumT (g : Gs K F H σ ρ) (q : SqT K F a xs) (r : DpAll K F xs ds) : JOk K F (Itu K a) (((rangeD 0 ds.length).zip ds).map fun p => pairD p.1 p.2) where
  sz := by
    rw [List.length_map, List.length_zip]
    refine Nat.le_trans (Nat.min_le_right _ _) ?_
    rw [← DpAll.length r]; exact g.szT q
  go := fun i H1 hi s => by
    have hi' : i < xs.length := by
      rw [List.length_map, List.length_zip, ← DpAll.length r] at hi
      omega
    exact ⟨xs, xs[i], SqT.up q s, List.getElem?_eq_getElem hi'⟩
  stop := fun H1 s => ⟨xs, SqT.up q s, by
    rw [List.length_map, List.length_zip, ← DpAll.length r]
    unfold rangeD
    rw [List.length_map, List.length_range]
    omega⟩
  yld := fun i Fc H1 v H' d σ' ρ' sc g1 e y => by
    obtain ⟨T, x, rfl, hT, rfl, y⟩ := y
    have e1 := y xs (SqT.up q (sc.trans g1.le))
    rw [List.getElem?_map] at e
    obtain ⟨p, e3, e4⟩ := Option.map_eq_some_iff.mp e
    obtain ⟨e5, e6⟩ := zip_at e3
    obtain ⟨v2, w3, w4⟩ := DpAll.get r e6
    rw [e1] at w3; cases w3
    have h : p.1 = .int i := by
      unfold rangeD at e5
      rw [List.getElem?_map] at e5
      obtain ⟨j, q1, q2⟩ := Option.map_eq_some_iff.mp e5
      obtain ⟨_, q3⟩ := List.getElem?_eq_some_iff.mp q1
      rw [List.getElem_range] at q3
      rw [← q2, q3, Int.zero_add]
    obtain ⟨g2, f2, dp⟩ := g1.putWp hT (Dp.int i) (Dp.mono sc w4)
    rw [← e4, h]
    exact ⟨_, g2, f2, dp⟩
end
section
variable {nm : Nm}
def semItems (e : En → Option (D × En)) : En → Option (List D × En) := fun ρ => bnd (e ρ) fun d ρ1 => (dItems d).map fun ds => (ds, ρ1)
/-- a list walked -/
def semL (e : En → Option (D × En)) : En → Option (List D × En) := fun ρ => bnd (e ρ) fun d ρ1 => match d with
  | .list ds => some (ds, ρ1)
  | _ => none
def semTp (e : En → Option (D × En)) : En → Option (List D × En) := fun ρ => bnd (e ρ) fun d ρ1 => match d with
  | .tuple ds => some (ds, ρ1)
  | _ => none
def iL (e : CE nm) : CI nm where
  syn := e.syn
  sem := semL e.sem
  pl := e.pl
  tg := fun _ => True
  snd := fun X G t _ => PI.imp (pi_list (e.snd X G)) fun σ H R h => by
    obtain ⟨F, ρ, g, ds, ρ', e0, q⟩ := h
    obtain ⟨d, ρ1, e1, e0⟩ := bnd_some e0
    split at e0
    · cases e0
      refine ⟨F, ρ, g, _, ρ', e1, fun v F1 H1 g1 f1 d1 => ?_⟩
      obtain ⟨a, xs, rfl, qa, ra⟩ := d1.lstOf
      exact ⟨a, rfl, ⟨xs, .inl (Rd.up qa g1.le)⟩, q _ F1 H1 g1 f1 (jok_list g1 qa ra)⟩
    · cases e0
def iT (e : CE nm) : CI nm where
  syn := e.syn
  sem := semTp e.sem
  pl := e.pl
  tg := fun _ => True
  snd := fun X G t _ => PI.imp (pi_tup (e.snd X G)) fun σ H R h => by
    obtain ⟨F, ρ, g, ds, ρ', e0, q⟩ := h
    obtain ⟨d, ρ1, e1, e0⟩ := bnd_some e0
    split at e0
    · cases e0
      refine ⟨F, ρ, g, _, ρ', e1, fun v F1 H1 g1 f1 d1 => ?_⟩
      obtain ⟨a, xs, rfl, qa, ra⟩ := d1.tupOf
      exact ⟨a, rfl, ⟨xs, SqT.up qa g1.le⟩, q _ F1 H1 g1 f1 (jok_tup g1 qa ra)⟩
    · cases e0
/-- either of both -/
theorem PI.or {X : Cx} {tg e : Expr} {t u : TI} (h : PI X tg e t) (h' : PI X tg e u) : PI X tg e fun σ H R => t σ H R ∨ u σ H R := ⟨fun pins s σ H R I q => by
  rcases q with q | q
  · exact h.run pins s σ H R I q
  · exact h'.run pins s σ H R I q⟩
/-- the signs of a text -/
def signsD (z : Str) : List D := z.cps.toList.map fun c => .str ⟨#[c]⟩
def semSg (e : En → Option (D × En)) : En → Option (List D × En) := fun ρ => bnd (e ρ) fun d ρ1 => match d with
  | .str z => if z.length ≤ sizeLine then some (signsD z, ρ1) else none
  | _ => none
theorem jok_str {K : KW} {F : Hp} {z : Str} (hz : z.length ≤ sizeLine) : JOk K F (Its z) (signsD z) where
  sz := by unfold signsD; rw [List.length_map, Array.length_toList]; exact hz
  go := fun i H1 hi s => by unfold signsD at hi; rw [List.length_map, Array.length_toList] at hi; exact hi
  stop := fun H1 s => by unfold signsD; rw [List.length_map, Array.length_toList]; exact Nat.le_refl _
  yld := fun i Fc H1 x H' d σ' ρ' sc g1 e y => by
    obtain ⟨rfl, c, e1, rfl⟩ := y
    unfold signsD at e
    rw [List.getElem?_map, Array.getElem?_toList, e1] at e
    cases e
    exact ⟨Fc, g1, Fw.refl, .str _⟩
def iS (e : CE nm) : CI nm where
  syn := e.syn
  sem := semSg e.sem
  pl := e.pl
  tg := fun _ => True
  snd := fun X G t _ => PI.imp (pi_str (e.snd X G)) fun σ H R h => by
    obtain ⟨F, ρ, g, ds, ρ', e0, q⟩ := h
    obtain ⟨d, ρ1, e1, e0⟩ := bnd_some e0
    split at e0
    · obtain ⟨hz, e2⟩ := ite_some e0
      cases e2
      refine ⟨F, ρ, g, _, ρ', e1, fun v F1 H1 g1 f1 d1 => ?_⟩
      cases d1
      exact ⟨_, rfl, q _ F1 H1 g1 f1 (jok_str hz)⟩
    · cases e0
def dWalk : D → Option (List D)
  | .list ds => some ds
  | .tuple ds => some ds
  | .str z => if z.length ≤ sizeLine then some (signsD z) else none
  | _ => none
def semV (e : En → Option (D × En)) : En → Option (List D × En) := fun ρ => bnd (e ρ) fun d ρ1 => (dWalk d).map fun ds => (ds, ρ1)
/-- a list, a tuple, a text walked -/
def iV (e : CE nm) : CI nm where
  syn := e.syn
  sem := semV e.sem
  pl := e.pl
  tg := fun _ => True
  snd := fun X G t _ => PI.imp (PI.or ((iL e).snd X G t trivial) (PI.or ((iT e).snd X G t trivial) ((iS e).snd X G t trivial))) fun σ H R h => by
    obtain ⟨F, ρ, g, ds, ρ', e0, q⟩ := h
    obtain ⟨d, ρ1, e1, ea⟩ := bnd_some e0
    clear e0
    unfold dWalk at ea
    split at ea
    · cases ea
      exact .inl ⟨F, ρ, g, _, ρ', by show semL e.sem ρ = _; unfold semL; rw [e1]; rfl, q⟩
    · cases ea
      exact .inr (.inl ⟨F, ρ, g, _, ρ', by show semTp e.sem ρ = _; unfold semTp; rw [e1]; rfl, q⟩)
    · split at ea
      · rename_i hz
        cases ea
        exact .inr (.inr ⟨F, ρ, g, _, ρ', by show semSg e.sem ρ = _; unfold semSg; rw [e1]; exact if_pos hz, q⟩)
      · cases ea
    · cases ea
def semR1 (e : En → Option (D × En)) : En → Option (List D × En) := fun ρ => bnd (e ρ) fun d ρ1 => match d with
  | .int j => if -(2 ^ 62) ≤ j ∧ j ≤ sizeLine then some (rangeD 0 j.toNat, ρ1) else none
  | _ => none
theorem sizeLine62 : (sizeLine : Int) < 2 ^ 62 := by rw [sizeLine_eq]; decide
def iRange1 (e : CE nm) (fpos pos : Pos) (hg : nm.sc.names.lookup ("range" : Str) = some .globalImplicit) : CI nm where
  syn := .Call (.Name "range" fpos) [e.syn] [] pos
  sem := semR1 e.sem
  pl := rfl
  tg := fun _ => True
  snd := fun X G t _ => PI.imp (pi_range1 (by show X.env.scope.names.lookup _ = _; rw [G.sc]; exact hg) (G.blt "range" (by decide)) (pa_cons (e.snd X G) pa_nil (Pl.star e.pl _ _)) (Pl.star e.pl _ _)) fun σ H R h => by
    obtain ⟨F, ρ, g, ds, ρ', e0, q⟩ := h
    obtain ⟨d, ρ1, e1, e0⟩ := bnd_some e0
    split at e0
    · rename_i j
      obtain ⟨hz, e2⟩ := ite_some e0
      cases e2
      refine ⟨F, ρ, g, _, ρ', e1, fun v F1 H1 g1 f1 d1 => ?_⟩
      cases d1
      exact ⟨j, rfl, hz.1, Int.lt_of_le_of_lt hz.2 sizeLine62, q _ F1 H1 g1 f1 (jok_range (by omega))⟩
    · cases e0
def semR2 (e e' : En → Option (D × En)) : En → Option (List D × En) := fun ρ => bnd (e ρ) fun d ρ1 => bnd (e' ρ1) fun d' ρ2 => match d, d' with
  | .int i, .int j => if -(2 ^ 60) ≤ i ∧ i < 2 ^ 60 ∧ -(2 ^ 60) ≤ j ∧ j < 2 ^ 60 ∧ j - i ≤ sizeLine then some (rangeD i (j - i).toNat, ρ2) else none
  | _, _ => none
def iRange2 (e e' : CE nm) (fpos pos : Pos) (hg : nm.sc.names.lookup ("range" : Str) = some .globalImplicit) : CI nm where
  syn := .Call (.Name "range" fpos) [e.syn, e'.syn] [] pos
  sem := semR2 e.sem e'.sem
  pl := rfl
  tg := fun _ => True
  snd := fun X G t _ => PI.imp (pi_range2 (by show X.env.scope.names.lookup _ = _; rw [G.sc]; exact hg) (G.blt "range" (by decide)) (pa_cons (e.snd X G) (pa_cons (e'.snd X G) pa_nil (Pl.star e'.pl _ _)) (Pl.star e.pl _ _)) (by rw [Pl.star e.pl, Pl.star e'.pl]; rfl) (by rw [Pl.star e'.pl]; rfl)) fun σ H R h => by
    obtain ⟨F, ρ, g, ds, ρ', e0, q⟩ := h
    obtain ⟨d, ρ1, e1, e0⟩ := bnd_some e0
    obtain ⟨d', ρ2, e2, e0⟩ := bnd_some e0
    split at e0
    · rename_i i j
      obtain ⟨hz, e3⟩ := ite_some e0
      cases e3
      refine ⟨F, ρ, g, _, ρ1, e1, fun v F1 H1 g1 f1 d1 => ⟨F1, ρ1, g1, _, ρ', e2, fun v' F2 H2 g2 f2 d2 => ?_⟩⟩
      cases d1
      cases d2
      exact ⟨_, _, rfl, ⟨by omega, by omega, by omega, by omega⟩, q _ F2 H2 g2 (f1.trans f2) (jok_range (by omega))⟩
    · cases e0
def isTup (t : Expr) : Prop := ∃ elts kk tpos, t = .Tuple elts kk tpos
def semZip (e e' : En → Option (D × En)) : En → Option (List D × En) := fun ρ => bnd (e ρ) fun d ρ1 => bnd (e' ρ1) fun d' ρ2 => match d, d' with
  | .list a, .list b => some ((a.zip b).map fun p => pairD p.1 p.2, ρ2)
  | .tuple a, .tuple b => some ((a.zip b).map fun p => pairD p.1 p.2, ρ2)
  | _, _ => none
def iZp (e e' : CE nm) (fpos pos : Pos) (hg : nm.sc.names.lookup ("zip" : Str) = some .globalImplicit) : CI nm where
  syn := .Call (.Name "zip" fpos) [e.syn, e'.syn] [] pos
  sem := semZip e.sem e'.sem
  pl := rfl
  tg := isTup
  snd := fun X G t ht => by
    obtain ⟨elts, kk, tpos, rfl⟩ := ht
    refine PI.imp (RZ.pi_zipA (by show X.env.scope.names.lookup _ = _; rw [G.sc]; exact hg) (G.blt "zip" (by decide)) (pa_cons (e.snd X G) (pa_cons (e'.snd X G) pa_nil (Pl.star e'.pl _ _)) (Pl.star e.pl _ _)) (Pl.star e.pl _ _) (starred_tail (es := [e'.syn]) (fun x hx => by rw [List.mem_singleton.mp hx]; exact e'.pl) _ _)) fun σ H R h => ?_
    obtain ⟨F, ρ, g, ds, ρ', e0, q⟩ := h
    obtain ⟨d, ρ1, e1, e0⟩ := bnd_some e0
    obtain ⟨d', ρ2, e2, e0⟩ := bnd_some e0
    refine ⟨F, ρ, g, d, ρ1, e1, fun v F1 H1 g1 f1 d1 => ⟨F1, ρ1, g1, d', ρ2, e2, fun v' F2 H2 g2 f2 d2 => ?_⟩⟩
    split at e0
    · cases e0
      obtain ⟨a, xs, rfl, qa, ra⟩ := (Dp.mono f2.leF d1).lstOf
      obtain ⟨b, ys, rfl, qb, rb⟩ := d2.lstOf
      refine ⟨a, b, xs, ys, rfl, .inl ⟨.inl (Rd.up qa g2.le), .inl (Rd.up qb g2.le), q _ F2 H2 g2 (f1.trans f2) (jok_zip g2 ra rb (g2.szL qa) (fun i H3 h1 h2 s => ?_) (fun i H3 hh s => ?_) fun i H3 v H' s y => ?_)⟩⟩
      · exact ⟨xs, ys, xs[i], ys[i], .inl (Rd.up qa s), .inl (Rd.up qb s), List.getElem?_eq_getElem h1, List.getElem?_eq_getElem h2⟩
      · exact ⟨xs, ys, .inl (Rd.up qa s), .inl (Rd.up qb s), hh⟩
      · obtain ⟨T, x, y', rfl, hT, rfl, y1, y2⟩ := y
        exact ⟨T, x, y', rfl, hT, rfl, y1 xs (.inl (Rd.up qa s)), y2 ys (.inl (Rd.up qb s))⟩
    · cases e0
      obtain ⟨a, xs, rfl, qa, ra⟩ := (Dp.mono f2.leF d1).tupOf
      obtain ⟨b, ys, rfl, qb, rb⟩ := d2.tupOf
      refine ⟨a, b, xs, ys, rfl, .inr ⟨SqT.up qa g2.le, SqT.up qb g2.le, q _ F2 H2 g2 (f1.trans f2) (jok_zip g2 ra rb (g2.szT qa) (fun i H3 h1 h2 s => ?_) (fun i H3 hh s => ?_) fun i H3 v H' s y => ?_)⟩⟩
      · exact ⟨xs, ys, xs[i], ys[i], SqT.up qa s, SqT.up qb s, List.getElem?_eq_getElem h1, List.getElem?_eq_getElem h2⟩
      · exact ⟨xs, ys, SqT.up qa s, SqT.up qb s, hh⟩
      · obtain ⟨T, x, y', rfl, hT, rfl, y1, y2⟩ := y
        exact ⟨T, x, y', rfl, hT, rfl, y1 xs (SqT.up qa s), y2 ys (SqT.up qb s)⟩
    · cases e0
def enumD (ds : List D) : List D := ((rangeD 0 ds.length).zip ds).map fun p => pairD p.1 p.2
def semEnum (e : En → Option (D × En)) : En → Option (List D × En) := fun ρ => bnd (e ρ) fun d ρ1 => match d with
  | .list ds => some (enumD ds, ρ1)
  | .tuple ds => some (enumD ds, ρ1)
  | _ => none
def iEn (e : CE nm) (fpos pos : Pos) (hg : nm.sc.names.lookup ("enumerate" : Str) = some .globalImplicit) : CI nm where
  syn := .Call (.Name "enumerate" fpos) [e.syn] [] pos
  sem := semEnum e.sem
  pl := rfl
  tg := isTup
  snd := fun X G t ht => by
    obtain ⟨elts, kk, tpos, rfl⟩ := ht
    refine PI.imp (pi_enumA (by show X.env.scope.names.lookup _ = _; rw [G.sc]; exact hg) (G.blt "enumerate" (by decide)) (pa_cons (e.snd X G) pa_nil (Pl.star e.pl _ _)) (Pl.star e.pl _ _)) fun σ H R h => ?_
    obtain ⟨F, ρ, g, ds, ρ', e0, q⟩ := h
    obtain ⟨d, ρ1, e1, e0⟩ := bnd_some e0
    split at e0
    · cases e0
      refine ⟨F, ρ, g, _, ρ', e1, fun v F1 H1 g1 f1 d1 => ?_⟩
      obtain ⟨a, xs, rfl, qa, ra⟩ := d1.lstOf
      exact ⟨a, xs, rfl, .inl ⟨.inl (Rd.up qa g1.le), q _ F1 H1 g1 f1 (jok_enum g1 qa ra)⟩⟩
    · cases e0
      refine ⟨F, ρ, g, _, ρ', e1, fun v F1 H1 g1 f1 d1 => ?_⟩
      obtain ⟨a, xs, rfl, qa, ra⟩ := d1.tupOf
      exact ⟨a, xs, rfl, .inr ⟨SqT.up qa g1.le, q _ F1 H1 g1 f1 (jok_enumT g1 qa ra)⟩⟩
    · cases e0
/-! ### for -/
def forS (g : D → En → Option En) (b : En → Option Fl) : List D → En → Option Fl
  | [], ρ => some (.nx ρ)
  | d :: ds, ρ => match g d ρ with
    | none => none
    | some ρ1 => match b ρ1 with
      | none => none
      | some (.nx ρ2) => forS g b ds ρ2
      | some (.ct ρ2) => forS g b ds ρ2
      | some (.bk ρ2) => some (.nx ρ2)
      | some (.rt d' ρ2) => some (.rt d' ρ2)
def semFor (it : En → Option (List D × En)) (g : D → En → Option En) (b : En → Option Fl) : En → Option Fl := fun ρ => bnd (it ρ) fun ds ρ1 => forS g b ds ρ1
theorem Gd.passes {X : Cx} (G : Gd nm X) : PassesOwn (model X.prog X.w) X.A X.env X.xe := by
  rw [G.xe]
  exact PassesOwn.never
def sFor (t : CG nm) (it : CI nm) (b : CB nm) (pos : Pos) (ht : it.tg t.syn) : CS nm where
  syn := .For t.syn it.syn b.syn [] pos
  sem := semFor it.sem t.sem b.sem
  snd := fun X G => PS.imp (ps_for G.passes G.calm (it.snd X G t.syn ht) (t.snd X G) (b.snd X G) (Pl.folded it.pl _)) fun D σ H h => by
    obtain ⟨F, ρ, g, fl, e0, p⟩ := h
    obtain ⟨ds, ρ1, e1, e0⟩ := bnd_some e0
    refine ⟨F, ρ, g, ds, ρ1, e1, fun J F1 H1 g1 f1 jo => ?_⟩
    have p1 := p.trans f1 Io.refl
    refine ⟨fun i m σ' H' => m = ds.length - i ∧ i ≤ ds.length ∧ ∃ Fc ρc, Gs (kw X) Fc H' σ' ρc ∧ Same F1 Fc ∧ forS t.sem b.sem (ds.drop i) ρc = some fl ∧ Post (kw X) nm.IO D Fc H' σ' ρc fl,
      ⟨ds.length, by simp, Nat.zero_le _, F1, ρ1, g1, Same.refl _, by rw [List.drop_zero]; exact e0, p1⟩, ?_⟩
    rintro i m σ' H' ⟨rfl, hi, Fc, ρc, gc, sc, ec, pc⟩
    by_cases hlt : i < ds.length
    · refine .inr ⟨jo.go i H' hlt (sc.trans gc.le), fun σ2 H2 => i + 1 ≤ ds.length ∧ ∃ Fc ρc, Gs (kw X) Fc H2 σ2 ρc ∧ Same F1 Fc ∧ forS t.sem b.sem (ds.drop (i + 1)) ρc = some fl ∧ Post (kw X) nm.IO D Fc H2 σ2 ρc fl, ?_, ?_⟩
      · rintro σ2 H2 ⟨h1, Fd, ρd, gd, sd, ed, pd⟩
        exact ⟨ds.length - (i + 1), by omega, rfl, h1, Fd, ρd, gd, sd, ed, pd⟩
      · intro x H2 y
        obtain ⟨F2, g2, f2, d2⟩ := jo.yld i Fc H' x H2 ds[i] σ' ρc sc gc (List.getElem?_eq_getElem hlt) y
        rw [List.drop_eq_getElem_cons hlt] at ec
        unfold forS at ec
        split at ec
        · cases ec
        · rename_i ρ2 eg
          refine ⟨F2, ρc, ds[i], g2, d2, ρ2, eg, fun σ3 F3 H3 g3 f3 i3 _ _ => ?_⟩
          have p3 := pc.trans (f2.trans f3) i3
          have s3 : Same F1 F3 := sc.trans (f2.leF.trans f3.leF)
          refine ⟨F3, ρ2, g3, ?_⟩
          split at ec
          · cases ec
          · rename_i ρ4 eb
            exact ⟨_, eb, fun σ4 F4 H4 g4 f4 i4 => ⟨hlt, F4, ρ4, g4, s3.trans f4.leF, ec, p3.trans f4 i4⟩⟩
          · rename_i ρ4 eb
            exact ⟨_, eb, fun σ4 F4 H4 g4 f4 i4 => ⟨hlt, F4, ρ4, g4, s3.trans f4.leF, ec, p3.trans f4 i4⟩⟩
          · rename_i ρ4 eb
            cases ec
            exact ⟨_, eb, fun σ4 F4 H4 g4 f4 i4 => p3 σ4 F4 H4 g4 f4 i4⟩
          · rename_i d' ρ4 eb
            cases ec
            exact ⟨_, eb, fun v σ4 F4 H4 g4 f4 i4 dp => p3 v σ4 F4 H4 g4 f4 i4 dp⟩
    · obtain rfl : i = ds.length := by omega
      rw [List.drop_length] at ec
      cases ec
      exact .inl ⟨jo.stop H' (sc.trans gc.le), pc σ' Fc H' gc Fw.refl Io.refl⟩
/-! ### while -/
def whileS (t : En → Option (Bool × En)) (b : En → Option Fl) : Nat → En → Option Fl
  | 0, _ => none
  | n + 1, ρ => match t ρ with
    | none => none
    | some (false, ρ1) => some (.nx ρ1)
    | some (true, ρ1) => match b ρ1 with
      | none => none
      | some (.nx ρ2) => whileS t b n ρ2
      | some (.ct ρ2) => whileS t b n ρ2
      | some (.bk ρ2) => some (.nx ρ2)
      | some (.rt d' ρ2) => some (.rt d' ρ2)
def sWhile (n : Nat) (t : CT nm) (b : CB nm) (pos : Pos) : CS nm where
  syn := .While t.syn b.syn [] pos
  sem := whileS t.sem b.sem n
  snd := fun X G => PS.imp (ps_while G.passes (t.snd X G) (b.snd X G)) fun D σ H h => by
    obtain ⟨F, ρ, g, fl, e0, p⟩ := h
    refine ⟨fun m σ' H' => ∃ Fc ρc, Gs (kw X) Fc H' σ' ρc ∧ whileS t.sem b.sem m ρc = some fl ∧ Post (kw X) nm.IO D Fc H' σ' ρc fl, ⟨n, F, ρ, g, e0, p⟩, ?_⟩
    rintro m σ' H' ⟨Fc, ρc, gc, ec, pc⟩
    cases m with
    | zero => cases ec
    | succ m =>
      unfold whileS at ec
      split at ec
      · cases ec
      · rename_i ρ1 et
        cases ec
        refine ⟨Fc, ρc, gc, false, ρ1, et, fun F1 H1 g1 f1 => ?_⟩
        dsimp only
        rw [if_neg Bool.false_ne_true]
        exact pc σ' F1 H1 g1 f1 Io.refl
      · rename_i ρ1 et
        refine ⟨Fc, ρc, gc, true, ρ1, et, fun F1 H1 g1 f1 => ?_⟩
        dsimp only
        rw [if_pos rfl]
        have p1 := pc.trans f1 Io.refl
        refine ⟨fun σ2 H2 => ∃ Fc ρc, Gs (kw X) Fc H2 σ2 ρc ∧ whileS t.sem b.sem m ρc = some fl ∧ Post (kw X) nm.IO D Fc H2 σ2 ρc fl, fun σ2 H2 ⟨Fd, ρd, gd, ed, pd⟩ => ⟨m, Nat.lt_succ_self _, Fd, ρd, gd, ed, pd⟩, F1, ρ1, g1, ?_⟩
        split at ec
        · cases ec
        · rename_i ρ4 eb
          exact ⟨_, eb, fun σ4 F4 H4 g4 f4 i4 => ⟨F4, ρ4, g4, ec, p1.trans f4 i4⟩⟩
        · rename_i ρ4 eb
          exact ⟨_, eb, fun σ4 F4 H4 g4 f4 i4 => ⟨F4, ρ4, g4, ec, p1.trans f4 i4⟩⟩
        · rename_i ρ4 eb
          cases ec
          exact ⟨_, eb, fun σ4 F4 H4 g4 f4 i4 => p1 σ4 F4 H4 g4 f4 i4⟩
        · rename_i d' ρ4 eb
          cases ec
          exact ⟨_, eb, fun v σ4 F4 H4 g4 f4 i4 dp => p1 v σ4 F4 H4 g4 f4 i4 dp⟩
end
end FL
end L2

/-! FL9: comprehensions; slices -/
namespace L2
namespace FL
open PySem PySem.Spec PyProof.Rows
def wipeE (ρ : En) : List Nat → En
  | [] => ρ
  | v :: vs => (wipeE ρ vs).set v .un
def unwipe (ρ₀ ρ : En) : List Nat → En
  | [] => ρ
  | v :: vs => (unwipe ρ₀ ρ vs).set v ((ρ₀[v]?).getD .un)
theorem wipeE_len (ρ : En) : ∀ vs : List Nat, (wipeE ρ vs).length = ρ.length
  | [] => rfl
  | v :: vs => by unfold wipeE; rw [List.length_set, wipeE_len ρ vs]
theorem unwipe_len (ρ₀ ρ : En) : ∀ vs : List Nat, (unwipe ρ₀ ρ vs).length = ρ.length
  | [] => rfl
  | v :: vs => by unfold unwipe; rw [List.length_set, unwipe_len ρ₀ ρ vs]
theorem wipeE_out {ρ : En} {i : Nat} : ∀ {vs : List Nat}, i ∉ vs → (wipeE ρ vs)[i]? = ρ[i]?
  | [], _ => rfl
  | v :: vs, h => by
    unfold wipeE
    rw [List.getElem?_set_ne fun e => h (by rw [e]; exact List.mem_cons_self)]
    exact wipeE_out fun m => h (List.mem_cons_of_mem _ m)
theorem wipeE_in {ρ : En} {i : Nat} : ∀ {vs : List Nat}, i ∈ vs → i < ρ.length → (wipeE ρ vs)[i]? = some .un
  | v :: vs, h, hl => by
    unfold wipeE
    by_cases e : v = i
    · subst e
      rw [List.getElem?_set_self (by rw [wipeE_len]; exact hl)]
    · rw [List.getElem?_set_ne e]
      exact wipeE_in ((List.mem_cons.mp h).resolve_left fun z => e z.symm) hl
theorem unwipe_out {ρ₀ ρ : En} {i : Nat} : ∀ {vs : List Nat}, i ∉ vs → (unwipe ρ₀ ρ vs)[i]? = ρ[i]?
  | [], _ => rfl
  | v :: vs, h => by
    unfold unwipe
    rw [List.getElem?_set_ne fun e => h (by rw [e]; exact List.mem_cons_self)]
    exact unwipe_out fun m => h (List.mem_cons_of_mem _ m)
theorem unwipe_in {ρ₀ ρ : En} {i : Nat} : ∀ {vs : List Nat}, i ∈ vs → i < ρ.length → ρ₀.length = ρ.length → (unwipe ρ₀ ρ vs)[i]? = ρ₀[i]?
  | v :: vs, h, hl, hh => by
    unfold unwipe
    by_cases e : v = i
    · subst e
      rw [List.getElem?_set_self (by rw [unwipe_len]; exact hl), List.getElem?_eq_getElem (by omega)]
      rfl
    · rw [List.getElem?_set_ne e]
      exact unwipe_in ((List.mem_cons.mp h).resolve_left fun z => e z.symm) hl hh
section
variable {K : KW} {F H F1 H1 : Hp} {σ : St} {ρ ρ1 ρc : En} {vs : List Nat} {p : Addr} {o : HO}
theorem Gs.wiped (g : Gs K F H σ ρ) (vs : List Nat) : Gs K F H (wipe σ vs) (wipeE ρ vs) ∧ Fw F H σ ρ F H (wipe σ vs) (wipeE ρ vs) := by
  have back : ∀ {j : Nat} {x : Sl}, (wipeE ρ vs)[j]? = some x → x ≠ .un → j ∉ vs ∧ ρ[j]? = some x := fun {j x} e n => by
    by_cases hj : j ∈ vs
    · have hl : j < ρ.length := by
        have := (List.getElem?_eq_some_iff.mp e).1
        rwa [wipeE_len] at this
      rw [wipeE_in hj hl] at e; cases e
      exact absurd rfl n
    · rw [wipeE_out hj] at e; exact ⟨hj, e⟩
  refine ⟨⟨by rw [wipe_length, wipeE_len]; exact g.len, g.le, g.sz, fun j d e => ?_, fun j d e => ?_, fun j k dj dk a e1 e2 e3 e4 => ?_⟩, Same.refl _, fun _ _ _ => ⟨rfl, rfl⟩, fun a ⟨j, d, e1, e2⟩ => ?_, fun _ h => h⟩
  · obtain ⟨hj, e⟩ := back e (fun z => nomatch z)
    obtain ⟨v, q1, q2⟩ := g.val j d e
    exact ⟨v, by rw [wipe_out hj]; exact q1, q2⟩
  · obtain ⟨hj, e⟩ := back e (fun z => nomatch z)
    obtain ⟨a, q1, q2, q3⟩ := g.own j d e
    exact ⟨a, by rw [wipe_out hj]; exact q1, q2, q3⟩
  · obtain ⟨hj, e1⟩ := back e1 (fun z => nomatch z)
    obtain ⟨hk, e2⟩ := back e2 (fun z => nomatch z)
    rw [wipe_out hj] at e3
    rw [wipe_out hk] at e4
    exact g.inj j k _ _ a e1 e2 e3 e4
  · obtain ⟨hj, e1⟩ := back e1 (fun z => nomatch z)
    rw [wipe_out hj] at e2
    exact .inl ⟨j, d, e1, e2⟩
/-- behind a block: the block's names as they were -/
theorem Gs.unwiped (g1 : Gs K F1 H1 σ ρ1) (g : Gs K F H (wipe σ vs) ρc) (f : Fw F1 H1 (wipe σ vs) (wipeE ρ1 vs) F H (wipe σ vs) ρc) : Gs K F H σ (unwipe ρ1 ρc vs) ∧ Fw F1 H1 σ ρ1 F H σ (unwipe ρ1 ρc vs) := by
  have l1 : ρ1.length = ρc.length := by rw [← g1.len, ← g.len, wipe_length]
  have lt : ∀ {j : Nat} {x : Sl}, (FL.unwipe ρ1 ρc vs)[j]? = some x → j < ρc.length := fun {j x} e => by
    have := (List.getElem?_eq_some_iff.mp e).1
    rwa [unwipe_len] at this
  have inn : ∀ {j : Nat} {x : Sl}, j ∈ vs → (FL.unwipe ρ1 ρc vs)[j]? = some x → ρ1[j]? = some x := fun {j x} hj e => by
    rw [unwipe_in hj (lt e) l1] at e; exact e
  have out : ∀ {j : Nat} {x : Sl}, j ∉ vs → (FL.unwipe ρ1 ρc vs)[j]? = some x → ρc[j]? = some x := fun {j x} hj e => by
    rw [unwipe_out hj] at e; exact e
  have sub : ∀ a, Owns (L2.wipe σ vs) (wipeE ρ1 vs) a → ∃ (i : Nat) (d : D), i ∉ vs ∧ ρ1[i]? = some (.own d) ∧ σ[i]? = some (some (.ref a)) := fun a ⟨i, d, e1, e2⟩ => by
    by_cases hi : i ∈ vs
    · have hl : i < ρ1.length := by
        have := (List.getElem?_eq_some_iff.mp e1).1
        rwa [wipeE_len] at this
      rw [wipeE_in hi hl] at e1; cases e1
    · rw [wipeE_out hi] at e1
      rw [wipe_out hi] at e2
      exact ⟨i, d, hi, e1, e2⟩
  have nown : ∀ {j : Nat} {d : D} {a : Addr}, j ∈ vs → ρ1[j]? = some (.own d) → σ[j]? = some (some (.ref a)) → ¬ Owns (L2.wipe σ vs) (wipeE ρ1 vs) a := fun {j d a} hj e1 e2 w => by
    obtain ⟨i, d', hi, w1, w2⟩ := sub a w
    obtain rfl := g1.inj j i _ _ a e1 w1 e2 w2
    exact hi hj
  have mix : ∀ {j k : Nat} {dj dk : D} {a : Addr}, j ∈ vs → k ∉ vs → ρ1[j]? = some (.own dj) → ρc[k]? = some (.own dk) → σ[j]? = some (some (.ref a)) → σ[k]? = some (some (.ref a)) → False := fun {j k dj dk a} hj hk e1 e2 e3 e4 => by
    rcases f.own a ⟨k, dk, e2, by rw [wipe_out hk]; exact e4⟩ with w | w
    · exact nown hj e1 e3 w
    · exact (g1.ownThere ⟨j, dj, e1, e3⟩).1 w
  refine ⟨⟨by rw [unwipe_len, ← l1]; exact g1.len, g.le, g.sz, fun j d e => ?_, fun j d e => ?_, fun j k dj dk a e1 e2 e3 e4 => ?_⟩, ⟨f.leF, fun a n no => ?_, fun a ⟨j, d, e1, e2⟩ => ?_, f.th⟩⟩
  · by_cases hj : j ∈ vs
    · obtain ⟨v, q1, q2⟩ := g1.val j d (inn hj e)
      exact ⟨v, q1, Dp.mono f.leF q2⟩
    · obtain ⟨v, q1, q2⟩ := g.val j d (out hj e)
      rw [wipe_out hj] at q1
      exact ⟨v, q1, q2⟩
  · by_cases hj : j ∈ vs
    · obtain ⟨a, q1, q2, q3⟩ := g1.own j d (inn hj e)
      obtain ⟨k1, k2⟩ := f.keep a q3.there (nown hj (inn hj e) q1)
      exact ⟨a, q1, k2.trans q2, q3.mono f.leF k1⟩
    · obtain ⟨a, q1, q2, q3⟩ := g.own j d (out hj e)
      rw [wipe_out hj] at q1
      exact ⟨a, q1, q2, q3⟩
  · by_cases hj : j ∈ vs
    · by_cases hk : k ∈ vs
      · exact g1.inj j k _ _ a (inn hj e1) (inn hk e2) e3 e4
      · exact (mix hj hk (inn hj e1) (out hk e2) e3 e4).elim
    · by_cases hk : k ∈ vs
      · exact (mix hk hj (inn hk e2) (out hj e1) e4 e3).elim
      · exact g.inj j k _ _ a (out hj e1) (out hk e2) (by rw [wipe_out hj]; exact e3) (by rw [wipe_out hk]; exact e4)
  · refine f.keep a n fun w => no ?_
    obtain ⟨i, d, _, w1, w2⟩ := sub a w
    exact ⟨i, d, w1, w2⟩
  · by_cases hj : j ∈ vs
    · exact .inl ⟨j, d, inn hj e1, e2⟩
    · rcases f.own a ⟨j, d, out hj e1, by rw [wipe_out hj]; exact e2⟩ with w | w
      · obtain ⟨i, d', _, w1, w2⟩ := sub a w
        exact .inl ⟨i, d', w1, w2⟩
      · exact .inr w
/-- an object that is nobody's and not frozen is changed -/
theorem Gs.updD (g : Gs K F H σ ρ) (hf : F p = none) (no : ¬ Owns σ ρ p) (z : szO o) : Gs K F (upd H p o) σ ρ := by
  refine ⟨g.len, fun b u e => ?_, fun b u e => ?_, g.val, fun i d e => ?_, g.inj⟩
  · rw [upd_ne fun q => by rw [q, hf] at e; cases e]
    exact g.le b u e
  · by_cases hb : b = p
    · subst hb; rw [upd_same] at e; cases e; exact z
    · rw [upd_ne hb] at e; exact g.sz b u e
  · obtain ⟨b, q1, q2, c⟩ := g.own i d e
    exact ⟨b, q1, q2, c.mono (Same.refl _) (upd_ne fun q => no ⟨i, d, e, by rw [← q]; exact q1⟩)⟩
theorem Fw.updD {σ' : St} {ρ' : En} (f : Fw F1 H1 σ ρ F H σ' ρ') (h0 : H1 p = none) : Fw F1 H1 σ ρ F (upd H p o) σ' ρ' := by
  refine ⟨f.leF, fun a n no => ?_, f.own, fun a q => ?_⟩
  · obtain ⟨k1, k2⟩ := f.keep a n no
    exact ⟨by rw [upd_ne fun z => n (by rw [z]; exact h0)]; exact k1, k2⟩
  · by_cases ha : a = p
    · subst ha; exact h0
    · rw [upd_ne ha] at q; exact f.th a q
end
def lcS (g : D → En → Option En) (t : En → Option (Bool × En)) (e : En → Option (D × En)) (vs : List Nat) : List D → En → Option (List D × En)
  | [], ρ => some ([], ρ)
  | d :: ds, ρ => match g d ρ with
    | none => none
    | some ρ1 => match t ρ1 with
      | none => none
      | some (false, ρ2) => lcS g t e vs ds (wipeE ρ2 vs)
      | some (true, ρ2) => match e ρ2 with
        | none => none
        | some (y, ρ3) => match lcS g t e vs ds (wipeE ρ3 vs) with
          | none => none
          | some (ys, ρ4) => some (y :: ys, ρ4)
def semLc (it : En → Option (List D × En)) (g : D → En → Option En) (t : En → Option (Bool × En)) (e : En → Option (D × En)) (vs : List Nat) : En → Option (List D × En) := fun ρ => bnd (it ρ) fun ds ρ1 => bnd (lcS g t e vs ds (wipeE ρ1 vs)) fun ys ρ2 => some (ys, unwipe ρ1 ρ2 vs)
def Nm.blk (nm : Nm) (scope : Scope) : Nm := { nm with sc := relS scope nm.sc, cf := fun x => scope.names.lookup x == some .cell }
theorem Gd.blk {nm : Nm} {X : Cx} (G : Gd nm X) (scope : Scope) (s : Shared) (H : Hp) (C : Addr) (cl : List (Str × Addr)) (fp : List Addr) : Gd (nm.blk scope) (X.blk s H scope (compEnvC scope cl C X.env) fp) where
  N := G.N
  sc := by
    show relS scope X.env.scope = relS scope nm.sc
    rw [G.sc]
  nd := G.nd
  calm := G.calm
  xe := rfl
  room := G.room
  fn := fun x h => h
  knows := fun p hp => ⟨(G.knows p hp).ex⟩
  cons := G.cons
  blt := G.blt
/-- a clause's test -/
structure CTs (nm : Nm) where
  syn : List Expr
  sem : En → Option (Bool × En)
  snd : ∀ X, Gd nm X → PTs X syn (tT (kw X) sem)
theorem PTs.imp {X : Cx} {e : List Expr} {t t' : TT} (h : PTs X e t) (hi : ∀ σ H Q, t' σ H Q → t σ H Q) : PTs X e t' := ⟨fun pins s σ H Q I q => h.run pins s σ H Q I (hi σ H Q q)⟩
section
variable {nm : Nm}
def semYes : En → Option (Bool × En) := fun ρ => some (true, ρ)
def tsNil : CTs nm where
  syn := []
  sem := semYes
  snd := fun X G => PTs.imp pts_nil fun σ H Q h => by
    obtain ⟨F, ρ, g, b, ρ', e, q⟩ := h
    cases e
    exact q F H g Fw.refl
def tsOne (t : CT nm) : CTs nm where
  syn := [t.syn]
  sem := t.sem
  snd := fun X G => pts_one (t.snd X G)
end
theorem wipe_eq {σ σ' : St} {vs sl : List Nat} (h : ∀ i, i ∉ sl → σ'[i]? = (wipe σ vs)[i]?) (hs : ∀ i ∈ sl, i ∈ vs) (hl : σ'.length = σ.length) : wipe σ' vs = wipe σ vs := by
  refine List.ext_getElem? fun i => ?_
  by_cases hi : i ∈ vs
  · have inn : ∀ τ : St, i < τ.length → (wipe τ vs)[i]? = some none := by
      intro τ ht
      have go : ∀ {ws : List Nat}, i ∈ ws → (wipe τ ws)[i]? = some none := by
        intro ws
        induction ws with
        | nil => intro h; cases h
        | cons w ws ih =>
          intro h
          unfold wipe
          by_cases e : w = i
          · subst e
            rw [List.getElem?_set_self (by rw [wipe_length]; exact ht)]
          · rw [List.getElem?_set_ne e]
            exact ih ((List.mem_cons.mp h).resolve_left fun z => e z.symm)
      exact go hi
    by_cases hlt : i < σ.length
    · rw [inn σ hlt, inn σ' (by omega)]
    · rw [List.getElem?_eq_none (by rw [wipe_length]; omega), List.getElem?_eq_none (by rw [wipe_length]; omega)]
  · rw [wipe_out hi, h i fun z => hi (hs i z)]
theorem tLc_of {K : KW} {IO : List Nat} {it : En → Option (List D × En)} {gs : D → En → Option En} {sl : List Nat} {ts : En → Option (Bool × En)} {es : En → Option (D × En)} {vs : List Nat} (hs : ∀ i ∈ sl, i ∈ vs) {σ : St} {H : Hp} {Q : VK}
    (h : tN K (semLc it gs ts es vs) σ H Q) : tLc (tI K it) (tG K IO sl gs) (tT K ts) (tE K es) vs σ H Q := by
  obtain ⟨F, ρ, g, fin, ρ', e0, q⟩ := h
  obtain ⟨ds, ρ1, e1, e0⟩ := bnd_some e0
  obtain ⟨ys, ρe, e2, e0⟩ := bnd_some e0
  cases e0
  refine ⟨F, ρ, g, ds, ρ1, e1, fun J F1 H1 g1 f1 jo => ?_⟩
  intro Dd hD
  obtain ⟨gw, fw⟩ := g1.wiped vs
  have noD : ∀ {F2 H2 : Hp} {ρ2 : En}, Fw F1 H1 (wipe σ vs) (wipeE ρ1 vs) F2 H2 (wipe σ vs) ρ2 → True := fun _ => trivial
  refine ⟨fun i m H' => m = ds.length - i ∧ i ≤ ds.length ∧ ∃ Fc ρc acc accD rest, Gs K Fc H' (wipe σ vs) ρc ∧ Fw F1 H1 (wipe σ vs) (wipeE ρ1 vs) Fc H' (wipe σ vs) ρc ∧ H' Dd = some (.lst acc) ∧ Fc Dd = none ∧ ¬ Owns (wipe σ vs) ρc Dd ∧
      DpAll K Fc acc accD ∧ acc.length ≤ i ∧ lcS gs ts es vs (ds.drop i) ρc = some (rest, ρe) ∧ accD ++ rest = fin, ⟨ds.length, by simp, Nat.zero_le _, F1, wipeE ρ1 vs, [], [], fin, ?_⟩, ?_⟩
  · obtain ⟨ga, fa⟩ := gw.alloc (o := .lst []) hD (Nat.zero_le _)
    exact ⟨ga, fa, upd_same, gw.Fnone hD, fun w => (gw.ownThere w).1 hD, .nil, Nat.zero_le _, by rw [List.drop_zero]; exact e2, rfl⟩
  · rintro i m H' ⟨rfl, hi, Fc, ρc, acc, accD, rest, gc, fc, hDd, hFd, noc, ra, hla, ec, efin⟩
    by_cases hlt : i < ds.length
    · refine .inr ⟨jo.go i H' hlt (fc.leF.trans gc.le), fun H2 => i + 1 ≤ ds.length ∧ ∃ Fc ρc acc accD rest, Gs K Fc H2 (wipe σ vs) ρc ∧ Fw F1 H1 (wipe σ vs) (wipeE ρ1 vs) Fc H2 (wipe σ vs) ρc ∧ H2 Dd = some (.lst acc) ∧ Fc Dd = none ∧ ¬ Owns (wipe σ vs) ρc Dd ∧
        DpAll K Fc acc accD ∧ acc.length ≤ i + 1 ∧ lcS gs ts es vs (ds.drop (i + 1)) ρc = some (rest, ρe) ∧ accD ++ rest = fin, ?_, ?_⟩
      · rintro H2 ⟨h1, rest'⟩
        exact ⟨ds.length - (i + 1), by omega, rfl, h1, rest'⟩
      · intro x H2 y
        obtain ⟨F2, g2, f2, d2⟩ := jo.yld i Fc H' x H2 ds[i] (wipe σ vs) ρc fc.leF gc (List.getElem?_eq_getElem hlt) y
        rw [List.drop_eq_getElem_cons hlt] at ec
        unfold lcS at ec
        split at ec
        · cases ec
        · rename_i ρ2 eg
          refine ⟨F2, ρc, ds[i], g2, d2, ρ2, eg, fun σ3 F3 H3 g3 f3 i3 s3 l3 => ?_⟩
          have ew : wipe σ3 vs = wipe σ vs := wipe_eq s3 hs (by rw [l3, wipe_length])
          refine ⟨ew, ?_⟩
          -- the new list stands through all of it
          have keepD : ∀ {F4 H4 : Hp} {σ4 : St} {ρ4 : En}, Fw Fc H' (wipe σ vs) ρc F4 H4 σ4 ρ4 → H4 Dd = some (.lst acc) ∧ F4 Dd = none ∧ ¬ Owns σ4 ρ4 Dd := fun {F4 H4 σ4 ρ4} f => by
            obtain ⟨k1, k2⟩ := f.keep Dd (by rw [hDd]; exact fun z => nomatch z) noc
            refine ⟨k1.trans hDd, k2.trans hFd, fun w => ?_⟩
            rcases f.own Dd w with w | w
            · exact noc w
            · rw [hDd] at w; cases w
          split at ec
          · cases ec
          · rename_i ρ4 et
            refine ⟨F3, ρ2, g3, false, ρ4, et, fun F4 H4 g4 f4 => ?_⟩
            dsimp only
            rw [if_neg Bool.false_ne_true]
            obtain ⟨g5, f5⟩ := g4.wiped vs
            have fa := (f2.trans f3).trans (f4.trans f5)
            obtain ⟨k1, k2, k3⟩ := keepD fa
            rw [ew] at g5 fa k3
            exact ⟨hlt, F4, wipeE ρ4 vs, acc, accD, rest, g5, fc.trans fa, k1, k2, k3, DpAll.mono fa.leF ra, by omega, ec, efin⟩
          · rename_i ρ4 et
            refine ⟨F3, ρ2, g3, true, ρ4, et, fun F4 H4 g4 f4 => ?_⟩
            dsimp only
            rw [if_pos rfl]
            split at ec
            · cases ec
            · rename_i yd ρ5 ee
              split at ec
              · cases ec
              · rename_i rest2 ρ6 er
                cases ec
                refine ⟨F4, ρ4, g4, yd, ρ5, ee, fun v F5 H5 g5 f5 d5 => ?_⟩
                obtain ⟨g6, f6⟩ := g5.wiped vs
                have fa := (f2.trans f3).trans (f4.trans (f5.trans f6))
                obtain ⟨k1, k2, k3⟩ := keepD fa
                have hz : acc.length < sizeLine := by have := jo.sz; omega
                rw [ew] at g6 fa k3
                refine ⟨acc, k1, hz, hlt, F5, wipeE ρ5 vs, acc ++ [v], accD ++ [yd], rest2, g6.updD k2 k3 (by show (acc ++ [v]).length ≤ sizeLine; rw [List.length_append, List.length_singleton]; omega), (fc.trans fa).updD hD, upd_same, k2, k3,
                  DpAll.append (DpAll.mono fa.leF ra) (.cons d5 .nil), by rw [List.length_append, List.length_singleton]; omega, er, by rw [List.append_assoc]; exact efin⟩
    · obtain rfl : i = ds.length := by omega
      rw [List.drop_length] at ec
      cases ec
      rw [List.append_nil] at efin
      subst efin
      refine .inl ⟨jo.stop H' (fc.leF.trans gc.le), ?_⟩
      obtain ⟨gu, fu⟩ := g1.unwiped gc fc
      have no : ¬ Owns σ (unwipe ρ1 ρe vs) Dd := fun w => by
        rcases fu.own Dd w with z | z
        · exact (g1.ownThere z).1 hD
        · obtain ⟨j, d, w1, w2⟩ := w
          obtain ⟨b, w3, w4, c⟩ := gu.own j d w1
          rw [w2] at w3; cases w3
          by_cases hj : j ∈ vs
          · rw [unwipe_in hj (by have := (gu.inRange w1).1; rwa [unwipe_len] at this) (by rw [← g1.len, ← gc.len, wipe_length])] at w1
            exact (g1.ownThere ⟨j, d, w1, w2⟩).1 hD
          · rw [unwipe_out hj] at w1
            exact noc ⟨j, d, w1, by rw [wipe_out hj]; exact w2⟩
      exact q Dd acc Fc H' gu (f1.trans fu) (f1.th _ hD) no hFd hDd ra
section
variable {nm : Nm}
theorem subB {sl vs : List Nat} (h : (sl.all fun i => vs.contains i) = true) : ∀ i ∈ sl, i ∈ vs := fun i hi => List.contains_iff_mem.mp (List.all_eq_true.mp h i hi)
/-- [e for t in it if ..] -/
def nLc (it : CI nm) (scope : Scope) (own : List (Str × Nat)) (t : CG (nm.blk scope)) (c : CTs (nm.blk scope)) (e : CE (nm.blk scope)) (pos : Pos) (ht : it.tg t.syn) (ok : blkC nm.N nm.sc scope own = true) (hs : (t.sl.all fun i => (own.map (·.2)).contains i) = true) : CN nm where
  syn := .ListComp e.syn [⟨t.syn, it.syn, c.syn, 0⟩] scope pos
  sem := semLc it.sem t.sem c.sem e.sem (own.map (·.2))
  pl := rfl
  snd := fun X G => PE.imp (pe_lc G.calm (by rw [G.N]; exact G.nd) (it.snd X G t.syn ht) (by rw [G.N, G.sc]; exact blkOk_by ok) (fun s H C cl fp => t.snd _ (G.blk scope s H C cl fp)) (fun s H C cl fp => c.snd _ (G.blk scope s H C cl fp)) (fun s H C cl fp => e.snd _ (G.blk scope s H C cl fp)) (Pl.folded it.pl _)) fun σ H Q h => tLc_of (subB hs) h
/-- x = [..] on one line, x a local -/
def sLcN (i : Nat) (x : Str) (it : CI nm) (scope : Scope) (own : List (Str × Nat)) (t : CG (nm.blk scope)) (c : CTs (nm.blk scope)) (e : CE (nm.blk scope)) (xpos cpos pos : Pos) (hN : nm.N[i]? = some x) (hl : nm.sc.names.lookup x = some .local) (hk : nm.sc.kind = .function) (hio : nm.IO.contains i = false)
    (ht : it.tg t.syn) (ok : blkC nm.N nm.sc scope own = true) (hs : (t.sl.all fun i => (own.map (·.2)).contains i) = true) (hln : (xpos.line == cpos.line) = true) (hno : (scope.names.any fun (n, k) => n == x && (k == .local || k == .cell)) = false) : CS nm where
  syn := .Assign [.Name x xpos] (.ListComp e.syn [⟨t.syn, it.syn, c.syn, 0⟩] scope cpos) pos
  sem := semAsgN i (semLc it.sem t.sem c.sem e.sem (own.map (·.2)))
  snd := fun X G => PS.imp (ps_setLc (i := i) G.calm (by rw [G.N]; exact G.nd) (by rw [G.N]; exact hN) (by rw [G.sc]; exact hl) (sw_true (by rw [G.sc]; exact hk) (by rw [G.sc]; exact hl) hln hno) (it.snd X G t.syn ht) (by rw [G.N, G.sc]; exact blkOk_by ok)
      (fun s H C cl fp => t.snd _ (G.blk scope s H C cl fp)) (fun s H C cl fp => c.snd _ (G.blk scope s H C cl fp)) (fun s H C cl fp => e.snd _ (G.blk scope s H C cl fp)) (Pl.folded it.pl _)) fun D σ H h => by
    obtain ⟨F, ρ, g, fl, e0, p⟩ := h
    obtain ⟨ds, ρ1, e1, e0⟩ := bnd_some e0
    cases e0
    refine tLc_of (IO := nm.IO) (subB hs) ⟨F, ρ, g, ds, ρ1, e1, fun a vs F1 H1 g1 f1 h0 no hf hH r => ?_⟩
    obtain ⟨g2, f2⟩ := g1.setOwn (d := .list ds) ⟨vs, hH, r⟩ hf no i f1 h0
    exact p _ F1 H1 g2 f2 (Io.set fun z => by rw [List.contains_iff_mem.mpr z] at hio; cases hio)
end
end FL
end L2
namespace L2
namespace FL
open PySem PySem.Spec PyProof.Rows
theorem sw_false {elt : Expr} {gs : List Comprehension} {scope : Scope} {pos py : Pos} {y : Str} {l : Nat} {env : Env} (hy : env.scope.names.lookup y ≠ some .local) : swapsWith (.ListComp elt gs scope pos) (some (.Name y py)) l env = pure false := by
  have ky : (env.kindOf y == some NameKind.local) = false := by
    have : env.kindOf y = env.scope.names.lookup y := rfl
    rw [this]
    exact beq_eq_false_iff_ne.mpr hy
  unfold swapsWith
  simp only [ky, Bool.and_false, Bool.false_and]
section
variable {nm : Nm}
/-- x = [..] on one line, x a local, its value frozen -/
def sLcV (i : Nat) (x : Str) (it : CI nm) (scope : Scope) (own : List (Str × Nat)) (t : CG (nm.blk scope)) (c : CTs (nm.blk scope)) (e : CE (nm.blk scope)) (xpos cpos pos : Pos) (hN : nm.N[i]? = some x) (hl : nm.sc.names.lookup x = some .local) (hk : nm.sc.kind = .function) (hio : nm.IO.contains i = false)
    (ht : it.tg t.syn) (ok : blkC nm.N nm.sc scope own = true) (hs : (t.sl.all fun i => (own.map (·.2)).contains i) = true) (hln : (xpos.line == cpos.line) = true) (hno : (scope.names.any fun (n, k) => n == x && (k == .local || k == .cell)) = false) : CS nm where
  syn := .Assign [.Name x xpos] (.ListComp e.syn [⟨t.syn, it.syn, c.syn, 0⟩] scope cpos) pos
  sem := semAsg i (semFrz (semLc it.sem t.sem c.sem e.sem (own.map (·.2))))
  snd := fun X G => PS.imp (ps_setLc (i := i) G.calm (by rw [G.N]; exact G.nd) (by rw [G.N]; exact hN) (by rw [G.sc]; exact hl) (sw_true (by rw [G.sc]; exact hk) (by rw [G.sc]; exact hl) hln hno) (it.snd X G t.syn ht) (by rw [G.N, G.sc]; exact blkOk_by ok)
      (fun s H C cl fp => t.snd _ (G.blk scope s H C cl fp)) (fun s H C cl fp => c.snd _ (G.blk scope s H C cl fp)) (fun s H C cl fp => e.snd _ (G.blk scope s H C cl fp)) (Pl.folded it.pl _)) fun D σ H h => by
    obtain ⟨F, ρ, g, fl, e0, p⟩ := h
    obtain ⟨d, ρ1, e1, ea⟩ := bnd_some e0
    cases ea
    obtain ⟨ds, ρ2, e2, eb⟩ := bnd_some e1
    cases eb
    refine tLc_of (IO := nm.IO) (subB hs) ⟨F, ρ, g, ds, ρ1, e2, fun a vs F1 H1 g1 f1 h0 no hf hH r => ?_⟩
    have g2 := g1.freeze hH hf no
    have s : Same F1 (upd F1 a (.lst vs)) := Same.upd_new hf
    obtain ⟨g3, f3⟩ := g2.setVal (d := .list ds) (.lst (Rd.of upd_same) (DpAll.mono s r)) i
    have f2 : Fw F H σ ρ (upd F1 a (.lst vs)) H1 σ ρ1 := ⟨f1.leF.trans s, fun b n nb => by
      obtain ⟨k1, k2⟩ := f1.keep b n nb
      exact ⟨k1, (upd_ne (fun z => n (by rw [z]; exact h0))).trans k2⟩, f1.own, f1.th⟩
    exact p _ _ H1 g3 (f2.trans f3) (Io.set fun z => by rw [List.contains_iff_mem.mpr z] at hio; cases hio)
/-- x = [..], x a name that is captured: stored by the other road -/
def sAsgC (i : Nat) (x : Str) (e : CE nm) (xpos pos : Pos) (hN : nm.N[i]? = some x) (hl : locB nm x = true) (hio : nm.IO.contains i = false) (hs : ∀ X, Gd nm X → swapsWith e.syn (some (.Name x xpos)) pos.line X.env = pure false) : CS nm where
  syn := .Assign [.Name x xpos] e.syn pos
  sem := semAsg i e.sem
  snd := fun X G => PS.imp (ps_set (i := i) (by rw [G.N]; exact G.nd) (by rw [G.N]; exact hN) (by rw [G.sc]; exact loc_of hl) (e.snd X G) (hs X G) (G.hf hl)) fun D σ H h => by
    obtain ⟨F, ρ, g, fl, e0, p⟩ := h
    obtain ⟨d, ρ1, e1, e0⟩ := bnd_some e0
    cases e0
    refine ⟨F, ρ, g, d, ρ1, e1, fun v F1 H1 g1 f1 d1 => ?_⟩
    obtain ⟨g2, f2⟩ := g1.setVal d1 i
    exact p _ F1 H1 g2 (f1.trans f2) (Io.set fun z => by rw [List.contains_iff_mem.mpr z] at hio; cases hio)
def sAsgCN (i : Nat) (x : Str) (e : CN nm) (xpos pos : Pos) (hN : nm.N[i]? = some x) (hl : locB nm x = true) (hio : nm.IO.contains i = false) (hs : ∀ X, Gd nm X → swapsWith e.syn (some (.Name x xpos)) pos.line X.env = pure false) : CS nm where
  syn := .Assign [.Name x xpos] e.syn pos
  sem := semAsgN i e.sem
  snd := fun X G => PS.imp (ps_set (i := i) (by rw [G.N]; exact G.nd) (by rw [G.N]; exact hN) (by rw [G.sc]; exact loc_of hl) (e.snd X G) (hs X G) (G.hf hl)) fun D σ H h => by
    obtain ⟨F, ρ, g, fl, e0, p⟩ := h
    obtain ⟨ds, ρ1, e1, e0⟩ := bnd_some e0
    cases e0
    refine ⟨F, ρ, g, ds, ρ1, e1, fun a vs F1 H1 g1 f1 h0 no hf hH r => ?_⟩
    obtain ⟨g2, f2⟩ := g1.setOwn (d := .list ds) ⟨vs, hH, r⟩ hf no i f1 h0
    exact p _ F1 H1 g2 f2 (Io.set fun z => by rw [List.contains_iff_mem.mpr z] at hio; cases hio)
end
/-- a scope as it is written here -/
def mkS (names : List (String × NameKind)) (more : List (Str × Const) := []) : Scope := { kind := .function, names := names.map fun p => (Str.ofString p.1, p.2), isGenerator := false, isCoroutine := false, more := more }
end FL
end L2

/-! FL10: a def's body as a promise; the law's end -/
namespace L2
namespace FL
open PySem PySem.Spec PyProof.Rows
/-- what comes out of the cells lent -/
def outs : List Sl → En → Option (List Sl)
  | [], _ => some []
  | .own _ :: as, .own c :: ρ => (outs as ρ).map fun l => .own c :: l
  | .val _ :: as, _ :: ρ => (outs as ρ).map fun l => .un :: l
  | .un :: as, _ :: ρ => (outs as ρ).map fun l => .un :: l
  | _, _ => none
def ioOk (io : List Nat) (as : List Sl) : Bool := (List.range as.length).all fun i => !isOwn as[i]? || io.contains i
def runD (io : List Nat) (N : Nat) (sem : En → Option Fl) (as : List Sl) : Option (D × List Sl) :=
  if ioOk io as = true then match sem (as ++ List.replicate (N - as.length) .un) with
    | some (.rt d ρ) => (outs as ρ).map fun l => (d, l)
    | some (.nx ρ) => (outs as ρ).map fun l => (.none, l)
    | _ => none
  else none
theorem outs_spec : ∀ {as : List Sl} {ρ : En} {l : List Sl}, outs as ρ = some l → l.length = as.length ∧ ∀ (i : Nat) (c : D), l[i]? = some (.own c) → ρ[i]? = some (.own c) ∧ ∃ e, as[i]? = some (.own e)
  | [], ρ, l, h => by
    cases h
    exact ⟨rfl, fun i c e => by simp at e⟩
  | .own x :: as, [], l, h => by simp [outs] at h
  | .val x :: as, [], l, h => by simp [outs] at h
  | .un :: as, [], l, h => by simp [outs] at h
  | .own x :: as, .un :: ρ, l, h => by simp [outs] at h
  | .own x :: as, .val _ :: ρ, l, h => by simp [outs] at h
  | .own x :: as, .own c :: ρ, l, h => by
    unfold outs at h
    obtain ⟨l', e, rfl⟩ := Option.map_eq_some_iff.mp h
    obtain ⟨h1, h2⟩ := outs_spec e
    refine ⟨by rw [List.length_cons, List.length_cons, h1], fun i d q => ?_⟩
    cases i with
    | zero => simp at q; subst q; exact ⟨rfl, x, rfl⟩
    | succ i => simpa using h2 i d (by simpa using q)
  | .val x :: as, y :: ρ, l, h => by
    unfold outs at h
    obtain ⟨l', e, rfl⟩ := Option.map_eq_some_iff.mp h
    obtain ⟨h1, h2⟩ := outs_spec e
    refine ⟨by rw [List.length_cons, List.length_cons, h1], fun i d q => ?_⟩
    cases i with
    | zero => simp at q
    | succ i => simpa using h2 i d (by simpa using q)
  | .un :: as, y :: ρ, l, h => by
    unfold outs at h
    obtain ⟨l', e, rfl⟩ := Option.map_eq_some_iff.mp h
    obtain ⟨h1, h2⟩ := outs_spec e
    refine ⟨by rw [List.length_cons, List.length_cons, h1], fun i d q => ?_⟩
    cases i with
    | zero => simp at q
    | succ i => simpa using h2 i d (by simpa using q)
theorem outs_noval : ∀ {as : List Sl} {ρ : En} {l : List Sl}, outs as ρ = some l → ∀ (i : Nat) (c : D), l[i]? ≠ some (.val c)
  | [], ρ, l, h => by
    cases h
    intro i c e
    simp at e
  | .own x :: as, [], l, h => by simp [outs] at h
  | .val x :: as, [], l, h => by simp [outs] at h
  | .un :: as, [], l, h => by simp [outs] at h
  | .own x :: as, .un :: ρ, l, h => by simp [outs] at h
  | .own x :: as, .val _ :: ρ, l, h => by simp [outs] at h
  | .own x :: as, .own c :: ρ, l, h => by
    unfold outs at h
    obtain ⟨l', e, rfl⟩ := Option.map_eq_some_iff.mp h
    intro i d q
    cases i with
    | zero => simp at q
    | succ i => exact outs_noval e i d (by simpa using q)
  | .val x :: as, y :: ρ, l, h => by
    unfold outs at h
    obtain ⟨l', e, rfl⟩ := Option.map_eq_some_iff.mp h
    intro i d q
    cases i with
    | zero => simp at q
    | succ i => exact outs_noval e i d (by simpa using q)
  | .un :: as, y :: ρ, l, h => by
    unfold outs at h
    obtain ⟨l', e, rfl⟩ := Option.map_eq_some_iff.mp h
    intro i d q
    cases i with
    | zero => simp at q
    | succ i => exact outs_noval e i d (by simpa using q)
section
variable {K : KW} {F H F' H' : Hp} {vs : List V} {as : List Sl} {n m : Nat} {σ' : St} {ρ' : En}
theorem app_in {α : Type} {l r : List α} {i : Nat} {x : α} (h : l[i]? = some x) : (l ++ r)[i]? = some x := by
  rw [List.getElem?_append_left (List.getElem?_eq_some_iff.mp h).1]
  exact h
theorem app_un {l : List Sl} {i : Nat} {x : Sl} (h : (l ++ List.replicate n .un)[i]? = some x) (hx : x ≠ .un) : l[i]? = some x := by
  by_cases hi : i < l.length
  · rw [List.getElem?_append_left hi] at h; exact h
  · rw [List.getElem?_append_right (by omega)] at h
    have := List.mem_of_getElem? h
    exact absurd (List.eq_of_mem_replicate this) hx
theorem Gs.entry (g : Gs K F H (vs.map some) as) (hl : n = m) : Gs K F H (vs.map some ++ List.replicate n none) (as ++ List.replicate m .un) := by
  subst hl
  have lv : vs.length = as.length := by have := g.len; rwa [List.length_map] at this
  have back : ∀ {i : Nat} {w : Option V} {x : Sl}, (vs.map some ++ List.replicate n none)[i]? = some w → as[i]? = some x → (vs.map some)[i]? = some w := fun {i w x} h h' => by
    have hi : i < (vs.map some).length := by rw [List.length_map, lv]; exact (List.getElem?_eq_some_iff.mp h').1
    rw [List.getElem?_append_left hi] at h; exact h
  refine ⟨by simp [lv], g.le, g.sz, fun i d e => ?_, fun i d e => ?_, fun i j di dj a e1 e2 e3 e4 => ?_⟩
  · obtain ⟨v, q1, q2⟩ := g.val i d (app_un e (fun z => nomatch z))
    exact ⟨v, app_in q1, q2⟩
  · obtain ⟨a, q1, q2, q3⟩ := g.own i d (app_un e (fun z => nomatch z))
    exact ⟨a, app_in q1, q2, q3⟩
  · have e1 := app_un e1 (fun z => nomatch z)
    have e2 := app_un e2 (fun z => nomatch z)
    exact g.inj i j _ _ a e1 e2 (back e3 e1) (back e4 e2)
theorem Gs.exit {io : List Nat} {l : List Sl} (g : Gs K F H (vs.map some) as) (hio : ioOk io as = true) (hl : n = m) (g' : Gs K F' H' σ' ρ') (f' : Fw F H (vs.map some ++ List.replicate n none) (as ++ List.replicate m .un) F' H' σ' ρ') (i' : Io io (vs.map some ++ List.replicate n none) σ') (ho : outs as ρ' = some l) :
    Gs K F' H' (vs.map some) l ∧ Fw F H (vs.map some) as F' H' (vs.map some) l := by
  subst hl
  have lv : vs.length = as.length := by have := g.len; rwa [List.length_map] at this
  obtain ⟨o1, o2⟩ := outs_spec ho
  have inIo : ∀ {i : Nat} {d : D}, as[i]? = some (.own d) → i ∈ io := fun {i d} e => by
    have hi := (List.getElem?_eq_some_iff.mp e).1
    have q := List.all_eq_true.mp hio i (List.mem_range.mpr hi)
    rw [e] at q
    have q : io.contains i = true := by simpa [isOwn] using q
    exact List.contains_iff_mem.mp q
  have same : ∀ {i : Nat} {d : D}, as[i]? = some (.own d) → σ'[i]? = (vs.map some)[i]? := fun {i d} e => by
    rw [i' i (inIo e)]
    have hi : i < (vs.map some).length := by rw [List.length_map, lv]; exact (List.getElem?_eq_some_iff.mp e).1
    rw [List.getElem?_append_left hi]
  refine ⟨⟨by rw [List.length_map, o1, lv], g'.le, g'.sz, fun i d e => absurd e (outs_noval ho i d), fun i d e => ?_, fun i j di dj a e1 e2 e3 e4 => ?_⟩, ⟨f'.leF, fun a n no => ?_, fun a ⟨i, d, e1, e2⟩ => ?_, f'.th⟩⟩
  · obtain ⟨q1, x, q2⟩ := o2 i d e
    obtain ⟨a, w1, w2, w3⟩ := g'.own i d q1
    rw [same q2] at w1
    exact ⟨a, w1, w2, w3⟩
  · obtain ⟨q1, x, q2⟩ := o2 i di e1
    obtain ⟨q3, y, q4⟩ := o2 j dj e2
    exact g'.inj i j _ _ a q1 q3 (by rw [same q2]; exact e3) (by rw [same q4]; exact e4)
  · refine f'.keep a n fun ⟨i, d, w1, w2⟩ => no ?_
    have w1 := app_un w1 (fun z => nomatch z)
    have hi : i < (vs.map some).length := by rw [List.length_map, lv]; exact (List.getElem?_eq_some_iff.mp w1).1
    rw [List.getElem?_append_left hi] at w2
    exact ⟨i, d, w1, w2⟩
  · obtain ⟨q1, x, q2⟩ := o2 i d e1
    exact .inl ⟨i, x, q2, e2⟩
end
/-- how a def stands behind the top -/
def At (P : Program) (w : World) (K : PySem.W.Frag) (mg : Str → Option Value) (base : Heap) (k : Nat) (p : Prom) : Prop :=
  ∃ (f : Addr) (fd : FuncData), mg p.name = some (.ref f) ∧ PySem.W.keepIn K (.ref f) = true ∧ BindOk K fd p ∧ FnOk P w K mg base CX0 k f fd p.ps (spOf ⟨K, w⟩ p)
theorem At.mono {P : Program} {w : World} {K : PySem.W.Frag} {mg : Str → Option Value} {base : Heap} {j k : Nat} {p : Prom} (h : At P w K mg base j p) (hl : j ≤ k) : At P w K mg base k p := by
  obtain ⟨f, fd, h1, h2, h3, h4⟩ := h
  exact ⟨f, fd, h1, h2, h3, h4.mono hl⟩
structure Glb (K : PySem.W.Frag) (w : World) (mg : Str → Option Value) (cs : List (Str × D)) : Prop where
  cons : ∀ q ∈ cs, CnOk K w mg q
  blt : ∀ x ∈ bltNames, mg x = none
def promB {nm : Nm} (name : Str) (ps : List Str) (b : CB nm) : Prom := ⟨name, ps, runD nm.IO nm.N.length b.sem, false⟩
def promK {nm : Nm} (name : Str) (ps : List Str) (b : CB nm) : Prom := ⟨name, ps, runD nm.IO nm.N.length b.sem, true⟩
theorem def_fn {nm : Nm} {P : Program} {w : World} {K : PySem.W.Frag} {mg : Str → Option Value} {base : Heap} {k : Nat} {x qual : Str} {st : Stmt} {f : Addr} {fd : FuncData} {ps : List Str} (b : CB nm) (F : Fun K x qual st f fd) (S : FnScope nm.N ps (defScope st))
    (hsyn : b.syn = defBody st) (hsc : nm.sc = defScope st) (hcf : nm.cf = fun _ => true) (kn : ∀ p ∈ nm.Γ, At P w K mg base k p) (G : Glb K w mg nm.cs) : FnOk P w K mg base CX0 (k + 1) f fd ps (spOf ⟨K, w⟩ (promB x ps b)) := by
  refine F.ok S (fun vs H Q E h => ?_) (fun cdv A outer s H vs Q E hr h => ?_)
  · obtain ⟨Fz, as, hl, g, _⟩ := h
    have := g.len
    rw [List.length_map] at this
    exact this.trans hl
  obtain ⟨Fz, as, hl, g, d, os, e, q⟩ := h
  have hl : as.length = ps.length := hl
  have lv : vs.length = as.length := by have := g.len; rwa [List.length_map] at this
  have gd : Gd nm (cxOf CX0 P w K mg base nm.N qual (defScope st) f cdv A outer s H E).nox := by
    refine ⟨rfl, hsc.symm, S.nd, rfl, rfl, hr.mono (Nat.zero_le _), fun _ _ => rfl, fun p hp => ?_, G.cons, G.blt⟩
    obtain ⟨f', fd', h1, h2, h3, h4⟩ := kn p hp
    exact ⟨f', fd', k, h1, h2, h3, h4, hr⟩
  have hb := b.snd _ gd
  rw [hsyn] at hb
  refine ⟨_, hb, ?_⟩
  have e : runD nm.IO nm.N.length b.sem as = some (d, os) := e
  unfold runD at e
  split at e
  · rename_i hio
    refine ⟨Fz, as ++ List.replicate (nm.N.length - as.length) .un, ?_⟩
    have hn : nm.N.length - vs.length = nm.N.length - as.length := by rw [lv]
    refine ⟨g.entry hn, ?_⟩
    split at e
    · rename_i d' ρ' es
      obtain ⟨l, e1, e2⟩ := Option.map_eq_some_iff.mp e
      cases e2
      refine ⟨_, es, fun v σ' F' H' g' f' i' dp => ?_⟩
      obtain ⟨g2, f2⟩ := g.exit hio hn g' f' i' e1
      exact q v F' H' g2 f2 dp
    · rename_i ρ' es
      obtain ⟨l, e1, e2⟩ := Option.map_eq_some_iff.mp e
      cases e2
      refine ⟨_, es, fun σ' F' H' g' f' i' => ?_⟩
      obtain ⟨g2, f2⟩ := g.exit hio hn g' f' i' e1
      exact q .non F' H' g2 f2 .non
    · cases e
  · cases e
theorem def_at {nm : Nm} {P : Program} {w : World} {K : PySem.W.Frag} {mg : Str → Option Value} {base : Heap} {k : Nat} {x qual : Str} {st : Stmt} {f : Addr} {fd : FuncData} {ps : List Str} (b : CB nm) (F : Fun K x qual st f fd) (S : FnScope nm.N ps (defScope st))
    (hsyn : b.syn = defBody st) (hsc : nm.sc = defScope st) (hcf : nm.cf = fun _ => true) (hm : mg x = some (.ref f)) (hb : Binds K fd ps []) (kn : ∀ p ∈ nm.Γ, At P w K mg base k p) (G : Glb K w mg nm.cs) : At P w K mg base (k + 1) (promB x ps b) :=
  ⟨f, fd, hm, F.kp, ⟨fun _ => hb, fun z => (Bool.false_ne_true z).elim, fun z => (Bool.false_ne_true z).elim⟩, def_fn b F S hsyn hsc hcf kn G⟩
theorem def_atK {nm : Nm} {P : Program} {w : World} {K : PySem.W.Frag} {mg : Str → Option Value} {base : Heap} {k : Nat} {x qual y : Str} {st : Stmt} {f : Addr} {fd : FuncData} {ps qs : List Str} (b : CB nm) (F : Fun K x qual st f fd) (S : FnScope nm.N ps (defScope st))
    (hsyn : b.syn = defBody st) (hsc : nm.sc = defScope st) (hcf : nm.cf = fun _ => true) (hm : mg x = some (.ref f)) (hps : ps = qs ++ [y]) (hd : ∃ (u : Value) (a : Addr), RelV (.ref a) u ∧ ModT K a [] ∧ Binds K fd ps [u]) (hk : KBn K fd ps qs.length [y] snoc snoc) (kn : ∀ p ∈ nm.Γ, At P w K mg base k p) (G : Glb K w mg nm.cs) : At P w K mg base (k + 1) (promK x ps b) :=
  ⟨f, fd, hm, F.kp, ⟨fun z => (Bool.false_ne_true z.symm).elim, fun _ => hd, fun _ => ⟨qs, y, hps, hk⟩⟩, def_fn b F S hsyn hsc hcf kn G⟩
/-- a def whose last parameter is told by its name alone, () else -/
theorem kwd_binds {K : PySem.W.Frag} {x qual y : Str} {st : Stmt} {f D T N : Addr} {oc doc pm cdv ct : Value} {od an : Option Addr} {osl ks : Array (Option Value)} {ps qs : List Str}
    (l : K.lookup f = some ⟨oc, od, .func (PySem.W.fnOf x qual (defArgs st) (defBody st) (defScope st) .none (.ref D) doc pm an cdv ct), osl⟩) (c : PySem.W.codeIn K cdv qual = true) (k : PySem.W.keepIn K (.ref f) = true)
    (hn : PySem.W.nsIn K D y = some (some (.ref T))) (hT : K.lookup T = some ⟨.type "tuple", none, .seq #[] N, ks⟩) (hps : ps = qs ++ [y])
    (h : ∀ (doc pm : Value) (an : Option Addr) (cdv ct : Value) (us ks : List Value), us.length = qs.length → ks.length = 1 → KwChain D ([y].zip ks) (bindArgs (PySem.W.fnOf x qual (defArgs st) (defBody st) (defScope st) .none (.ref D) doc pm an cdv ct) ⟨us, []⟩) (ps.zip (us ++ ks)))
    (h2 : ∀ {s : Shared} (us ws : List Value), us.length = qs.length → ws.length = 1 → BindsTo s (PySem.W.fnOf x qual (defArgs st) (defBody st) (defScope st) .none (.ref D) doc pm an cdv ct) ⟨us, [y].zip ws⟩ (ps.zip (snoc us ws))) :
    (∃ (u : Value) (a : Addr), RelV (.ref a) u ∧ ModT K a [] ∧ Binds K (PySem.W.fnOf x qual (defArgs st) (defBody st) (defScope st) .none (.ref D) doc pm an cdv ct) ps [u]) ∧
      KBn K (PySem.W.fnOf x qual (defArgs st) (defBody st) (defScope st) .none (.ref D) doc pm an cdv ct) ps qs.length [y] snoc snoc := by
  refine ⟨?_, ⟨fun s us ws _ l1 l2 => h2 us ws l1 l2, fun r1 r2 => r1.append r2⟩⟩
  refine ⟨.ref T, T, rfl, ⟨_, #[], N, hT, rfl, rfl, rfl, Nat.zero_le _, .nil⟩, fun s us X hlen => BindsTo.of_looks fun M => ?_⟩
  have l2 : us.length = qs.length := by
    rw [hps, List.length_append, List.length_append] at hlen
    exact Nat.add_right_cancel hlen
  exact KwChain.looks X (l := [y].zip [Value.ref T]) (fun q hq => by
    obtain rfl := List.mem_singleton.mp (show q ∈ [(y, Value.ref T)] from hq)
    exact hn) (h doc pm an cdv ct us [.ref T] l2 rfl)
/-- a promise of nothing -/
theorem at_none {P : Program} {w : World} {K : PySem.W.Frag} {mg : Str → Option Value} {base : Heap} {k : Nat} {x : Str} {f : Addr} {fd : FuncData} {ps : List Str} (hm : mg x = some (.ref f)) (hk : PySem.W.keepIn K (.ref f) = true) (hb : Binds K fd ps []) :
    At P w K mg base k ⟨x, ps, fun _ => none, false⟩ := by
  have no : ∀ vs H Q E, ¬ spOf ⟨K, w⟩ ⟨x, ps, fun _ => none, false⟩ vs H Q E := fun vs H Q E h => by
    obtain ⟨_, _, _, _, _, _, e, _⟩ := h
    cases e
  exact ⟨f, fd, hm, hk, ⟨fun _ => hb, fun z => (Bool.false_ne_true z).elim, fun z => (Bool.false_ne_true z).elim⟩, ⟨fun vs H Q E h => absurd h (no vs H Q E), fun A outer s H args us vs Q E _ _ _ _ h => absurd h (no vs H Q E)⟩⟩
/-! ### the law -/
theorem szO_of {P : Program} {w : World} {H : Hp} {h : Heap} {a : Addr} : ∀ {o : HO}, ObjOk P w H h a o → szO o
  | .lst _, x => x.1
  | .tup _, x => x.1
  | .frz _ u, x => szO_of (o := u) (show ObjOk P w H h a u from x.2)
  | .dK _, x => x.1
  | .dT _, x => x.1
  | .set _ _, _ => trivial
  | .ins _ _ _, _ => trivial
  | .own _, _ => trivial
  | .xd _, _ => trivial
  | .met _ _, _ => trivial
  | .rng _ _, _ => trivial
  | .tbl _, _ => trivial
  | .ext _, _ => trivial
theorem PSs.sized {X : Cx} {st : List Stmt} {t : TS} (h : PSs X st t) : PSs X st fun D σ H => (∀ a o, H a = some o → szO o) → t D σ H :=
  ⟨fun pins s σ H D I q => h.run pins s σ H D I (q fun a o e => szO_of (I.hok a o e))⟩
def scrD (ns : List Int) : D := .dict [(.none, .list (ns.map .int))]
def spLaw (K : PySem.W.Frag) (p : Prom) : Sp := fun vs H Q _ => ∃ (a : Addr) (ns : List Int), vs = [.ref a] ∧ SqL K H a (ns.map V.int) ∧ (∃ os, p.sem [.val (scrD ns)] = some (.bool true, os)) ∧ ∀ H', Q (.bl true) H'
theorem dpInts {K : KW} {F : Hp} : ∀ ns : List Int, DpAll K F (ns.map V.int) (ns.map .int)
  | [] => .nil
  | n :: r => .cons (.int n) (dpInts r)
theorem law_fn {nm : Nm} {P : Program} {w : World} {K : PySem.W.Frag} {mg : Str → Option Value} {base : Heap} {k : Nat} {x qual s0 : Str} {st : Stmt} {f : Addr} {fd : FuncData} (b : CB nm) (F : Fun K x qual st f fd) (S : FnScope nm.N [s0] (defScope st))
    (hsyn : b.syn = defBody st) (hsc : nm.sc = defScope st) (kn : ∀ p ∈ nm.Γ, At P w K mg base k p) (G : Glb K w mg nm.cs) : FnOk P w K mg base CX0 (k + 1) f fd [s0] (spLaw K (promB x [s0] b)) := by
  refine F.ok S (fun vs H Q E h => ?_) (fun cdv A outer s H vs Q E hr h => ?_)
  · obtain ⟨a, ns, rfl, _⟩ := h
    rfl
  obtain ⟨a, ns, rfl, hS, ⟨os, e⟩, q⟩ := h
  have gd : Gd nm (cxOf CX0 P w K mg base nm.N qual (defScope st) f cdv A outer s H E).nox := by
    refine ⟨rfl, hsc.symm, S.nd, rfl, rfl, hr.mono (Nat.zero_le _), fun _ _ => rfl, fun p hp => ?_, G.cons, G.blt⟩
    obtain ⟨f', fd', h1, h2, h3, h4⟩ := kn p hp
    exact ⟨f', fd', k, h1, h2, h3, h4, hr⟩
  have hb := b.snd _ gd
  rw [hsyn] at hb
  refine ⟨_, PSs.sized hb, fun sz => ?_⟩
  have g : Gs ⟨K, w⟩ H H ([V.ref a].map some) [Sl.val (scrD ns)] := by
    refine ⟨rfl, Same.refl _, sz, fun i d e => ?_, fun i d e => ?_, fun i j di dj a e => ?_⟩
    · cases i with
      | zero => cases e; exact ⟨_, rfl, .scr hS (dpInts ns)⟩
      | succ i => cases e
    · cases i with
      | zero => cases e
      | succ i => cases e
    · cases i with
      | zero => cases e
      | succ i => cases e
  have e : runD nm.IO nm.N.length b.sem [Sl.val (scrD ns)] = some (.bool true, os) := e
  unfold runD at e
  split at e
  · rename_i hio
    refine ⟨H, ([Sl.val (scrD ns)] ++ List.replicate (nm.N.length - 1) Sl.un : En), g.entry (n := nm.N.length - 1) (m := nm.N.length - 1) rfl, ?_⟩
    split at e
    · rename_i d' ρ' es
      obtain ⟨l, e1, e2⟩ := Option.map_eq_some_iff.mp e
      cases e2
      refine ⟨_, es, fun v σ' F' H' g' f' i' dp => ?_⟩
      cases dp
      exact q H'
    · rename_i ρ' es
      obtain ⟨l, e1, e2⟩ := Option.map_eq_some_iff.mp e
      cases e2
    · cases e
  · cases e
end FL
end L2

/-! FL11: slices, things turned about, insert, lists put together -/
namespace L2
namespace FL
open PySem PySem.Spec PyProof.Rows
section
variable {prog : Program} {w : World} {A : Around} {E : Value → Shared → Prop} {s : Shared}
theorem slice_back {sl : Addr} {vl vu vs : Value} {n : Nat} {Q : Int × Int × Nat → Shared → Prop} (hs : s.heap.IsSliceOf sl vl vu vs) (pl : IsPart vl none) (pu : IsPart vu none) (ps : IsPart vs (some (-1)))
    (h : Q ((n : Int) - 1, -1, n) s) : wpAny (model prog w) A (Builtin.Slice.sliceApplied (.ref sl) (pure (n : Int))) Q E s := by
  obtain ⟨os, hos, hcs, hds⟩ := id hs
  unfold Builtin.Slice.sliceApplied Builtin.Slice.sliceFields
  refine wpAny_bind (wpAny_bind (wpAny_field hos hds (x := vl) rfl (wpAny_bind (wpAny_field hos hds (x := vu) rfl (wpAny_bind (wpAny_field hos hds (x := vs) rfl (wpAny_pure ?_)))))))
  refine wpAny_bind (HT.slicePart_ ps ?_)
  show wpAny _ _ (if ((-1 : Int) == 0) = true then _ else _) _ _ s
  rw [if_neg (by decide)]
  refine wpAny_bind (HT.slicePart_ pl (wpAny_bind (HT.slicePart_ pu (wpAny_bind (wpAny_pure ?_)))))
  show wpAny _ _ (pure (((n : Int) - 1), (-1 : Int), Builtin.Slice.slicePlaces ((n : Int) - 1) (-1) (-1))) _ _ s
  have e : Builtin.Slice.slicePlaces ((n : Int) - 1) (-1) (-1) = n := by
    unfold Builtin.Slice.slicePlaces
    rw [if_neg (by decide)]
    by_cases h : (n : Int) - 1 > -1
    · rw [if_pos h, show (- -1 : Int) = 1 by decide, Int.ediv_one]; omega
    · rw [if_neg h]; omega
  rw [e]
  exact wpAny_pure h
theorem fm_congr {α β : Type} {f g : α → Option β} : ∀ {l : List α}, (∀ x ∈ l, f x = g x) → l.filterMap f = l.filterMap g
  | [], _ => rfl
  | x :: l, h => by
    rw [List.filterMap_cons, List.filterMap_cons, h x (by simp), fm_congr fun y hy => h y (by simp [hy])]
theorem pick_back (xs : Array Value) : ((List.range xs.size).filterMap fun (m : Nat) => xs[(((xs.size : Int) - 1) + (m : Int) * (-1)).toNat]?).toArray = xs.toList.reverse.toArray := by
  have e := PySem.W.krv_pick xs
  unfold slicePick at e
  rw [PySem.W.krv_bounds] at e
  rw [← e]
  show _ = ((sliceRange ((xs.size : Int) - 1) (-1) (-1)).filterMap (xs[·]?)).toArray
  rw [PySem.W.krv_sliceRange, List.filterMap_map]
  congr 1
  refine fm_congr fun m hm => ?_
  have := List.mem_range.mp hm
  show xs[(((xs.size : Int) - 1) + (m : Int) * (-1)).toNat]? = xs[xs.size - 1 - m]?
  congr 1
  omega
theorem getItem_tuple_back {t sl : Addr} {items : Array Value} {vl vu vs : Value} {Q : Value → Shared → Prop} (ht : IsTup s.heap t items) (hs : s.heap.IsSliceOf sl vl vu vs) (pl : IsPart vl none) (pu : IsPart vu none) (ps : IsPart vs (some (-1)))
    (h : Q (.ref s.heap.objs.size) { s with heap := s.heap.push { cls := .type "tuple", data := .seq items.toList.reverse.toArray } }) (hsz : items.size ≤ sizeLine) : wpAny (model prog w) A (getItem (.ref t) (.ref sl)) Q E s := by
  have htake : sizeOk (.seq items.toList.reverse.toArray) := by
    show items.toList.reverse.toArray.size ≤ sizeLine
    rw [List.size_toArray, List.length_reverse, Array.length_toList]
    exact hsz
  obtain ⟨os, hos, hcs, hds⟩ := id hs
  have hTs : s.TypeIs (.ref sl) "slice" := ⟨os, hos, hcs⟩
  unfold getItem
  try with_reducible refine wpAny_holding ?_
  first | refine wpAny_bind (wpAny_pure ?_) | skip
  refine wpAny_bind (wpAny_sequenceKey ht.typeIs (by decide) ?_)
  refine wpAny_bind (wpAny_callSpecial?_slot (name := Str.ofString "__getitem__") ht.typeIs PyProof.Rows.slot_tuple_getitem
    (wpAny_call_entry PyProof.Rows.slot_tuple_getitem ht.typeIs entry_tuple_getitem ?_ (args_tuple_getitem _ _)))
  show wpAny _ _ (Builtin.Tuple.tupleItemsOf (.ref t) >>= _) _ _ s
  refine wpAny_bind (tupleItemsOf_ ht ?_)
  refine wpAny_bind (wpAny_typeOf hTs ?_)
  rw [if_pos (by decide)]
  refine wpAny_bind (slice_back hs pl pu ps ?_)
  have hno : ¬ ((((items.size : Int) - 1) == 0 && (-1 : Int) == 1 && items.size == items.size) = true) := by
    intro q
    rw [Bool.and_eq_true, Bool.and_eq_true] at q
    exact absurd q.1.2 (by decide)
  show wpAny _ _ (if (((items.size : Int) - 1) == 0 && (-1 : Int) == 1 && items.size == items.size) = true then _ else _) _ _ s
  rw [if_neg hno, pick_back]
  first
    | exact wpAny_bind (m := Builtin.Tuple.tupleExact _) (wpAny_newObj_type (wpAny_pure ⟨_, rfl, wpAny_pure h⟩) htake)
    | exact wpAny_bind (m := Builtin.Tuple.tupleExact _) (wpAny_newObj_type (wpAny_bind (wpAny_pure (wpAny_pure ⟨_, rfl, wpAny_pure h⟩))) htake)
    | exact wpAny_bind (wpAny_bind (m := Builtin.Tuple.tupleExact _) (wpAny_newObj_type (wpAny_pure (wpAny_pure ⟨_, rfl, wpAny_pure h⟩)) htake))
    | exact wpAny_bind (wpAny_bind (m := Builtin.Tuple.tupleExact _) (wpAny_newObj_type (wpAny_pure ⟨_, rfl, wpAny_pure h⟩) htake))
end
section
variable {X : Cx}
/-- xs[::-1] of a tuple -/
def tRevT (K : PySem.W.Frag) (te : TE) : TE := fun σ H Q => te σ H fun x H1 => ∃ a xs, x = .ref a ∧ SqT K H1 a xs ∧ MkT xs.reverse H1 Q
theorem pe_revT {e : Expr} {te : TE} {k : Nat} {p1 p2 p3 pos : Pos} (he : PE X e te) : PE X (.Subscript e (.Slice none none (some (.UnaryOp .USub (.Constant (.int 1) k p1) p2)) p3) pos) (tRevT X.K te) := by
  refine ⟨fun pins s σ H Q I h => ?_⟩
  refine Subscript_ (thn (he.run pins s σ H _ I h) fun v s1 ⟨x, H1, I1, r1, q1⟩ => ?_)
  obtain ⟨a, xs, ex, hx, q⟩ := q1
  subst ex
  cases r1
  have hst : PO X (some (.UnaryOp .USub (.Constant (.int 1) k p1) p2)) (tPart (tUn (rU fun i => .int (-i)) (L2.tC (.int 1)))) := po_some (pe_un un_neg pe_int)
  refine wpAny_Slice (thn (po_none.run pins s1 σ H1 (fun o H2 => o = none ∧ H2 = H1) I1 ⟨rfl, rfl⟩) fun vl s2 ⟨l, H2, I2, pl, el, e2⟩ => ?_)
  subst el e2
  refine thn (po_none.run pins s2 σ H2 (fun o H3 => o = none ∧ H3 = H2) I2 ⟨rfl, rfl⟩) fun vu s3 ⟨u, H3, I3, pu, eu, e3⟩ => ?_
  subst eu e3
  refine thn (hst.run pins s3 σ H3 (fun o H4 => o = some (-1) ∧ H4 = H3) I3 ⟨1, rfl, -1, rfl, rfl, rfl⟩) fun vs s4 ⟨o, H4, I4, ps, eo, e4⟩ => ?_
  subst eo e4
  have I5 : Inv X pins σ H4 { s4 with heap := s4.heap.push { cls := .type "slice", data := .fields #[vl, vu, vs] } } := I4.kept (t' := s4.toks) fun b ob q => Heap.get?_push_of_some _ q
  obtain ⟨its, r, ht, hz⟩ := I5.tuple hx
  have hlen := r.length
  show wpAny (model X.prog X.w) X.A (subscriptTail e (.Slice none none (some (.UnaryOp .USub (.Constant (.int 1) k p1) p2)) p3) (.ref a) (.ref s4.heap.objs.size)) (EP X pins σ Q) X.xe { s4 with heap := s4.heap.push { cls := .type "slice", data := .fields #[vl, vu, vs] } }
  refine tail_any (ops := [.ref a, .ref s4.heap.objs.size]) ht.typeIs (PyProof.Rows.slot_tuple_getitem.lookup) ?_ (by with_unfolding_all rfl)
  refine getItem_tuple_back ht (Heap.IsSliceOf.new _ vl vu vs) pl pu ps ?_ (by rw [List.size_toArray]; omega)
  exact MkT.fin (c := s4.toks) I5 r.reverse (by rw [List.length_reverse]; exact hz) q
/-- either of both -/
theorem PE.or {e : Expr} {t u : TE} (h : PE X e t) (h' : PE X e u) : PE X e fun σ H Q => t σ H Q ∨ u σ H Q := ⟨fun pins s σ H Q I q => by
  rcases q with q | q
  · exact h.run pins s σ H Q I q
  · exact h'.run pins s σ H Q I q⟩
end
section
variable {nm : Nm}
def dRev : D → Option D
  | .list ds => some (.list ds.reverse)
  | .tuple ds => some (.tuple ds.reverse)
  | _ => none
def eRev (a : CE nm) (k : Nat) (p1 p2 p3 pos : Pos) : CE nm where
  syn := .Subscript a.syn (.Slice none none (some (.UnaryOp .USub (.Constant (.int 1) k p1) p2)) p3) pos
  sem := semUn dRev a.sem
  pl := rfl
  snd := fun X G => PE.imp (PE.or (pe_revL (a.snd X G)) (pe_revT (a.snd X G))) fun σ H Q h => by
    obtain ⟨F, ρ, g, d, ρ', e, q⟩ := h
    obtain ⟨x, ρ1, e1, e⟩ := bnd_some e
    obtain ⟨z, e2, e3⟩ := Option.map_eq_some_iff.mp e
    cases e3
    unfold dRev at e2
    split at e2
    · cases e2
      refine .inl ⟨F, ρ, g, _, ρ', e1, fun v F1 H1 g1 f1 d1 => ?_⟩
      obtain ⟨a, xs, rfl, qa, ra⟩ := d1.lstOf
      refine ⟨a, xs, rfl, .inl (Rd.up qa g1.le), fun p hp => ?_⟩
      obtain ⟨g2, f2, dp⟩ := g1.putList hp (vs := xs.reverse) (by rw [List.length_reverse]; exact g1.szL qa) (DpAll.reverse ra)
      exact q _ _ _ g2 (f1.trans f2) dp
    · cases e2
      refine .inr ⟨F, ρ, g, _, ρ', e1, fun v F1 H1 g1 f1 d1 => ?_⟩
      obtain ⟨a, xs, rfl, qa, ra⟩ := d1.tupOf
      exact ⟨a, xs, rfl, SqT.up qa g1.le, g1.mkT (by rw [List.length_reverse]; exact g1.szT qa) (DpAll.reverse ra) fun v F' H' g2 f2 dp => q v F' H' g2 (f1.trans f2) dp⟩
    · cases e2
def dRevN : D → Option (List D)
  | .list ds => some ds.reverse
  | _ => none
def nRev (a : CE nm) (k : Nat) (p1 p2 p3 pos : Pos) : CN nm where
  syn := .Subscript a.syn (.Slice none none (some (.UnaryOp .USub (.Constant (.int 1) k p1) p2)) p3) pos
  sem := semN1 dRevN a.sem
  pl := rfl
  snd := fun X G => PE.imp (pe_revL (a.snd X G)) fun σ H Q h => by
    obtain ⟨F, ρ, g, d, ρ', e, q⟩ := h
    obtain ⟨x, ρ1, e1, e⟩ := bnd_some e
    obtain ⟨z, e2, e3⟩ := Option.map_eq_some_iff.mp e
    cases e3
    unfold dRevN at e2
    split at e2
    · cases e2
      refine ⟨F, ρ, g, _, ρ', e1, fun v F1 H1 g1 f1 d1 => ?_⟩
      obtain ⟨a, xs, rfl, qa, ra⟩ := d1.lstOf
      refine ⟨a, xs, rfl, .inl (Rd.up qa g1.le), fun p hp => ?_⟩
      obtain ⟨g2, f2, no, hf⟩ := g1.newN hp (vs := xs.reverse) (by rw [List.length_reverse]; exact g1.szL qa) (DpAll.reverse ra)
      exact q p _ _ _ g2 (f1.trans f2) (f1.th p hp) no hf upd_same (DpAll.reverse ra)
    · cases e2
/-- a list + a list, as a new list -/
def semCatN (ea eb : En → Option (D × En)) : En → Option (List D × En) := fun ρ => bnd (ea ρ) fun x ρ1 => bnd (eb ρ1) fun y ρ2 => match x, y with
  | .list a, .list b => if a.length + b.length ≤ sizeLine then some (a ++ b, ρ2) else none
  | _, _ => none
def nCat (a b : CE nm) (pos : Pos) : CN nm where
  syn := .BinOp a.syn .Add b.syn pos
  sem := semCatN a.sem b.sem
  pl := rfl
  snd := fun X G => PE.imp (pe_op op_catR (a.snd X G) (b.snd X G)) fun σ H Q h => by
    obtain ⟨F, ρ, g, d, ρ', e, q⟩ := h
    obtain ⟨x, ρ1, e1, e⟩ := bnd_some e
    obtain ⟨y, ρ2, e2, e⟩ := bnd_some e
    refine ⟨F, ρ, g, x, ρ1, e1, fun v1 F1 H1 g1 f1 d1 => ⟨F1, ρ1, g1, y, ρ2, e2, fun v2 F2 H2 g2 f2 d2 => ?_⟩⟩
    split at e
    · obtain ⟨hz, e3⟩ := ite_some e
      cases e3
      obtain ⟨a, xs, rfl, qa, ra⟩ := (Dp.mono f2.leF d1).lstOf
      obtain ⟨b, ys, rfl, qb, rb⟩ := d2.lstOf
      have l1 := DpAll.length ra
      have l2 := DpAll.length rb
      have hz' : xs.length + ys.length ≤ sizeLine := by omega
      refine ⟨a, b, xs, ys, rfl, rfl, Rd.up qa g2.le, Rd.up qb g2.le, hz', fun p hp => ?_⟩
      obtain ⟨g3, f3, no, hf⟩ := g2.newN hp (vs := xs ++ ys) (by rw [List.length_append]; exact hz') (DpAll.append ra rb)
      exact q p _ _ _ g3 (f1.trans (f2.trans f3)) (f1.th p (f2.th p hp)) no hf upd_same (DpAll.append ra rb)
    · cases e
/-! ### slices -/
def tO (K : KW) (sem : En → Option (Option Int × En)) : TO := fun σ H Q => ∃ F ρ, Gs K F H σ ρ ∧ ∃ o ρ', sem ρ = some (o, ρ') ∧ ∀ F' H', Gs K F' H' σ ρ' → Fw F H σ ρ F' H' σ ρ' → Q o H'
structure CO (nm : Nm) where
  syn : Option Expr
  sem : En → Option (Option Int × En)
  snd : ∀ X, Gd nm X → PO X syn (tO (kw X) sem)
theorem PO.imp {X : Cx} {e : Option Expr} {t t' : TO} (h : PO X e t) (hi : ∀ σ H Q, t' σ H Q → t σ H Q) : PO X e t' := ⟨fun pins s σ H Q I q => h.run pins s σ H Q I (hi σ H Q q)⟩
def semONone : En → Option (Option Int × En) := fun ρ => some (none, ρ)
def oNone : CO nm where
  syn := none
  sem := semONone
  snd := fun X G => PO.imp po_none fun σ H Q h => by
    obtain ⟨F, ρ, g, o, ρ', e, q⟩ := h
    cases e
    exact q F H g Fw.refl
def semOSome (e : En → Option (D × En)) : En → Option (Option Int × En) := fun ρ => bnd (e ρ) fun d ρ1 => match d with
  | .int i => some (some i, ρ1)
  | _ => none
def oSome (e : CE nm) : CO nm where
  syn := some e.syn
  sem := semOSome e.sem
  snd := fun X G => PO.imp (po_some (e.snd X G)) fun σ H Q h => by
    obtain ⟨F, ρ, g, o, ρ', e0, q⟩ := h
    obtain ⟨d, ρ1, e1, e0⟩ := bnd_some e0
    split at e0
    · cases e0
      refine ⟨F, ρ, g, _, ρ', e1, fun v F1 H1 g1 f1 d1 => ?_⟩
      cases d1
      exact ⟨_, rfl, q F1 H1 g1 f1⟩
    · cases e0
def cutL {α : Type} (xs : List α) (lo hi : Option Int) : List α := (xs.drop (HT.sIx xs.length 0 lo)).take (HT.sIx xs.length xs.length hi - HT.sIx xs.length 0 lo)
theorem cut_dp {K : KW} {F : Hp} {vs : List V} {ds : List D} (r : DpAll K F vs ds) (lo hi : Option Int) : DpAll K F (cutV vs lo hi) (cutL ds lo hi) := by
  unfold cutV cutL
  rw [DpAll.length r]
  exact DpAll.take _ (DpAll.drop _ r)
theorem cut_all {α : Type} {xs : List α} {lo hi : Option Int} (h : HT.sIx xs.length 0 lo = 0 ∧ HT.sIx xs.length xs.length hi = xs.length) : cutL xs lo hi = xs := by
  unfold cutL
  rw [h.1, h.2]
  simp
def dCut : D → Option Int → Option Int → Option D
  | .list ds, lo, hi => some (.list (cutL ds lo hi))
  | .tuple ds, lo, hi => some (.tuple (cutL ds lo hi))
  | .str z, lo, hi => if z.length ≤ sizeLine then some (.str (cutS z lo hi)) else none
  | _, _, _ => none
def semCut (e : En → Option (D × En)) (l h : En → Option (Option Int × En)) : En → Option (D × En) := fun ρ => bnd (e ρ) fun d ρ1 => bnd (l ρ1) fun lo ρ2 => bnd (h ρ2) fun hi ρ3 => (dCut d lo hi).map fun x => (x, ρ3)
def eCut (a : CE nm) (l h : CO nm) (p2 pos : Pos) : CE nm where
  syn := .Subscript a.syn (.Slice l.syn h.syn none p2) pos
  sem := semCut a.sem l.sem h.sem
  pl := rfl
  snd := fun X G => PE.imp (pe_slice (SlR.or sl_list (SlR.or sl_tupF sl_str)) (a.snd X G) (l.snd X G) (h.snd X G)) fun σ H Q hq => by
    obtain ⟨F, ρ, g, d, ρ', e, q⟩ := hq
    obtain ⟨x, ρ1, e1, e⟩ := bnd_some e
    obtain ⟨lo, ρ2, e2, e⟩ := bnd_some e
    obtain ⟨hi, ρ3, e3, e⟩ := bnd_some e
    obtain ⟨z, e4, e5⟩ := Option.map_eq_some_iff.mp e
    cases e5
    refine ⟨F, ρ, g, x, ρ1, e1, fun v F1 H1 g1 f1 d1 => ⟨F1, ρ1, g1, lo, ρ2, e2, fun F2 H2 g2 f2 => ⟨F2, ρ2, g2, hi, ρ', e3, fun F3 H3 g3 f3 => ?_⟩⟩⟩
    have d3 := Dp.mono (f2.leF.trans f3.leF) d1
    have f := f1.trans (f2.trans f3)
    unfold dCut at e4
    split at e4
    · cases e4
      obtain ⟨a, xs, rfl, qa, ra⟩ := d3.lstOf
      refine .inl ⟨a, xs, rfl, .inl (Rd.up qa g3.le), fun p hp => ?_⟩
      obtain ⟨g4, f4, dp⟩ := g3.putList hp (vs := cutV xs lo hi) (Nat.le_trans (cutV_length _ _ _) (g3.szL qa)) (cut_dp ra lo hi)
      exact q _ _ _ g4 (f.trans f4) dp
    · cases e4
      obtain ⟨a, xs, rfl, qa, ra⟩ := d3.tupOf
      refine .inr (.inl ⟨a, xs, rfl, SqT.up qa g3.le, fun hw => ?_, fun _ => ?_⟩)
      · rw [DpAll.length ra] at hw
        rw [cut_all hw] at q
        exact q _ F3 H3 g3 f d3
      · exact g3.mkT (Nat.le_trans (cutV_length _ _ _) (g3.szT qa)) (cut_dp ra lo hi) fun v F' H' g4 f4 dp => q v F' H' g4 (f.trans f4) dp
    · obtain ⟨hz, e6⟩ := ite_some e4
      subst e6
      cases d3
      exact .inr (.inr ⟨_, rfl, hz, q _ F3 H3 g3 f (.str _)⟩)
    · cases e4
/-- x.insert(k, e) -/
def semIns (i : Nat) (k e : En → Option (D × En)) : En → Option (D × En) := fun ρ => if isOwnL ρ[i]? = true then bnd (k ρ) fun n ρ1 => bnd (e ρ1) fun d ρ2 => match ρ2[i]?, n with
    | some (.own (.list ds)), .int n => if 0 ≤ n ∧ n ≤ sizeLine ∧ ds.length < sizeLine then some (.none, ρ2.set i (.own (.list (ds.take n.toNat ++ [d] ++ ds.drop n.toNat)))) else none
    | _, _ => none
  else none
def oInsert (i : Nat) (x : Str) (k e : CE nm) (xpos apos cpos : Pos) (hN : nm.N[i]? = some x) (hv : visB nm.sc x = true) (hp : (apos.endLine == cpos.line) = true) (hd : (x == ("__debug__" : Str)) = false := by rfl) (hcd : (x == ("__classdict__" : Str)) = false := by rfl) : CE nm where
  syn := .Call (.Attribute (.Name x xpos) "insert" apos) [k.syn, e.syn] [] cpos
  sem := semIns i k.sem e.sem
  pl := rfl
  snd := fun X G => PE.imp (pe_bm PySem.F.plainAttrs_list PySem.F.slot_list_insert PySem.F.type_list_insert mt_insert (pe_var (i := i) (by rw [G.N]; exact hN) (by rw [G.sc]; exact vis_of hv) hd hcd) (pa_cons (k.snd X G) (pa_cons (e.snd X G) pa_nil (Pl.star e.pl _ _)) (Pl.star k.pl _ _)) rfl (few2 k.pl e.pl) hp (Pl.star k.pl _ _) (starred_tail (es := [e.syn]) (fun x hx => by rw [List.mem_singleton.mp hx]; exact e.pl) _ _)) fun σ H Q h => by
    obtain ⟨F, ρ, g, d, ρ', e0, q⟩ := h
    unfold semIns at e0
    split at e0
    · rename_i ho
      obtain ⟨ds0, ho⟩ := isOwnL_of ho
      obtain ⟨n, ρ1, e1, ea⟩ := bnd_some e0
      obtain ⟨y, ρ2, e2, eb⟩ := bnd_some ea
      clear e0 ea
      split at eb
      · rename_i ds n' hc
        obtain ⟨hz, e3⟩ := ite_some eb
        cases e3
        obtain ⟨a, w1, _, vs0, w0, _⟩ := g.own i _ ho
        refine ⟨.ref a, w1, .inl ⟨rfl, vs0, SqL.of w0⟩, F, ρ, g, _, ρ1, e1, fun v F1 H1 g1 f1 d1 => ⟨F1, ρ1, g1, y, ρ2, e2, fun v2 F2 H2 g2 f2 d2 => ?_⟩⟩
        cases d1
        obtain ⟨a', w2, w3, vs, w4, w5⟩ := g2.own i _ hc
        rw [w1] at w2; cases w2
        have hl := DpAll.length w5
        obtain ⟨g3, f3⟩ := g2.setCell (o := .lst (vs.take n'.toNat ++ [v2] ++ vs.drop n'.toNat)) (d := .list (ds.take n'.toNat ++ [y] ++ ds.drop n'.toNat)) hc w1 (by
            show (vs.take n'.toNat ++ [v2] ++ vs.drop n'.toNat).length ≤ sizeLine
            rw [List.length_append, List.length_append, List.length_take, List.length_drop, List.length_singleton]; omega)
          ⟨_, upd_same, DpAll.append (DpAll.append (DpAll.take _ w5) (.cons d2 .nil)) (DpAll.drop _ w5)⟩
        have h2 : n' < 2 ^ 63 := Int.lt_of_le_of_lt hz.2.1 (Int.lt_trans sizeLine62 (by decide))
        exact ⟨a, vs, n', v2, rfl, rfl, w4, by omega, hz.1, h2, q _ F2 _ g3 (f1.trans (f2.trans f3)) .non⟩
      · cases eb
    · cases e0
end
end FL
end L2

/-! FL12: dicts made of pairs -/
namespace L2
namespace FL
open PySem PySem.Spec PyProof.Rows
section
variable {X : Cx}
/-- dict(t), t a tuple of pairs, its object told -/
theorem call_dictT (hc : X.calm = true) : CallR X (.type "dict") (fun xs H Q => ∃ (a : Addr) (ps : List Addr) (kvs : List (Key × V)), xs = [.ref a] ∧ ((∃ o, H a = some (.frz o (.tup (ps.map V.ref))) ∧ o.dict = none) ∨ ModT X.K a (ps.map V.ref)) ∧
    Paired (fun p kv => SqT X.K H p [kV kv.1, kv.2]) ps kvs ∧ ∀ p, H p = none → Q (.ref p) (upd H p (.dK (mergeK [] kvs)))) := by
  intro pins s σ H xs us Q I r h
  obtain ⟨a, ps, kvs, rfl, e, hp, q⟩ := h
  obtain ⟨u0, rfl, ru⟩ := vals1 r
  cases ru
  obtain ⟨o', n, its, ho, hcl, od, hdat, rv, z⟩ : ∃ (o' : Obj) (n : Nat) (its : List Value), s.heap.get? a = some o' ∧ o'.cls = .type "tuple" ∧ o'.dict = none ∧ o'.data = .seq its.toArray n ∧ Vals (ps.map V.ref) its ∧ (ps.map V.ref).length ≤ sizeLine := by
    rcases e with ⟨o, e, od⟩ | ⟨o, its, n, e, hcl, od, hdat, hz, rv⟩
    · obtain ⟨ho, z, its, rv, o', ho', hcl, n, hdat⟩ := I.hok a _ e
      have : o' = o := by rw [ho] at ho'; exact (Option.some.inj ho').symm
      subst this
      exact ⟨o', n, its, ho, hcl, od, hdat, rv, z⟩
    · refine ⟨o, n, its.toList, I.kIn _ _ e, hcl, od, hdat, rv, ?_⟩
      rw [rv.length, Array.length_toList]
      exact hz
  have ei := refs_at rv
  subst ei
  rw [List.length_map] at z
  obtain ⟨prs, rel, hl, hpr⟩ := pairs_of I hp
  have hx : ∀ j : Fin prs.length, ∃ u : Value, ∃ b, ps[j.1]? = some b ∧ IsTup s.heap b #[u, prs[j.1].2] ∧ keyIs prs[j.1].1 u = true := fun j => by
    obtain ⟨b, u, h1, h2, h3⟩ := hpr j.1 prs[j.1] (List.getElem?_eq_getElem j.2)
    exact ⟨u, b, h1, h2, h3⟩
  obtain ⟨f, hf⟩ := Classical.axiomOfChoice hx
  let pv : List (Value × Value) := List.ofFn fun j : Fin prs.length => (f j, prs[j.1].2)
  have hpl : pv.length = prs.length := List.length_ofFn
  have hpv : ∀ (j : Nat) (k v : Value), pv[j]? = some (k, v) → ∃ h : j < prs.length, k = f ⟨j, h⟩ ∧ v = prs[j].2 := fun j k v w => by
    obtain ⟨h1, h2⟩ := List.getElem?_eq_some_iff.mp w
    rw [hpl] at h1
    simp only [pv, List.getElem_ofFn] at h2
    injection h2 with h3 h4
    exact ⟨h1, h3.symm, h4.symm⟩
  let Ts : Nat → Addr := fun j => ps.getD j 0
  have ok : PlainSeq "tuple" s.heap a (ps.map Value.ref).toArray ∧ PairItems s.heap (ps.map Value.ref).toArray Ts pv := by
    refine ⟨⟨o', n, ho, hcl, od, hdat⟩, by simp [hpl, hl], fun j k v w => ?_⟩
    obtain ⟨hj, rfl, rfl⟩ := hpv j k v w
    obtain ⟨b, h1, h2, h3⟩ := hf ⟨j, hj⟩
    have e1 : Ts j = b := by simp only [Ts, List.getD_eq_getElem?_getD, h1, Option.getD_some]
    refine ⟨by simp [e1, h1], .inl ?_⟩
    rw [e1]
    exact h2
  refine _root_.PySem.call_dict_pairs (knd := mixKind X.prog X.w) (kvs := prs) (PairArg.tuple a (ps.map Value.ref).toArray Ts pv) (I.ok.hd hc) ok ⟨hpl.symm, fun i k v w => ?_⟩ (by rw [hpl, hl]; exact z) fun h' tk hd' kp => ?_
  · obtain ⟨hj, rfl, rfl⟩ := hpv i k v w
    obtain ⟨b, h1, h2, h3⟩ := hf ⟨i, hj⟩
    exact ⟨prs[i].1, List.getElem?_eq_getElem hj, h3⟩
  · have hm : (s.heap.objs.size == sysModules) = false := beq_eq_false_iff_ne.mpr (Nat.ne_of_gt I.big)
    have hlen : (mergeK [] kvs).length ≤ sizeLine := by
      refine Nat.le_trans (length_mergeK kvs []) ?_
      have e9 := rel.length
      simp only [List.length_nil]
      omega
    exact ⟨.ref _, upd H _ (.dK (mergeK [] kvs)), I.laid (t' := tk) (fun b ob w => kp b ob (fun x => nomatch x) w) (Nat.le_refl _) ⟨hlen, hm, merged [] prs, KV.merge rel .nil, hd'⟩, rfl, q _ (I.hok.fresh (Nat.le_refl _))⟩
end
/-! ### dict(x) -/
def pairK : D → Option (Key × D)
  | .tuple [k, d] => (keyOf k).map fun c => (c, d)
  | _ => none
def pairsK : List D → Option (List (Key × D))
  | [] => some []
  | d :: ds => match pairK d, pairsK ds with
    | some p, some ps => some (p :: ps)
    | _, _ => none
def mergeD (kvs : List (D × D)) (ps : List (Key × D)) : List (D × D) := ps.foldl (fun acc p => putD acc p.1 p.2) kvs
def dDict : D → Option D
  | .list ds => (pairsK ds).map fun ps => .dict (mergeD [] ps)
  | .tuple ds => (pairsK ds).map fun ps => .dict (mergeD [] ps)
  | .dict kvs => if okK kvs = true then some (.dict kvs) else none
  | _ => none
inductive PrR (K : KW) (F : Hp) : List (Key × V) → List (Key × D) → Prop
  | nil : PrR K F [] []
  | cons {k : Key} {v : V} {d : D} {r : List (Key × V)} {r' : List (Key × D)} : Dp K F v d → PrR K F r r' → PrR K F ((k, v) :: r) ((k, d) :: r')
section
variable {K : KW} {F H : Hp} {σ : St} {ρ : En}
theorem PrR.merge : ∀ {kvs : List (Key × V)} {ps : List (Key × D)}, PrR K F kvs ps → ∀ {es : List (Key × V)} {ds : List (D × D)}, DkR K F es ds → DkR K F (mergeK es kvs) (mergeD ds ps)
  | _, _, .nil, _, _, r => r
  | _, _, .cons h t, _, _, r => PrR.merge t (DkR.put _ h r)
theorem pairs_dp (s : Same F H) : ∀ {xs : List V} {ds : List D} {ps : List (Key × D)}, DpAll K F xs ds → pairsK ds = some ps →
    ∃ (as : List Addr) (kvs : List (Key × V)), xs = as.map V.ref ∧ Paired (fun p kv => SqT K H p [kV kv.1, kv.2]) as kvs ∧ PrR K F kvs ps
  | _, _, _, .nil, e => by cases e; exact ⟨[], [], rfl, .nil, .nil⟩
  | _, _, _, .cons (d := d) (ds := ds) h t, e => by
    unfold pairsK at e
    split at e
    · rename_i p ps h1 h2
      cases e
      obtain ⟨as, kvs, rfl, b1, b2⟩ := pairs_dp s t h2
      unfold pairK at h1
      split at h1
      · rename_i k z
        obtain ⟨c, h3, h4⟩ := Option.map_eq_some_iff.mp h1
        cases h4
        obtain ⟨a, l, rfl, qa, ra⟩ := h.tupOf
        cases ra with
        | cons r1 r2 =>
          cases r2 with
          | cons r3 r4 =>
            cases r4
            obtain rfl := kV_dp r1 h3
            exact ⟨a :: as, (c, _) :: kvs, rfl, .cons (SqT.up qa s) b1, .cons r3 b2⟩
      · cases h1
    · cases e
theorem pairs_kOk : ∀ {ds : List D} {ps : List (Key × D)}, pairsK ds = some ps → kOk ds = false
  | [], _, _ => rfl
  | d :: ds, _, e => by
    unfold pairsK at e
    split at e
    · rename_i p ps h1 h2
      unfold pairK at h1
      split at h1
      · rfl
      · cases h1
    · cases e
theorem Gs.putDict {p : Addr} (g : Gs K F H σ ρ) (h : H p = none) {es : List (Key × V)} {kvs : List (D × D)} (z : es.length ≤ sizeLine) (r : DkR K F es kvs) :
    Gs K (upd F p (.dK es)) (upd H p (.dK es)) σ ρ ∧ Fw F H σ ρ (upd F p (.dK es)) (upd H p (.dK es)) σ ρ ∧ Dp K (upd F p (.dK es)) (.ref p) (.dict kvs) := by
  obtain ⟨g1, f1⟩ := g.put (o := .dK es) h z
  exact ⟨g1, f1, .dic (Rd.of upd_same) (DkR.mono f1.leF r)⟩
theorem PrR.len : ∀ {kvs : List (Key × V)} {ps : List (Key × D)}, PrR K F kvs ps → kvs.length = ps.length
  | _, _, .nil => rfl
  | _, _, .cons _ t => by rw [List.length_cons, List.length_cons, PrR.len t]
end
def bDict : B1 "dict" where
  f := dDict
  snd := .inr ⟨"dict", by decide +kernel, fun X hc _ pins s σ0 H xs us Q I r h => by
    obtain ⟨F, σ, ρ, x, dx, d, rfl, g, px, e, q⟩ := h
    unfold dDict at e
    split at e
    · obtain ⟨ps, e1, rfl⟩ := Option.map_eq_some_iff.mp e
      obtain ⟨a, l, rfl, qa, ra⟩ := px.lstOf
      obtain ⟨as, kvs, rfl, b1, b2⟩ := pairs_dp g.le ra e1
      refine call_dictP hc pins s σ0 H _ us Q I r ⟨a, as, kvs, rfl, .inl (Rd.up qa g.le), b1, fun p hp => ?_⟩
      have z : (mergeK [] kvs).length ≤ sizeLine := by
        have h1 := length_mergeK kvs []
        have h2 := g.szL qa
        have h3 := b1.length
        simp only [List.length_nil, List.length_map] at h1 h2
        omega
      obtain ⟨g1, f1, dp⟩ := g.putDict hp z (b2.merge .nil)
      exact q _ _ _ g1 f1 dp
    · obtain ⟨ps, e1, rfl⟩ := Option.map_eq_some_iff.mp e
      cases px with
      | tup tp ra =>
        have h1 := tp.2 (pairs_kOk e1)
        obtain ⟨as, kvs, rfl, b1, b2⟩ := pairs_dp g.le ra e1
        refine call_dictT hc pins s σ0 H _ us Q I r ⟨_, as, kvs, rfl, h1.imp (fun ⟨o, h1, h2⟩ => ⟨o, g.le _ _ h1, h2⟩) id, b1, fun p hp => ?_⟩
        have z : (mergeK [] kvs).length ≤ sizeLine := by
          have h1 := length_mergeK kvs []
          have h2 := g.szT (tp.sq)
          have h3 := b1.length
          simp only [List.length_nil, List.length_map] at h1 h2
          omega
        obtain ⟨g1, f1, dp⟩ := g.putDict hp z (b2.merge .nil)
        exact q _ _ _ g1 f1 dp
    · obtain ⟨hok, e⟩ := ite_some e
      cases e
      obtain ⟨a, es, rfl, qa, ra⟩ := px.dictOf hok
      refine call_dictD pins s σ0 H _ us Q I r ⟨a, es, rfl, Rd.up qa g.le, fun p hp => ?_⟩
      obtain ⟨g1, f1, dp⟩ := g.putDict hp (g.szK qa) ra
      exact q _ _ _ g1 f1 dp
    · cases e⟩
end FL
end L2

/-! FL13: the greatest and the least of a list -/
namespace L2
namespace FL
open PySem PySem.Spec PyProof.Rows
/-- data that can be put in order with one another -/
def alikeB (ds : List D) : Bool := (ds.all fun x => ds.all fun y => PySem.W.alike x y) && ds.all fun x => match x with
  | .none => false
  | _ => true
theorem alikeB_all {ds : List D} (h : alikeB ds = true) : PySem.W.AlikeAll ds := by
  unfold alikeB at h
  obtain ⟨h1, h2⟩ := Bool.and_eq_true_iff.mp h
  refine ⟨fun x hx y hy => List.all_eq_true.mp (List.all_eq_true.mp h1 x hx) y hy, fun x hx e => ?_⟩
  subst e
  exact Bool.false_ne_true (List.all_eq_true.mp h2 _ hx)
theorem vals_back : ∀ {xs : List V} {us : List Value} {i : Nat} {u : Value}, Vals xs us → us[i]? = some u → ∃ x, xs[i]? = some x ∧ RelV x u
  | _, _, _, _, .nil, e => by simp at e
  | _, _, 0, _, .cons h _, e => by
    simp at e
    subst e
    exact ⟨_, rfl, h⟩
  | _, _, i + 1, _, .cons _ t, e => by
    obtain ⟨x, h1, h2⟩ := vals_back (i := i) t (by simpa using e)
    exact ⟨x, by simpa using h1, h2⟩
theorem DpAll.at {K : KW} {F : Hp} {xs : List V} {ds : List D} {i : Nat} {v : V} (r : DpAll K F xs ds) (e : xs[i]? = some v) : ∃ d, ds[i]? = some d ∧ Dp K F v d := DpAll.get' r e
theorem lay_at : ∀ {ds : List D} {i : Nat} {d : D}, PyData.canLayAll0 ds = true → ds[i]? = some d → d.canLay0 = true
  | [], _, _, _, e => by simp at e
  | x :: ds, 0, d, h, e => by
    have h' : (x.canLay0 && PyData.canLayAll0 ds) = true := by simpa [PyData.canLayAll0] using h
    simp at e
    subst e
    exact (Bool.and_eq_true_iff.mp h').1
  | x :: ds, i + 1, d, h, e => by
    have h' : (x.canLay0 && PyData.canLayAll0 ds) = true := by simpa [PyData.canLayAll0] using h
    exact lay_at (Bool.and_eq_true_iff.mp h').2 (by simpa using e)
def dMaxL : D → Option D
  | .list (x :: xs) => if alikeB (x :: xs) = true ∧ PyData.canLayAll0 (x :: xs) = true ∧ PyData.depthAll (x :: xs) ≤ 64 then some (PySem.W.maxD x xs) else none
  | _ => none
def bMaxL : B1 "max" where
  f := dMaxL
  snd := .inl ⟨"max", by decide +kernel, fun X hc hr pins s σ0 H xs us Q I r h => by
    obtain ⟨F, σ, ρ, x, dx, d, rfl, g, px, e, q⟩ := h
    unfold dMaxL at e
    split at e
    · rename_i y ys
      obtain ⟨⟨c1, c2, c3⟩, e⟩ := ite_some e
      obtain ⟨a, l, rfl, qa, ra⟩ := px.lstOf
      obtain ⟨w, rfl, rw'⟩ := vals1 r
      cases rw'
      obtain ⟨its, rv, pl, z⟩ := I.list (.inl (Rd.up qa g.le))
      obtain ⟨as, rd⟩ := L2.Dp.readsAll I _ _ _ ((DpAll.mono g.le ra).toL c2) rv
      have hun := hr.un
      refine PySem.W.max_list_data (I.ok.hd hc) pl.isList rd (alikeB_all c1) (by omega) fun i v h' tk bs hv hb kp => ?_
      obtain ⟨p, hp, rp⟩ : ∃ p, l[i]? = some p ∧ RelV p v := vals_back rv (by simpa using hv)
      obtain ⟨d', hd1, hd2⟩ := ra.at hp
      have I' : Inv X pins σ0 H { s with heap := h', toks := tk } := I.kept (t' := tk) kp
      obtain ⟨as', rd'⟩ := L2.Dp.reads I' d' p v ((Dp.mono g.le hd2).toL (lay_at c2 hd1)) rp
      have e2 := PySem.SeqAt.Reads.unique d' _ v _ _ (lay_at c2 hd1) rd' hb
      subst e
      rw [← e2] at q
      exact ⟨p, H, I', rp, q p F H g Fw.refl hd2⟩
    · cases e⟩
def dMinL : D → Option D
  | .list (x :: xs) => if alikeB (x :: xs) = true ∧ PyData.canLayAll0 (x :: xs) = true ∧ PyData.depthAll (x :: xs) ≤ 64 then some (PySem.W.minD x xs) else none
  | _ => none
def bMinL : B1 "min" where
  f := dMinL
  snd := .inl ⟨"min", by decide +kernel, fun X hc hr pins s σ0 H xs us Q I r h => by
    obtain ⟨F, σ, ρ, x, dx, d, rfl, g, px, e, q⟩ := h
    unfold dMinL at e
    split at e
    · rename_i y ys
      obtain ⟨⟨c1, c2, c3⟩, e⟩ := ite_some e
      obtain ⟨a, l, rfl, qa, ra⟩ := px.lstOf
      obtain ⟨w, rfl, rw'⟩ := vals1 r
      cases rw'
      obtain ⟨its, rv, pl, z⟩ := I.list (.inl (Rd.up qa g.le))
      obtain ⟨as, rd⟩ := L2.Dp.readsAll I _ _ _ ((DpAll.mono g.le ra).toL c2) rv
      have hun := hr.un
      refine PySem.W.min_list_data (I.ok.hd hc) pl.isList rd (alikeB_all c1) (by omega) fun i v h' tk bs hv hb kp => ?_
      obtain ⟨p, hp, rp⟩ : ∃ p, l[i]? = some p ∧ RelV p v := vals_back rv (by simpa using hv)
      obtain ⟨d', hd1, hd2⟩ := ra.at hp
      have I' : Inv X pins σ0 H { s with heap := h', toks := tk } := I.kept (t' := tk) kp
      obtain ⟨as', rd'⟩ := L2.Dp.reads I' d' p v ((Dp.mono g.le hd2).toL (lay_at c2 hd1)) rp
      have e2 := PySem.SeqAt.Reads.unique d' _ v _ _ (lay_at c2 hd1) rd' hb
      subst e
      rw [← e2] at q
      exact ⟨p, H, I', rp, q p F H g Fw.refl hd2⟩
    · cases e⟩
end FL
end L2

/-! FL14: a, b = x, y -/
namespace L2
namespace FL
open PySem PySem.Spec PyProof.Rows
def starB : Expr → Bool
  | .Starred .. => true
  | _ => false
theorem sw_two {x y : Str} {a b : Expr} {px py pt pt2 : Pos} {kt k2 : Nat} {env : Env} (hk : env.scope.kind = .function) (hx : env.scope.names.lookup x = some .local) (hy : env.scope.names.lookup y = some .local)
    (hl : (py.line == px.line) = true) (hd : ([x, y].eraseDups.length == 2) = true) (ha : starB a = false) (hb : starB b = false) (hf : [a, b].all (foldedForSure 8) = false) (hc : [a, b].all (constantsAlone 8) = false) :
    swappedStores [.Tuple [.Name x px, .Name y py] kt pt] (.Tuple [a, b] k2 pt2) env = pure (some [x, y]) := by
  have k1 : env.kindOf x = some .local := hx
  have k2 : env.kindOf y = some .local := hy
  have bk : env.blockKind = .function := by
    unfold Env.blockKind
    rw [hk]
    rfl
  unfold swappedStores
  have hl' : py.line = px.line := by simpa using hl
  have e1 : (Expr.Name x px).pos = px := rfl
  have hd' : [x, y].eraseDups.length = 2 := by simpa using hd
  simp only [k1, k2, bk, hf, hc, List.filterMap_cons, List.filterMap_nil, List.head?_cons, Option.map_some, Option.getD_some, e1, hl', hd', beq_self_eq_true, Bool.and_self, if_true, List.length_cons, List.length_nil]
  rw [if_neg (by decide), if_neg (fun h => ?_)]
  · rfl
  · obtain ⟨e, he, h2⟩ := List.any_eq_true.mp h
    clear h
    simp only [List.mem_cons, List.not_mem_nil, or_false] at he
    rcases he with rfl | rfl
    · cases e <;> first | (cases ha; done) | (cases h2; done)
    · cases e <;> first | (cases hb; done) | (cases h2; done)
theorem sw_fold {ts vs : List Expr} {k k2 : Nat} {p p2 : Pos} {env : Env} (h : vs.all (foldedForSure 8) = true) : swappedStores [.Tuple ts k p] (.Tuple vs k2 p2) env = pure none := by
  unfold swappedStores
  simp only [h, if_true]
  repeat (first | rfl | split)
variable {nm : Nm}
/-- a, b = x, y with plain local names -/
def semPar (i j : Nat) (ea eb : En → Option (D × En)) : En → Option Fl := fun ρ => bnd (ea ρ) fun x ρ1 => bnd (eb ρ1) fun y ρ2 => some (.nx ((ρ2.set i (.val x)).set j (.val y)))
def isLoc (nm : Nm) (x : Str) : Bool := nm.sc.names.lookup x == some .local
def isFn (nm : Nm) : Bool := match nm.sc.kind with
  | .function => true
  | _ => false
def sPar (i j : Nat) (x y : Str) (a b : CE nm) (px py pt pt2 : Pos) (k1 k2 : Nat) (pos : Pos) (hN : nm.N[i]? = some x) (hM : nm.N[j]? = some y) (hij : (i == j) = false) (hx : isLoc nm x = true) (hy : isLoc nm y = true) (hk : isFn nm = true)
    (hl : (py.line == px.line) = true) (hd : ([x, y].eraseDups.length == 2) = true) (ha : starB a.syn = false) (hb : starB b.syn = false) (hf : [a.syn, b.syn].all (foldedForSure 8) = false) (hc : [a.syn, b.syn].all (constantsAlone 8) = false)
    (hi : nm.IO.contains i = false) (hj : nm.IO.contains j = false) : CS nm where
  syn := .Assign [.Tuple [.Name x px, .Name y py] k1 pt] (.Tuple [a.syn, b.syn] k2 pt2) pos
  sem := semPar i j a.sem b.sem
  snd := fun X G => by
    have lx : X.env.scope.names.lookup x = some .local := by rw [G.sc]; exact eq_of_beq hx
    have ly : X.env.scope.names.lookup y = some .local := by rw [G.sc]; exact eq_of_beq hy
    have lk : X.env.scope.kind = .function := by
      rw [G.sc]
      unfold isFn at hk
      split at hk
      · assumption
      · cases hk
    refine PS.imp (ps_par (i := i) (j := j) G.calm (by rw [G.N]; exact G.nd) (by rw [G.N]; exact hN) (by rw [G.N]; exact hM) (by simpa using hij) lx ly (pa_cons (a.snd X G) (pa_cons (b.snd X G) pa_nil (Pl.star b.pl _ _)) (Pl.star a.pl _ _)) (sw_two lk lx ly hl hd ha hb hf hc)) fun D σ H h => ?_
    obtain ⟨F, ρ, g, fl, e0, p⟩ := h
    obtain ⟨d1, ρ1, e1, e0⟩ := bnd_some e0
    obtain ⟨d2, ρ2, e2, e0⟩ := bnd_some e0
    cases e0
    refine ⟨F, ρ, g, d1, ρ1, e1, fun v1 F1 H1 g1 f1 r1 => ⟨F1, ρ1, g1, d2, ρ2, e2, fun v2 F2 H2 g2 f2 r2 => ?_⟩⟩
    refine ⟨v1, v2, rfl, ?_⟩
    obtain ⟨g3, f3⟩ := g2.setVal (Dp.mono f2.leF r1) i
    obtain ⟨g4, f4⟩ := g3.setVal r2 j
    refine p _ F2 H2 g4 (f1.trans (f2.trans (f3.trans f4))) ?_
    exact Io.trans (Io.set fun z => by rw [List.contains_iff_mem.mpr z] at hi; cases hi) (Io.set fun z => by rw [List.contains_iff_mem.mpr z] at hj; cases hj)
end FL
end L2

/-! FL15: dicts: get, cells -/
namespace L2
namespace FL
open PySem PySem.Spec PyProof.Rows
theorem ite_sm {α : Type} {c : Prop} [Decidable c] {o : Option α} {b : α} (h : (if c then o else none) = some b) : c ∧ o = some b := by
  by_cases hc : c
  · rw [if_pos hc] at h; exact ⟨hc, h⟩
  · rw [if_neg hc] at h; cases h
/-! ### d.get(k), d.get(k, x) of a dict as data -/
def dGet (d y z : D) : Option D := match d with
  | .dict kvs => match keyOf y with
    | some k => if okK kvs = true then some ((lookK kvs k).getD z) else none
    | none => none
  | _ => none
def isDict : D → Bool
  | .dict kvs => okK kvs
  | _ => false
theorem isDict_of {d : D} (h : isDict d = true) : ∃ kvs, d = .dict kvs ∧ okK kvs = true := by
  unfold isDict at h
  split at h
  · exact ⟨_, rfl, h⟩
  · cases h
def semGet2 (a k x : En → Option (D × En)) : En → Option (D × En) := fun ρ => bnd (a ρ) fun d ρ1 => if isDict d = true then bnd (k ρ1) fun y ρ2 => bnd (x ρ2) fun z ρ3 => (dGet d y z).map fun r => (r, ρ3) else none
def semGet1 (a k : En → Option (D × En)) : En → Option (D × En) := fun ρ => bnd (a ρ) fun d ρ1 => if isDict d = true then bnd (k ρ1) fun y ρ2 => (dGet d y .none).map fun r => (r, ρ2) else none
theorem trees1 {cpos : Pos} {env : Env} {e : Expr} (h : Pl e = true) : backTo cpos (starEach [e] env) = [(false, eval e env)] := by
  rw [Pl.star h]
  rfl
theorem trees2 {cpos : Pos} {env : Env} {e e' : Expr} (h : Pl e = true) (h' : Pl e' = true) : backTo cpos (starEach [e, e'] env) = [(false, eval e env), (false, eval e' env)] := by
  rw [Pl.star h, Pl.star h']
  rfl
section
variable {K : KW} {F H : Hp} {σ : St} {ρ : En}
/-- what a dict as data holds at a key -/
theorem dget_dp {d y z : D} {r : D} {a : Addr} {es : List (Key × V)} {kvs : List (D × D)} {w v : V} (e : dGet (.dict kvs) y z = some r) (ra : DkR K F es kvs) (qa : Rd H a (.dK es)) (py : Dp K F w y) (pz : Dp K F v z) : ∃ o, DGet H a w o ∧ Dp K F (o.getD v) r := by
  unfold dGet at e
  dsimp only at e
  split at e
  · rename_i k hk
    obtain ⟨_, e⟩ := ite_some e
    cases e
    obtain rfl := kV_dp py hk
    refine ⟨valV es k, .inl ⟨es, k, qa, rfl, rfl⟩, ?_⟩
    rcases DkR.look k ra with ⟨h1, h2⟩ | ⟨v', d', h1, h2, h3⟩
    · rw [h1, h2]; exact pz
    · rw [h1, h2]; exact h3
  · cases e
end
section
variable {nm : Nm}
def eGet2 (a k x : CE nm) (apos cpos : Pos) (hp : (apos.endLine == cpos.line) = true) (hb : ∀ env : Env, attributeBase a.syn "get" env (eval a.syn env) = eval a.syn env := by intros; rfl) : CE nm where
  syn := .Call (.Attribute a.syn "get" apos) [k.syn, x.syn] [] cpos
  sem := semGet2 a.sem k.sem x.sem
  pl := rfl
  snd := fun X G => PE.imp (pe_dget2 (by have := G.u65; omega) (a.snd X G) (k.snd X G) (x.snd X G) ⟨hb X.env, few2 k.pl x.pl, hp, trees2 k.pl x.pl⟩) fun σ H Q h => by
    obtain ⟨F, ρ, g, r, ρ', e0, q⟩ := h
    obtain ⟨d, ρ1, e1, e0⟩ := bnd_some e0
    obtain ⟨hd, e0⟩ := ite_sm e0
    obtain ⟨y, ρ2, e2, e0⟩ := bnd_some e0
    obtain ⟨z, ρ3, e3, e0⟩ := bnd_some e0
    obtain ⟨r', e4, e5⟩ := Option.map_eq_some_iff.mp e0
    cases e5
    obtain ⟨kvs, rfl, ok⟩ := isDict_of hd
    refine ⟨F, ρ, g, _, ρ1, e1, fun v1 F1 H1 g1 f1 d1 => ?_⟩
    obtain ⟨a', es, rfl, qa, ra⟩ := d1.dictOf ok
    refine ⟨a', rfl, .inl ⟨es, Rd.up qa g1.le⟩, F1, ρ1, g1, y, ρ2, e2, fun v2 F2 H2 g2 f2 d2 => ⟨F2, ρ2, g2, z, _, e3, fun v3 F3 H3 g3 f3 d3 => ?_⟩⟩
    have s := f2.leF.trans f3.leF
    obtain ⟨o, h1, h2⟩ := dget_dp (d := .none) e4 (DkR.mono s ra) (Rd.up (Rd.up qa s) g3.le) (Dp.mono f3.leF d2) d3
    exact ⟨o, h1, q _ F3 H3 g3 (f1.trans (f2.trans f3)) h2⟩
def eGet1 (a k : CE nm) (apos cpos : Pos) (hp : (apos.endLine == cpos.line) = true) (hb : ∀ env : Env, attributeBase a.syn "get" env (eval a.syn env) = eval a.syn env := by intros; rfl) : CE nm where
  syn := .Call (.Attribute a.syn "get" apos) [k.syn] [] cpos
  sem := semGet1 a.sem k.sem
  pl := rfl
  snd := fun X G => PE.imp (pe_dget1 (by have := G.u65; omega) (a.snd X G) (k.snd X G) ⟨hb X.env, few1 k.pl, hp, trees1 k.pl⟩) fun σ H Q h => by
    obtain ⟨F, ρ, g, r, ρ', e0, q⟩ := h
    obtain ⟨d, ρ1, e1, e0⟩ := bnd_some e0
    obtain ⟨hd, e0⟩ := ite_sm e0
    obtain ⟨y, ρ2, e2, e0⟩ := bnd_some e0
    obtain ⟨r', e4, e5⟩ := Option.map_eq_some_iff.mp e0
    cases e5
    obtain ⟨kvs, rfl, ok⟩ := isDict_of hd
    refine ⟨F, ρ, g, _, ρ1, e1, fun v1 F1 H1 g1 f1 d1 => ?_⟩
    obtain ⟨a', es, rfl, qa, ra⟩ := d1.dictOf ok
    refine ⟨a', rfl, .inl ⟨es, Rd.up qa g1.le⟩, F1, ρ1, g1, y, _, e2, fun v2 F2 H2 g2 f2 d2 => ?_⟩
    obtain ⟨o, h1, h2⟩ := dget_dp (d := .none) e4 (DkR.mono f2.leF ra) (Rd.up (Rd.up qa f2.leF) g2.le) d2 .non
    exact ⟨o, h1, q _ F2 H2 g2 (f1.trans f2) h2⟩
end
/-! ### a new dict, nobody's yet -/
def tM (K : KW) (sem : En → Option (D × En)) : TE := fun σ H Q => ∃ F ρ, Gs K F H σ ρ ∧ ∃ d ρ', sem ρ = some (d, ρ') ∧
  ∀ a F' H', Gs K F' H' σ ρ' → Fw F H σ ρ F' H' σ ρ' → H a = none → ¬ Owns σ ρ' a → F' a = none → Cel K F' H' a d → Q (.ref a) H'
structure CM (nm : Nm) where
  syn : Expr
  sem : En → Option (D × En)
  pl : Pl syn = true
  snd : ∀ X, Gd nm X → PE X syn (tM (kw X) sem)
section
variable {nm : Nm}
/-- .. as a value -/
def eFrzM (n : CM nm) : CE nm where
  syn := n.syn
  sem := n.sem
  pl := n.pl
  snd := fun X G => PE.imp (n.snd X G) fun σ H Q h => by
    obtain ⟨F, ρ, g, d, ρ', e, q⟩ := h
    refine ⟨F, ρ, g, d, ρ', e, fun a F1 H1 g1 f1 h0 no hf c => ?_⟩
    obtain ⟨o, hH⟩ := Option.ne_none_iff_exists'.mp c.there
    have g2 := g1.freeze hH hf no
    have s : Same F1 (upd F1 a o) := Same.upd_new hf
    refine q _ (upd F1 a o) H1 g2 ⟨f1.leF.trans s, fun b n nb => ?_, f1.own, f1.th⟩ (c.dp hH hf)
    obtain ⟨k1, k2⟩ := f1.keep b n nb
    exact ⟨k1, (upd_ne (fun z => n (by rw [z]; exact h0))).trans k2⟩
def semAsgM (i : Nat) (e : En → Option (D × En)) : En → Option Fl := fun ρ => bnd (e ρ) fun d ρ1 => some (.nx (ρ1.set i (.own d)))
def sAsgM (i : Nat) (x : Str) (e : CM nm) (xpos pos : Pos) (hN : nm.N[i]? = some x) (hl : locB nm x = true) (hio : nm.IO.contains i = false) (hs : Nc e.syn = true) : CS nm where
  syn := .Assign [.Name x xpos] e.syn pos
  sem := semAsgM i e.sem
  snd := fun X G => PS.imp (ps_set (i := i) (by rw [G.N]; exact G.nd) (by rw [G.N]; exact hN) (by rw [G.sc]; exact loc_of hl) (e.snd X G) (Nc.swaps hs _ _ _) (G.hf hl)) fun D σ H h => by
    obtain ⟨F, ρ, g, fl, e0, p⟩ := h
    obtain ⟨d, ρ1, e1, e0⟩ := bnd_some e0
    cases e0
    refine ⟨F, ρ, g, d, ρ1, e1, fun a F1 H1 g1 f1 h0 no hf c => ?_⟩
    obtain ⟨g2, f2⟩ := g1.setOwn (d := d) c hf no i f1 h0
    exact p _ F1 H1 g2 f2 (Io.set fun z => by rw [List.contains_iff_mem.mpr z] at hio; cases hio)
end
section
variable {K : KW} {F H : Hp} {σ : St} {ρ : En} {p : Addr}
theorem Gs.newD {es : List (Key × V)} {kvs : List (D × D)} (g : Gs K F H σ ρ) (hp : H p = none) (z : es.length ≤ sizeLine) (r : DkR K F es kvs) :
    Gs K F (upd H p (.dK es)) σ ρ ∧ Fw F H σ ρ F (upd H p (.dK es)) σ ρ ∧ ¬ Owns σ ρ p ∧ F p = none ∧ Cel K F (upd H p (.dK es)) p (.dict kvs) := by
  obtain ⟨g2, f2⟩ := g.alloc (o := .dK es) hp z
  exact ⟨g2, f2, fun w => (g.ownThere w).1 hp, g.Fnone hp, .inl ⟨es, upd_same, r⟩⟩
/-- a tracked object of nobody's is changed -/
theorem Gs.poke {o : HO} (g : Gs K F H σ ρ) (hf : F p = none) (no : ¬ Owns σ ρ p) (z : szO o) : Gs K F (upd H p o) σ ρ := by
  refine ⟨g.len, fun b u e => ?_, fun b u e => ?_, g.val, fun i d e => ?_, g.inj⟩
  · have hb : b ≠ p := fun z => by rw [z, hf] at e; cases e
    rw [upd_ne hb]
    exact g.le b u e
  · by_cases hb : b = p
    · subst hb; rw [upd_same] at e; cases e; exact z
    · rw [upd_ne hb] at e; exact g.sz b u e
  · obtain ⟨b, q1, q2, c⟩ := g.own i d e
    have hb : b ≠ p := fun z => no (z ▸ ⟨i, d, e, q1⟩)
    exact ⟨b, q1, q2, c.mono (Same.refl _) (upd_ne hb)⟩
/-- dict(x), new -/
def rM1 (K : KW) (f : D → Option D) : List V → Hp → VK → Prop := fun xs H Q => ∃ F σ ρ x dx d, xs = [x] ∧ Gs K F H σ ρ ∧ Dp K F x dx ∧ f dx = some d ∧
  ∀ a F' H', Gs K F' H' σ ρ → Fw F H σ ρ F' H' σ ρ → H a = none → ¬ Owns σ ρ a → F' a = none → Cel K F' H' a d → Q (.ref a) H'
theorem call_dictM {X : Cx} (hc : X.calm = true) : CallR X (.type "dict") (rM1 (kw X) dDict) := by
  intro pins s σ0 H xs us Q I r h
  obtain ⟨F, σ, ρ, x, dx, d, rfl, g, px, e, q⟩ := h
  unfold dDict at e
  split at e
  · obtain ⟨ps, e1, rfl⟩ := Option.map_eq_some_iff.mp e
    obtain ⟨a, l, rfl, qa, ra⟩ := px.lstOf
    obtain ⟨as, kvs, rfl, b1, b2⟩ := pairs_dp g.le ra e1
    refine call_dictP hc pins s σ0 H _ us Q I r ⟨a, as, kvs, rfl, .inl (Rd.up qa g.le), b1, fun p hp => ?_⟩
    have z : (mergeK [] kvs).length ≤ sizeLine := by
      have h1 := length_mergeK kvs []
      have h2 := g.szL qa
      have h3 := b1.length
      simp only [List.length_nil, List.length_map] at h1 h2
      omega
    obtain ⟨g1, f1, no, hf, c⟩ := g.newD hp z (b2.merge .nil)
    exact q _ _ _ g1 f1 hp no hf c
  · obtain ⟨ps, e1, rfl⟩ := Option.map_eq_some_iff.mp e
    cases px with
    | tup tp ra =>
      have h1 := tp.2 (pairs_kOk e1)
      obtain ⟨as, kvs, rfl, b1, b2⟩ := pairs_dp g.le ra e1
      refine call_dictT hc pins s σ0 H _ us Q I r ⟨_, as, kvs, rfl, h1.imp (fun ⟨o, h1, h2⟩ => ⟨o, g.le _ _ h1, h2⟩) id, b1, fun p hp => ?_⟩
      have z : (mergeK [] kvs).length ≤ sizeLine := by
        have h1 := length_mergeK kvs []
        have h2 := g.szT (tp.sq)
        have h3 := b1.length
        simp only [List.length_nil, List.length_map] at h1 h2
        omega
      obtain ⟨g1, f1, no, hf, c⟩ := g.newD hp z (b2.merge .nil)
      exact q _ _ _ g1 f1 hp no hf c
  · obtain ⟨hok, e⟩ := ite_some e
    cases e
    obtain ⟨a, es, rfl, qa, ra⟩ := px.dictOf hok
    refine call_dictD pins s σ0 H _ us Q I r ⟨a, es, rfl, Rd.up qa g.le, fun p hp => ?_⟩
    obtain ⟨g1, f1, no, hf, c⟩ := g.newD hp (g.szK qa) ra
    exact q _ _ _ g1 f1 hp no hf c
  · cases e
theorem tM_un {f : D → Option D} {ea : En → Option (D × En)} {Q : VK} (h : tM K (semUn f ea) σ H Q) : tE K ea σ H fun x H1 => rM1 K f [x] H1 Q := by
  obtain ⟨F, ρ, g, d, ρ', e, q⟩ := h
  obtain ⟨x, ρ1, e1, e⟩ := bnd_some e
  obtain ⟨z, e2, e3⟩ := Option.map_eq_some_iff.mp e
  cases e3
  refine ⟨F, ρ, g, x, ρ', e1, fun v1 F1 H1 g1 f1 d1 => ⟨F1, σ, ρ', v1, x, d, rfl, g1, d1, e2, fun a F' H' g2 f2 h0 no hf c => ?_⟩⟩
  exact q a F' H' g2 (f1.trans f2) (f1.th a h0) no hf c
end
section
variable {nm : Nm}
def mDict (a : CE nm) (fpos pos : Pos) (hg : nm.sc.names.lookup ("dict" : Str) = some .globalImplicit) : CM nm where
  syn := .Call (.Name "dict" fpos) [a.syn] [] pos
  sem := semUn dDict a.sem
  pl := rfl
  snd := fun X G => by
    have hg' : Gl X "dict" := by show X.env.scope.names.lookup ("dict" : Str) = _; rw [G.sc]; exact hg
    refine PE.imp (pe_callTy (call_dictM G.calm) hg' (G.blt "dict" (List.mem_of_getElem? (i := 6) rfl)) (by decide +kernel) (pa_cons (a.snd X G) pa_nil (Pl.star a.pl _ _)) (by decide +kernel) (by rfl) (Pl.star a.pl _ _)) fun σ H Q h => ?_
    exact tM_un h
def semEmptyD : En → Option (D × En) := fun ρ => some (.dict [], ρ)
def mEmpty (pos : Pos) : CM nm where
  syn := .Dict [] [] pos
  sem := semEmptyD
  pl := rfl
  snd := fun X G => PE.imp pe_dnewK fun σ H Q h => by
    obtain ⟨F, ρ, g, d, ρ', e, q⟩ := h
    cases e
    intro p hp
    obtain ⟨g1, f1, no, hf, c⟩ := g.newD hp (Nat.zero_le _) .nil
    exact q _ _ _ g1 f1 hp no hf c
/-! displays -/
def tPs (K : KW) (sem : En → Option (List (Key × D) × En)) (σ : St) (H : Hp) (Q : List (V × V) → Hp → Prop) : Prop := ∃ F ρ, Gs K F H σ ρ ∧ ∃ ps ρ', sem ρ = some (ps, ρ') ∧
  ∀ kvs F' H', Gs K F' H' σ ρ' → Fw F H σ ρ F' H' σ ρ' → PrR K F' kvs ps → Q (kvs.map fun kv => (kV kv.1, kv.2)) H'
theorem PrR.mono {K : KW} {F F' : Hp} (hs : Same F F') : ∀ {es : List (Key × V)} {ps : List (Key × D)}, PrR K F es ps → PrR K F' es ps
  | _, _, .nil => .nil
  | _, _, .cons q r => .cons (Dp.mono hs q) (PrR.mono hs r)
structure CPs (nm : Nm) where
  ks : List (Option Expr)
  vs : List Expr
  sem : En → Option (List (Key × D) × En)
  all : ks.all (·.isSome) = true
  len : ks.length = vs.length
  snd : ∀ X, Gd nm X → ∀ pos, ∃ trs, PPs X pos ks vs trs ∧ ∀ σ H Q, tPs (kw X) sem σ H Q → tPairs trs σ H Q
def semPNil : En → Option (List (Key × D) × En) := fun ρ => some ([], ρ)
def semPCons (k v : En → Option (D × En)) (r : En → Option (List (Key × D) × En)) : En → Option (List (Key × D) × En) := fun ρ => bnd (k ρ) fun y ρ1 => bnd (v ρ1) fun d ρ2 => bnd (r ρ2) fun ps ρ3 => (keyOf y).map fun c => ((c, d) :: ps, ρ3)
def psNil : CPs nm where
  ks := []
  vs := []
  sem := semPNil
  all := rfl
  len := rfl
  snd := fun X G pos => ⟨[], pps_nil, fun σ H Q h => by
    obtain ⟨F, ρ, g, ps, ρ', e, q⟩ := h
    cases e
    exact q [] F H g Fw.refl .nil⟩
def psCons (k v : CE nm) (r : CPs nm) : CPs nm where
  ks := some k.syn :: r.ks
  vs := v.syn :: r.vs
  sem := semPCons k.sem v.sem r.sem
  all := by rw [List.all_cons, r.all]; rfl
  len := by rw [List.length_cons, List.length_cons, r.len]
  snd := fun X G pos => by
    obtain ⟨trs, h1, h2⟩ := r.snd X G pos
    refine ⟨_, pps_cons (k.snd X G) (v.snd X G) h1, fun σ H Q h => ?_⟩
    obtain ⟨F, ρ, g, ps, ρ', e0, q⟩ := h
    obtain ⟨y, ρ1, e1, e0⟩ := bnd_some e0
    obtain ⟨d, ρ2, e2, e0⟩ := bnd_some e0
    obtain ⟨ps', ρ3, e3, e0⟩ := bnd_some e0
    obtain ⟨c, e4, e5⟩ := Option.map_eq_some_iff.mp e0
    cases e5
    refine ⟨F, ρ, g, y, ρ1, e1, fun v1 F1 H1 g1 f1 d1 => ⟨F1, ρ1, g1, d, ρ2, e2, fun v2 F2 H2 g2 f2 d2 => h2 _ _ _ ⟨F2, ρ2, g2, ps', _, e3, fun kvs F3 H3 g3 f3 r3 => ?_⟩⟩⟩
    obtain rfl := kV_dp d1 e4
    exact q ((c, v2) :: kvs) F3 H3 g3 (f1.trans (f2.trans f3)) (.cons (Dp.mono f3.leF d2) r3)
def semDisp (r : En → Option (List (Key × D) × En)) : En → Option (D × En) := fun ρ => bnd (r ρ) fun ps ρ1 => if ps.length ≤ 15 then some (.dict (mergeD [] ps), ρ1) else none
def mDisp (r : CPs nm) (pos : Pos) (h0 : r.ks ≠ []) (h15 : r.ks.length ≤ 15) : CM nm where
  syn := .Dict r.ks r.vs pos
  sem := semDisp r.sem
  pl := rfl
  snd := fun X G => by
    obtain ⟨trs, h1, h2⟩ := r.snd X G pos
    refine PE.imp (pe_disp h1 r.all r.len h0 h15) fun σ H Q h p hp => h2 _ _ _ ?_
    obtain ⟨F, ρ, g, d, ρ', e0, q⟩ := h
    obtain ⟨ps, ρ1, e1, e0⟩ := bnd_some e0
    obtain ⟨hl, e0⟩ := ite_sm e0
    cases e0
    obtain ⟨g1, f1⟩ := g.alloc (o := .dK []) hp (Nat.zero_le _)
    have no : ¬ Owns σ ρ p := fun w => (g.ownThere w).1 hp
    refine ⟨F, ρ, g1, ps, ρ', e1, fun kvs F2 H2 g2 f2 r2 => ?_⟩
    obtain ⟨k1, k2⟩ := f2.keep p (by rw [upd_same]; exact fun z => nomatch z) no
    rw [upd_same] at k1
    have hf : F2 p = none := k2.trans (g.Fnone hp)
    have f3 := f1.trans f2
    have no' : ¬ Owns σ ρ' p := fun w => by
      rcases f2.own p w with z | z
      · exact no z
      · rw [upd_same] at z; cases z
    have z : (mergeK [] kvs).length ≤ sizeLine := by
      have h1 := length_mergeK kvs []
      have h2 := r2.len
      have h3 : (15 : Nat) ≤ sizeLine := by decide
      simp only [List.length_nil] at h1
      omega
    refine ⟨k1, kvs, rfl, by rw [r2.len]; exact hl, ?_⟩
    have g3 := g2.poke (o := .dK (mergeK [] kvs)) hf no' z
    refine q p F2 _ g3 ⟨f3.leF, fun b n nb => ?_, f3.own, fun b n => ?_⟩ hp no' hf (.inl ⟨_, upd_same, r2.merge .nil⟩)
    · obtain ⟨w1, w2⟩ := f3.keep b n nb
      exact ⟨(upd_ne (fun z => n (by rw [z]; exact hp))).trans w1, w2⟩
    · by_cases hb : b = p
      · subst hb; rw [upd_same] at n; cases n
      · rw [upd_ne hb] at n; exact f3.th b n
/-! ### a dict of one's own: read, stored -/
def isOwnD : Option Sl → Bool
  | some (.own (.dict kvs)) => okK kvs
  | _ => false
theorem isOwnD_of {o : Option Sl} (h : isOwnD o = true) : ∃ kvs, o = some (.own (.dict kvs)) ∧ okK kvs = true := by
  unfold isOwnD at h
  split at h
  · exact ⟨_, rfl, h⟩
  · cases h
theorem Cel.dk {K : KW} {F H : Hp} {a : Addr} {kvs : List (D × D)} (c : Cel K F H a (.dict kvs)) (ok : okK kvs = true) : ∃ es, H a = some (.dK es) ∧ DkR K F es kvs := by
  rcases c with ⟨es, q, r⟩ | ⟨es, k, e0, q, r⟩
  · exact ⟨es, q, r⟩
  · subst e0; cases ok
/-- x[k] -/
def semODIdx (i : Nat) (e : En → Option (D × En)) : En → Option (D × En) := fun ρ => if isOwn ρ[i]? = true then bnd (e ρ) fun y ρ1 => match ρ1[i]?, keyOf y with
  | some (.own (.dict kvs)), some k => if okK kvs = true then (lookK kvs k).map fun d => (d, ρ1) else none
  | _, _ => none
  else none
def oDIdx (i : Nat) (x : Str) (e : CE nm) (xpos pos : Pos) (hN : nm.N[i]? = some x) (hv : visB nm.sc x = true) (hd : (x == ("__debug__" : Str)) = false := by rfl) (hcd : (x == ("__classdict__" : Str)) = false := by rfl) : CE nm where
  syn := .Subscript (.Name x xpos) e.syn pos
  sem := semODIdx i e.sem
  pl := rfl
  snd := fun X G => PE.imp (pe_ix (ix_dict (by have := G.u65; omega)) (pe_var (i := i) (by rw [G.N]; exact hN) (by rw [G.sc]; exact vis_of hv) hd hcd) (e.snd X G) (Pl.plainIx e.pl)) fun σ H Q h => by
    obtain ⟨F, ρ, g, d, ρ', e0, q⟩ := h
    unfold semODIdx at e0
    obtain ⟨ho, e0⟩ := ite_sm e0
    obtain ⟨c, ho⟩ := isOwn_of ho
    obtain ⟨y, ρ1, e1, e0⟩ := bnd_some e0
    split at e0
    · rename_i kvs k hc hk
      obtain ⟨ok, e0⟩ := ite_sm e0
      obtain ⟨d', e2, e3⟩ := Option.map_eq_some_iff.mp e0
      cases e3
      obtain ⟨a, w1, _, _⟩ := g.own i c ho
      refine ⟨.ref a, w1, F, ρ, g, y, _, e1, fun v F1 H1 g1 f1 d1 => ?_⟩
      obtain ⟨a', w2, _, w3⟩ := g1.own i _ hc
      rw [w1] at w2; cases w2
      obtain ⟨es, w4, w5⟩ := w3.dk ok
      obtain rfl := kV_dp d1 hk
      rcases DkR.look k w5 with ⟨h1, h2⟩ | ⟨v', d'', h1, h2, h3⟩
      · rw [h2] at e2; cases e2
      · rw [h2] at e2; cases e2
        exact ⟨a, v', rfl, .inl ⟨es, k, .inl w4, rfl, h1.symm⟩, q v' F1 H1 g1 f1 h3⟩
    · cases e0
/-- x[k] = e -/
def semDPut (i : Nat) (k e : En → Option (D × En)) : En → Option Fl := fun ρ => bnd (e ρ) fun d ρ1 => if isOwn ρ1[i]? = true then bnd (k ρ1) fun y ρ2 => match ρ2[i]?, keyOf y with
    | some (.own (.dict kvs)), some c => if okK kvs = true ∧ kvs.length < sizeLine then some (.nx (ρ2.set i (.own (.dict (putD kvs c d))))) else none
    | _, _ => none
  else none
def sDPut (i : Nat) (x : Str) (k e : CE nm) (xpos tpos pos : Pos) (hN : nm.N[i]? = some x) (hv : visB nm.sc x = true) (hs : Nc e.syn = true) (hd : (x == ("__debug__" : Str)) = false := by rfl) (hcd : (x == ("__classdict__" : Str)) = false := by rfl) : CS nm where
  syn := .Assign [.Subscript (.Name x xpos) k.syn tpos] e.syn pos
  sem := semDPut i k.sem e.sem
  snd := fun X G => PS.imp (ps_dput (by have := G.u65; omega) (pe_var (i := i) (by rw [G.N]; exact hN) (by rw [G.sc]; exact vis_of hv) hd hcd) (k.snd X G) (e.snd X G) (Nc.swaps hs _ _ _)) fun D σ H h => by
    obtain ⟨F, ρ, g, fl, e0, p⟩ := h
    obtain ⟨d, ρ1, e1, e0⟩ := bnd_some e0
    refine ⟨F, ρ, g, d, ρ1, e1, fun v F1 H1 g1 f1 d1 => ?_⟩
    obtain ⟨ho, e0⟩ := ite_sm e0
    obtain ⟨c, ho⟩ := isOwn_of ho
    obtain ⟨y, ρ2, e2, e0⟩ := bnd_some e0
    obtain ⟨a, w1, _, _⟩ := g1.own i c ho
    refine ⟨.ref a, w1, F1, ρ1, g1, y, ρ2, e2, fun w F2 H2 g2 f2 d2 => ?_⟩
    split at e0
    · rename_i kvs k' hc hk
      obtain ⟨⟨ok, hl⟩, e0⟩ := ite_sm e0
      cases e0
      obtain ⟨a', w2, _, w3⟩ := g2.own i _ hc
      rw [w1] at w2; cases w2
      obtain ⟨es, w4, w5⟩ := w3.dk ok
      obtain rfl := kV_dp d2 hk
      have hle := w5.length
      have z : (putK es k' v).length ≤ sizeLine := by have := length_putK es k' v; omega
      obtain ⟨g3, f3⟩ := g2.setCell (o := .dK (putK es k' v)) (d := .dict (putD kvs k' d)) hc w1 z (.inl ⟨_, upd_same, DkR.put k' (Dp.mono f2.leF d1) w5⟩)
      exact ⟨a, _, rfl, .inl ⟨es, k', w4, rfl, by omega, rfl⟩, p σ F2 _ g3 (f1.trans (f2.trans f3)) Io.refl⟩
    · cases e0
/-- x[k] += e, ints -/
def semDAug (f : D → D → Option D) (i : Nat) (k e : En → Option (D × En)) : En → Option Fl := fun ρ => if isOwn ρ[i]? = true then bnd (k ρ) fun y ρ1 => match ρ1[i]?, keyOf y with
    | some (.own (.dict kvs)), some c => if okK kvs = true ∧ kvs.length < sizeLine then match lookK kvs c with
      | some d0 => bnd (e ρ1) fun d ρ2 => match ρ2[i]? with
        | some (.own (.dict kvs')) => if okK kvs' = true ∧ kvs'.length < sizeLine then (f d0 d).map fun z => .nx (ρ2.set i (.own (.dict (putD kvs' c z)))) else none
        | _ => none
      | none => none
      else none
    | _, _ => none
  else none
def fAddII : D → D → Option D
  | .int i, .int j => some (.int (i + j))
  | _, _ => none
theorem fAddII_of {a b z : D} (h : fAddII a b = some z) : ∃ i j, a = .int i ∧ b = .int j ∧ z = .int (i + j) := by
  unfold fAddII at h
  split at h
  · cases h; exact ⟨_, _, rfl, rfl, rfl⟩
  · cases h
def sDAugAdd (i : Nat) (x : Str) (k e : CE nm) (xpos tpos pos : Pos) (hN : nm.N[i]? = some x) (hv : visB nm.sc x = true) (hd : (x == ("__debug__" : Str)) = false := by rfl) (hcd : (x == ("__classdict__" : Str)) = false := by rfl)
    (ha : ∀ ov iv new, augStore k.syn ov iv new = (do holding [new, ov, iv] (setItem ov iv new); release [new, ov, iv] []; pure .next) := by intros; rfl) : CS nm where
  syn := .AugAssign (.Subscript (.Name x xpos) k.syn tpos) .Add e.syn pos
  sem := semDAug fAddII i k.sem e.sem
  snd := fun X G => PS.imp (ps_daug (by have := G.u65; omega) (pe_var (i := i) (by rw [G.N]; exact hN) (by rw [G.sc]; exact vis_of hv) hd hcd) (k.snd X G) (e.snd X G) in_add ha) fun D σ H h => by
    obtain ⟨F, ρ, g, fl, e0, p⟩ := h
    unfold semDAug at e0
    obtain ⟨ho, e0⟩ := ite_sm e0
    obtain ⟨c, ho⟩ := isOwn_of ho
    obtain ⟨y, ρ1, e1, e0⟩ := bnd_some e0
    obtain ⟨a, w1, _, _⟩ := g.own i c ho
    refine ⟨.ref a, w1, F, ρ, g, y, ρ1, e1, fun w F1 H1 g1 f1 d1 => ?_⟩
    split at e0
    · rename_i kvs k' hc hk
      obtain ⟨⟨ok, hl⟩, e0⟩ := ite_sm e0
      split at e0
      · rename_i d0 hd0
        obtain ⟨d, ρ2, e2, e0⟩ := bnd_some e0
        split at e0
        · rename_i kvs' hc'
          obtain ⟨⟨ok', hl'⟩, e0⟩ := ite_sm e0
          obtain ⟨z, e3, e4⟩ := Option.map_eq_some_iff.mp e0
          cases e4
          obtain ⟨a', w2, _, w3⟩ := g1.own i _ hc
          rw [w1] at w2; cases w2
          obtain ⟨es, w4, w5⟩ := w3.dk ok
          obtain rfl := kV_dp d1 hk
          rcases DkR.look k' w5 with ⟨h1, h2⟩ | ⟨v', d'', h1, h2, h3⟩
          · rw [h2] at hd0; cases hd0
          · rw [h2] at hd0; cases hd0
            refine ⟨a, v', rfl, .inl ⟨es, k', .inl w4, rfl, h1.symm⟩, F1, ρ1, g1, d, ρ2, e2, fun v2 F2 H2 g2 f2 d2 => ?_⟩
            obtain ⟨i1, i2, rfl, rfl, rfl⟩ := fAddII_of e3
            · cases h3
              cases d2
              obtain ⟨a', w2, _, w3'⟩ := g2.own i _ hc'
              rw [w1] at w2; cases w2
              obtain ⟨es', w4', w5'⟩ := w3'.dk ok'
              have hle := w5'.length
              have z : (putK es' k' (.int (i1 + i2))).length ≤ sizeLine := by have := length_putK es' k' (.int (i1 + i2)); omega
              obtain ⟨g3, f3⟩ := g2.setCell (o := .dK (putK es' k' (.int (i1 + i2)))) (d := .dict (putD kvs' k' (.int (i1 + i2)))) hc' w1 z (.inl ⟨_, upd_same, DkR.put k' (.int _) w5'⟩)
              exact ⟨i1, i2, rfl, rfl, _, .inl ⟨es', k', w4', rfl, by omega, rfl⟩, p σ F2 _ g3 (f1.trans (f2.trans f3)) Io.refl⟩
        · cases e0
      · cases e0
    · cases e0
end
end FL
end L2

/-! FL16: sorted(list of data) -/
namespace L2
namespace FL
open PySem PySem.Spec PyProof.Rows
def tupB : D → Bool
  | .tuple (_ :: _) => true
  | _ => false
def othB : D → Bool
  | .none => false
  | .tuple _ => false
  | _ => true
def sortB (ds : List D) : Bool := (ds.all fun x => ds.all fun y => PySem.W.alike x y) && (ds.all tupB || ds.all othB)
theorem sortB_all {ds : List D} (h : sortB ds = true) : PySem.W.AllAlike ds ∧ PySem.W.Sortable ds := by
  unfold sortB at h
  obtain ⟨h1, h2⟩ := Bool.and_eq_true_iff.mp h
  refine ⟨fun x hx y hy => List.all_eq_true.mp (List.all_eq_true.mp h1 x hx) y hy, ?_⟩
  rcases Bool.or_eq_true_iff.mp h2 with h | h
  · refine .inl fun d hd => ?_
    have := List.all_eq_true.mp h d hd
    unfold tupB at this
    split at this
    · exact ⟨_, _, rfl⟩
    · cases this
  · refine .inr fun d hd => ?_
    have := List.all_eq_true.mp h d hd
    constructor
    · rintro rfl; cases this
    · rintro xs rfl; cases this
section
variable {K : KW} {F : Hp}
theorem each_dp {R : Value → D → Prop} {ds : List D} {xs : List V} {us : List Value} (h : ∀ {x u d}, RelV x u → Dp K F x d → d ∈ ds → R u d) (r : DpAll K F xs ds) (v : Vals xs us) : PySem.W.EachIs R us ds := by
  induction ds generalizing xs us with
  | nil => cases r; cases v; exact .nil
  | cons d ds ih =>
    cases r with
    | cons r1 r2 =>
      cases v with
      | cons v1 v2 => exact .cons (h v1 r1 List.mem_cons_self) (ih (fun a b c => h a b (List.mem_cons_of_mem _ c)) r2 v2)
theorem dp_each : ∀ {us : List Value} {ds : List D}, PySem.W.EachIs (fun u d => ∃ x, RelV x u ∧ Dp K F x d) us ds → ∃ xs, Vals xs us ∧ DpAll K F xs ds
  | _, _, .nil => ⟨[], .nil, .nil⟩
  | _, _, .cons ⟨x, h1, h2⟩ t => by
    obtain ⟨xs, h3, h4⟩ := dp_each t
    exact ⟨x :: xs, .cons h1 h3, .cons h2 h4⟩
theorem lay_of : ∀ {ds : List D} {d : D}, PyData.canLayAll0 ds = true → d ∈ ds → d.canLay0 = true ∧ d.depth ≤ PyData.depthAll ds
  | x :: ds, d, h, hd => by
    have h' : (x.canLay0 && PyData.canLayAll0 ds) = true := by simpa [PyData.canLayAll0] using h
    rw [PyData.depthAll]
    rcases List.mem_cons.mp hd with rfl | hd
    · exact ⟨(Bool.and_eq_true_iff.mp h').1, Nat.le_max_left _ _⟩
    · obtain ⟨a, b⟩ := lay_of (Bool.and_eq_true_iff.mp h').2 hd
      exact ⟨a, Nat.le_trans b (Nat.le_max_right _ _)⟩
end
def sortD (ds : List D) : List D := ds.mergeSort (PySem.W.dataLe false id)
/-! texts in order -/
def leSt (a b : Str) : Bool := !decide (b.cps.toList < a.cps.toList)
def sortSt (l : List Str) : List Str := l.mergeSort leSt
theorem leSt_iff {a b : Str} : leSt a b = true ↔ a.cps.toList ≤ b.cps.toList := by
  unfold leSt
  rw [Bool.not_eq_true', decide_eq_false_iff_not]
  exact Iff.rfl
theorem leSt_trans (a b c : Str) (h1 : leSt a b = true) (h2 : leSt b c = true) : leSt a c = true := leSt_iff.mpr (List.le_trans (leSt_iff.mp h1) (leSt_iff.mp h2))
theorem leSt_total (a b : Str) : (leSt a b || leSt b a) = true := by
  rw [Bool.or_eq_true, leSt_iff, leSt_iff]
  exact List.le_total _ _
theorem leSt_antisymm {a b : Str} (h1 : leSt a b = true) (h2 : leSt b a = true) : a = b := PySem.W.str_of_cps (List.le_antisymm (leSt_iff.mp h1) (leSt_iff.mp h2))
theorem ltCps_dec : ∀ a b : List Nat, ltCps a b = decide (a < b)
  | [], [] => (decide_eq_false (List.not_lt_nil _)).symm
  | [], b :: t => (decide_eq_true (List.nil_lt_cons _ _)).symm
  | a :: r, [] => (decide_eq_false (List.not_lt_nil _)).symm
  | a :: r, b :: t => by
    show (decide (a < b) || (a == b && ltCps r t)) = _
    rw [ltCps_dec r t, Bool.eq_iff_iff, decide_eq_true_eq, List.cons_lt_cons_iff]
    simp
theorem rising_pw : ∀ (r : List Str) (p : Str), risingS p r = true → (p :: r).Pairwise fun a b => leSt a b = true
  | [], p, _ => List.pairwise_singleton _ _
  | x :: r, p, h => by
    have h' : (!ltCps x.cps.toList p.cps.toList && risingS x r) = true := h
    obtain ⟨h1, h2⟩ := Bool.and_eq_true_iff.mp h'
    have ih := rising_pw r x h2
    have hp : leSt p x = true := by
      unfold leSt
      rw [ltCps_dec] at h1
      exact h1
    refine List.pairwise_cons.mpr ⟨fun y hy => ?_, ih⟩
    rcases List.mem_cons.mp hy with rfl | hy
    · exact hp
    · exact leSt_trans _ _ _ hp ((List.pairwise_cons.mp ih).1 y hy)
theorem sortSt_of {ys ks : List Str} (hp : ys.Perm ks) (hs : sortedS ys = true) : ys = sortSt ks := by
  refine List.Perm.eq_of_pairwise (le := fun a b => leSt a b = true) (fun a b _ _ h1 h2 => leSt_antisymm h1 h2) ?_ (List.pairwise_mergeSort leSt_trans leSt_total ks) (hp.trans (List.mergeSort_perm _ _).symm)
  cases ys with
  | nil => exact .nil
  | cons x r => exact rising_pw r x hs
def strOf : D → Option Str
  | .str x => some x
  | _ => none
theorem keys_strs {K : KW} {F : Hp} : ∀ {es : List (Key × V)} {kvs : List (D × D)} {ks : List Str}, DkR K F es kvs → (kvs.map (·.1)).mapM strOf = some ks → es.map (·.1) = ks.map Sum.inr
  | _, _, ks, .nil, e => by
    have e : some [] = some ks := e
    cases e
    rfl
  | _, _, ks, .cons (k := k) (r' := r') q t, e => by
    rw [List.map_cons, List.mapM_cons] at e
    cases k with
    | inl i => cases e
    | inr x =>
      have e : ((r'.map (·.1)).mapM strOf).bind (fun r => some (x :: r)) = some ks := e
      obtain ⟨r, h1, h2⟩ := Option.bind_eq_some_iff.mp e
      cases h2
      rw [List.map_cons, List.map_cons, keys_strs t h1]
def dSorted : D → Option (List D)
  | .list ds => if sortB ds = true ∧ PyData.canLayAll0 ds = true ∧ PyData.depthAll ds ≤ 60 then some (sortD ds) else none
  | .dict kvs => if okK kvs = true then match (kvs.map (·.1)).mapM strOf with
    | some ks => if ks.length < 64 then some ((sortSt ks).map .str) else none
    | none => none
    else none
  | _ => none
theorem dps_strs {K : KW} {F : Hp} : ∀ l : List Str, DpAll K F (l.map V.str) (l.map fun x => (.str x : D))
  | [] => .nil
  | x :: l => .cons (.str x) (dps_strs l)
def bSortedN : BN1 "sorted" where
  f := dSorted
  snd := .inl ⟨"sorted", by decide +kernel, fun X hc hr pins s σ0 H xs us Q I r h => by
    obtain ⟨F, σ, ρ, x, dx, ds, rfl, g, px, e, q⟩ := h
    unfold dSorted at e
    split at e
    · rename_i ds0
      obtain ⟨⟨c1, c2, c3⟩, e⟩ := ite_sm e
      cases e
      obtain ⟨a, l, rfl, qa, ra⟩ := px.lstOf
      obtain ⟨w, rfl, rw'⟩ := vals1 r
      cases rw'
      obtain ⟨its, rv, pl, z⟩ := I.list (.inl (Rd.up qa g.le))
      obtain ⟨h1, h2⟩ := sortB_all c1
      have hun := hr.un
      have z2 : ds0.length ≤ sizeLine := by rw [← DpAll.length ra]; exact z
      refine PySem.W.sorted_data (β := D) (enc := id) (bs := ds0) (R := fun u d => ∃ x, RelV x u ∧ Dp (kw X) F x d) pl.isList (each_dp (fun a b _ => ⟨_, a, b⟩) ra rv)
        (each_dp (K := kw X) (F := F) (fun {x u d} a b c => L2.Dp.reads I d x u ((Dp.mono g.le b).toL (lay_of c2 c).1) a) ra rv) (by rw [List.map_id]; exact h1) (by rw [List.map_id]; exact h2) z2
        (fun d hd => by have := (lay_of c2 hd).2; show X.A.units + 2 + d.depth < cLine; omega) fun out hl he => ?_
      obtain ⟨ys, v2, r2⟩ := dp_each he
      obtain ⟨ep, he'⟩ := PyProof.Rows.sortedAll_at s.heap its out.toArray
      have hp : H (s.heap.objs.size + 1) = none := I.hok.fresh (Nat.le_succ _)
      have z3 : ys.length ≤ sizeLine := by rw [v2.length, hl]; exact z2
      obtain ⟨g1, f1, no, hf⟩ := g.newN hp z3 r2
      exact ⟨.ref _, _, I.laid (t' := s.toks) (o := .lst ys) (fun _ _ => PyProof.Rows.sortedAll_old) (Nat.le_succ _) ⟨z3, out, ep, v2, he'⟩, rfl, q _ _ _ _ g1 f1 hp no hf upd_same r2⟩
    · rename_i kvs
      obtain ⟨ok, e⟩ := ite_sm e
      split at e
      · rename_i ks hks
        obtain ⟨h64, e⟩ := ite_sm e
        cases e
        obtain ⟨a, es, rfl, qa, ra⟩ := px.dictOf ok
        refine call_sortedD hc pins s σ0 H _ us Q I r ⟨a, es, ks, rfl, Rd.up qa g.le, keys_strs ra hks, h64, fun ys p hp hs hn => ?_⟩
        have z : (ys.map V.str).length ≤ sizeLine := by
          have : (64 : Nat) ≤ sizeLine := by decide
          rw [List.length_map, hp.length_eq]
          omega
        rw [sortSt_of hp hs] at z ⊢
        obtain ⟨g1, f1, no, hf⟩ := g.newN hn z (dps_strs (K := kw X) (F := F) (sortSt ks))
        exact q _ _ _ _ g1 f1 hn no hf upd_same (dps_strs _)
      · cases e
    · cases e⟩
end FL
end L2

/-! FL17: D.get(k, x) of a written dict -/
namespace L2
namespace FL
open PySem PySem.Spec PyProof.Rows
def isStrD : D → Bool
  | .str _ => true
  | _ => false
def semGetG (d : D) (k x : En → Option (D × En)) : En → Option (D × En) := fun ρ => bnd (k ρ) fun y ρ1 => bnd (x ρ1) fun z ρ2 => if isStrD y = true then (dGet d y z).map fun r => (r, ρ2) else none
def tlk (tbl : List (Str × Int)) (x : Str) : Option Int := (tbl.find? fun p => decide (p.1 = x)).map (·.2)
theorem okK_tbl (tbl : List (Str × Int)) : okK (tbl.map fun p => ((.str p.1 : D), (.int p.2 : D))) = true := by
  unfold okK
  rw [List.all_map]
  exact List.all_eq_true.mpr fun p _ => rfl
theorem lookK_tbl (x : Str) : ∀ tbl : List (Str × Int), lookK (tbl.map fun p => ((.str p.1 : D), (.int p.2 : D))) (.inr x) = (tlk tbl x).map .int
  | [] => rfl
  | p :: s => by
    have ih := lookK_tbl x s
    unfold lookK tlk at ih ⊢
    rw [List.map_cons, List.find?_cons, List.find?_cons]
    by_cases e : p.1 = x
    · have h1 : decide (keyOf (.str p.1) = some (.inr x)) = true := decide_eq_true (by rw [e]; rfl)
      rw [h1, decide_eq_true e]
      rfl
    · have h1 : decide (keyOf (.str p.1) = some (.inr x)) = false := decide_eq_false (fun h => e (by injection h with h; injection h))
      rw [h1, decide_eq_false e]
      exact ih
def tgetD (tbl : List (Str × Int)) (x : Str) (z : D) : D := match tlk tbl x with
  | none => z
  | some i => .int i
theorem dGet_tbl {tbl : List (Str × Int)} {x : Str} {z : D} : dGet (tblD tbl) (.str x) z = some (tgetD tbl x z) := by
  unfold tblD tgetD
  show (if okK _ = true then some ((lookK _ _).getD z) else none) = _
  rw [if_pos (okK_tbl tbl), lookK_tbl]
  cases tlk tbl x <;> rfl
theorem ent_find {x : Str} : ∀ {l : List DictEntry} {tbl : List (Str × Int)}, l.map entOf = tbl.map some →
    (l.find? (fun e => Value.isStrOf x e.key) = none ∧ tlk tbl x = none) ∨ ∃ e i t, l.find? (fun e => Value.isStrOf x e.key) = some e ∧ e.val = .int i t ∧ tlk tbl x = some i
  | [], [], _ => .inl ⟨rfl, rfl⟩
  | [], _ :: _, h => by cases h
  | _ :: _, [], h => by cases h
  | e :: l, p :: tbl, h => by
    rw [List.map_cons, List.map_cons] at h
    injection h with h1 h2
    unfold entOf at h1
    split at h1
    · rename_i y t i u hk hv
      cases h1
      rw [List.find?_cons, hk]
      unfold tlk
      rw [List.find?_cons]
      dsimp only
      by_cases c : y = x
      · subst c
        rw [show Value.isStrOf y (.str y t) = true from beq_self_eq_true y, decide_eq_true rfl]
        exact .inr ⟨e, i, u, rfl, hv, rfl⟩
      · rw [show Value.isStrOf x (.str y t) = false from beq_eq_false_iff_ne.mpr c, decide_eq_false c]
        exact ent_find h2
    · cases h1
section
variable {X : Cx} {o e f : Expr} {apos cpos : Pos} {ty tx : TE}
/-- D.get(k, x), D written -/
theorem pe_getG {a : Addr} {tbl : List (Str × Int)} (wd : WDict X.K X.w a tbl) (ho : PE X o (tC (.ref a))) (he : PE X e ty) (hf : PE X f tx) (m : M2 X o "get" apos e f cpos) :
    PE X (.Call (.Attribute o "get" apos) [e, f] [] cpos) (fun σ H Q => ty σ H fun y H1 => tx σ H1 fun z H2 => ∃ s, y = .str s ∧ Q (match tlk tbl s with | none => z | some i => .int i) H2) := by
  obtain ⟨es, n, hl, hk, lo, he'⟩ := wd
  refine ⟨fun pins s σ H Q I h => ?_⟩
  have ho' := ho.run pins s σ H (fun x H' => x = .ref a ∧ H' = H) I ⟨rfl, rfl⟩
  refine wpAny_Call_method m.base m.few m.line PySem.F.plainAttrs_dict PySem.F.slot_dict_get PySem.F.type_dict_get (thn ho' fun u s1 ⟨x, H1, I1, rx, ex, eH⟩ => ?_)
  subst ex eH
  obtain rfl : u = Value.ref a := rx
  have hm := PySem.W.mapOf_K (prog := X.prog) (w := X.w) I1.kIn hl hk
  refine ⟨hm.typeIs, fun b q => ?_, ?_⟩
  · cases q
    exact ⟨_, I1.kIn _ _ hl, rfl⟩
  rw [m.trees]
  refine Calls.callWith_builtin rfl (Calls.evalArgs_plain (Calls.spliced_cons (thn (he.run pins s1 σ _ _ I1 h) fun iv s2 ⟨y, H2, I2, ry, q2⟩ =>
    Calls.spliced_cons (thn (hf.run pins s2 σ H2 _ I2 q2) fun fv s3 ⟨z, H3, I3, rz, x, ey, q3⟩ => Calls.spliced_nil ?_))))
  subst ey
  obtain ⟨t, rfl⟩ := (show ∃ t, iv = Value.str x t from ry)
  have hm3 := PySem.W.mapOf_K (prog := X.prog) (w := X.w) I3.kIn hl hk
  refine call_meetsIn PySem.F.slot_dict_get hm3.typeIs PySem.F.entry_dict_get (PySem.F.args_dict_get_3 _ _ _) (meets_dict_get_default (strKind X.prog X.w) a (strKind_is X.prog X.w x t) lo fv) ⟨_, hm3, ?_⟩
  have ef : findBy Value.isStrOf es x = (es.toList.find? fun e => Value.isStrOf x e.key).map (·.val) := by
    obtain ⟨l⟩ := es
    show (List.toArray l |>.find? _).map _ = _
    rw [List.find?_toArray]
  refine ⟨_, H3, I3.tok _, ?_, q3⟩
  rw [ef]
  rcases ent_find (x := x) he' with ⟨h1, h2⟩ | ⟨e0, i, t0, h1, h2, h3⟩
  · rw [h1, h2]; exact rz
  · rw [h1, h3]
    exact ⟨t0, h2⟩
end
section
variable {nm : Nm}
def eGGet (x : Str) (tbl : List (Str × Int)) (k z : CE nm) (xpos apos cpos : Pos) (h : (x, tblD tbl) ∈ nm.cs) (ht : tbl ≠ []) (hg : nm.sc.names.lookup x = some .globalImplicit) (hp : (apos.endLine == cpos.line) = true) (hd : (x == ("__debug__" : Str)) = false := by rfl) : CE nm where
  syn := .Call (.Attribute (.Name x xpos) "get" apos) [k.syn, z.syn] [] cpos
  sem := semGetG (tblD tbl) k.sem z.sem
  pl := rfl
  snd := fun X G => by
    obtain ⟨a, e3, wd⟩ : ∃ a, X.mg x = some (.ref a) ∧ WDict X.K X.w a tbl := by
      rcases G.cons _ h with ⟨v, u, c, _⟩ | ⟨tbl', a, c, m, w⟩
      · cases c
      · have c : tblD tbl = tblD tbl' := c
        have : tbl = tbl' := by
          unfold tblD at c
          injection c with c
          exact (List.map_inj_right (fun a b h => by injection h with h1 h2; injection h1 with h1; injection h2 with h2; exact Prod.ext h1 h2)).mp c
        subst this
        exact ⟨a, m, w⟩
    refine PE.imp (pe_getG wd (pe_glob (x := x) (by show X.env.scope.names.lookup x = _; rw [G.sc]; exact hg) e3 rfl hd) (k.snd X G) (z.snd X G) ⟨rfl, few2 k.pl z.pl, hp, trees2 k.pl z.pl⟩) fun σ H Q h => ?_
    obtain ⟨F, ρ, g, r, ρ', e0, q⟩ := h
    obtain ⟨y, ρ2, e2, e0⟩ := bnd_some e0
    obtain ⟨z', ρ3, e3, e0⟩ := bnd_some e0
    obtain ⟨hs, e0⟩ := ite_sm e0
    obtain ⟨r', e4, e5⟩ := Option.map_eq_some_iff.mp e0
    cases e5
    refine ⟨F, ρ, g, y, ρ2, e2, fun v2 F2 H2 g2 f2 d2 => ⟨F2, ρ2, g2, z', _, e3, fun v3 F3 H3 g3 f3 d3 => ?_⟩⟩
    cases d2 with
    | str s =>
      rw [dGet_tbl] at e4
      injection e4 with e4
      refine ⟨s, rfl, q _ F3 H3 g3 (f2.trans f3) ?_⟩
      rw [← e4]
      unfold tgetD
      cases tlk tbl s with
      | none => exact d3
      | some i => exact .int i
    | _ => cases hs
end
end FL
end L2

/-! FL18: a new list made while cells are read -/
namespace L2
namespace FL
open PySem PySem.Spec PyProof.Rows
theorem dps_flat {K : KW} {F F' : Hp} : ∀ {vs : List V} {ds : List D}, ds.all flatD = true → DpAll K F vs ds → DpAll K F' vs ds
  | _, _, _, .nil => .nil
  | _, _ :: _, h, .cons q r => by
    rw [List.all_cons, Bool.and_eq_true] at h
    exact .cons (dp_flat h.1 q) (dps_flat h.2 r)
def semBN (n : En → Option (List D × En)) : En → Option (List D × En) := fun ρ => bnd (n (ρ.map thawS)) fun ds _ => if ds.all flatD = true then some (ds, ρ) else none
def nBor {nm : Nm} (n : CN nm) : CN nm where
  syn := n.syn
  sem := semBN n.sem
  pl := n.pl
  snd := fun X G => PE.imp (n.snd X G) fun σ H Q h => by
    obtain ⟨F, ρ, g, ds, ρ', e0, q⟩ := h
    obtain ⟨ds', ρ1, e1, e0⟩ := bnd_some e0
    obtain ⟨hf, e2⟩ := ite_sm e0
    cases e2
    obtain ⟨Fb, gb, sb, no⟩ := g.borrow
    refine ⟨Fb, _, gb, _, ρ1, e1, fun a vs F1 H1 g1 f1 h0 no1 hf1 hH r => ?_⟩
    obtain ⟨g2, f2⟩ := g.unborrow no g1 f1
    have hF : F a = none := by
      cases e : F a with
      | none => rfl
      | some o =>
        have := f1.leF a o (sb a o e)
        rw [hf1] at this
        cases this
    exact q a vs F H1 g2 f2 h0 (fun w => (g.ownThere w).1 h0) hF hH (dps_flat hf r)
end FL
end L2

/-! FL19: a, b = x, y where a name is a cell -/
namespace L2
namespace FL
open PySem PySem.Spec PyProof.Rows
def locC (sc : Scope) : Expr → Bool
  | .Name id _ => sc.names.lookup id == some .local
  | _ => false
theorem fm_len {sc : Scope} {f : Expr → Option Str} (hf : ∀ e s, f e = some s → locC sc e = true) : ∀ {ts : List Expr}, (ts.filterMap f).length = ts.length → ts.all (locC sc) = true
  | [], _ => rfl
  | t :: ts, h => by
    have hle := List.length_filterMap_le f ts
    rw [List.filterMap_cons] at h
    rw [List.all_cons]
    cases e : f t with
    | none =>
      rw [e] at h
      simp only [List.length_cons] at h
      omega
    | some s =>
      rw [e] at h
      rw [hf t s e, fm_len hf (Nat.succ.inj h)]
      rfl
theorem sw_cell {ts vs : List Expr} {k k2 : Nat} {p p2 : Pos} {env : Env} (h : ts.all (locC env.scope) = false) : swappedStores [.Tuple ts k p] (.Tuple vs k2 p2) env = pure none := by
  unfold swappedStores
  simp only []
  split
  · rfl
  split
  · rfl
  split
  · rfl
  · rename_i h1
    refine absurd (Bool.or_eq_true_iff.mpr (.inl ?_)) h1
    refine bne_iff_ne.mpr fun h2 => ?_
    have := fm_len (sc := env.scope) (fun e s he => ?_) h2
    · rw [h] at this
      cases this
    · cases e with
      | Name id pos =>
        dsimp only at he
        split at he
        · rename_i h3
          exact (Bool.and_eq_true_iff.mp h3).1
        · cases he
      | _ => cases he
end FL
end L2

/-! FL20: dicts whose keys are tuples: made, read, stored -/
namespace L2
namespace FL
open PySem PySem.Spec PyProof.Rows
theorem pe_emptyK {X : Cx} {pos : Pos} : PE X (.Dict [] [] pos) (fun _ H Q => ∀ p, H p = none → Q (.ref p) (upd H p (kdO X.w p []))) :=
  ⟨fun pins s σ H Q I h => wpAny_Dict_empty ⟨.ref s.heap.objs.size, _, I.laid (a := s.heap.objs.size) (o := kdO X.w s.heap.objs.size []) (t' := s.toks) (fun _ _ q => Heap.get?_push_of_some _ q) (Nat.le_refl _)
    (kd_ok (beq_eq_false_iff_ne.mpr (Nat.ne_of_gt I.big)) (Nat.zero_le _) (Heap.DictOfH.new s.heap)), rfl, h _ (I.hok.fresh (Nat.le_refl _))⟩⟩
section
variable {K : KW} {F H : Hp} {σ : St} {ρ : En} {p : Addr}
theorem Gs.newK {es : List NkE} {kvs : List (D × D)} (g : Gs K F H σ ρ) (hp : H p = none) (r : DtR K F es kvs) :
    Gs K F (upd H p (kdO K.w p es)) σ ρ ∧ Fw F H σ ρ F (upd H p (kdO K.w p es)) σ ρ ∧ ¬ Owns σ ρ p ∧ F p = none ∧ Cel K F (upd H p (kdO K.w p es)) p (.dict ((.bool true, .none) :: kvs)) := by
  obtain ⟨g2, f2⟩ := g.alloc (o := kdO K.w p es) hp trivial
  exact ⟨g2, f2, fun w => (g.ownThere w).1 hp, g.Fnone hp, .inr ⟨es, kvs, rfl, upd_same, r⟩⟩
end
section
variable {nm : Nm}
def semEmptyK : En → Option (D × En) := fun ρ => some (.dict [(.bool true, .none)], ρ)
def mEmptyK (pos : Pos) : CM nm where
  syn := .Dict [] [] pos
  sem := semEmptyK
  pl := rfl
  snd := fun X G => PE.imp pe_emptyK fun σ H Q h => by
    obtain ⟨F, ρ, g, d, ρ', e, q⟩ := h
    cases e
    intro p hp
    obtain ⟨g1, f1, no, hf, c⟩ := g.newK (es := []) hp .nil
    exact q _ _ _ g1 f1 hp no hf c
/-- x[k] -/
def semOKIdx (i : Nat) (e : En → Option (D × En)) : En → Option (D × En) := fun ρ => if isOwn ρ[i]? = true then bnd (e ρ) fun y ρ1 => match ρ1[i]?, nkT y with
  | some (.own (.dict ((.bool true, .none) :: kvs))), some k => (lookN kvs k).map fun d => (d, ρ1)
  | _, _ => none
  else none
def oKIdx (i : Nat) (x : Str) (e : CE nm) (xpos pos : Pos) (hN : nm.N[i]? = some x) (hv : visB nm.sc x = true) (hd : (x == ("__debug__" : Str)) = false := by rfl) (hcd : (x == ("__classdict__" : Str)) = false := by rfl) : CE nm where
  syn := .Subscript (.Name x xpos) e.syn pos
  sem := semOKIdx i e.sem
  pl := rfl
  snd := fun X G => PE.imp (pe_ix (ix_kd G.u65) (pe_var (i := i) (by rw [G.N]; exact hN) (by rw [G.sc]; exact vis_of hv) hd hcd) (e.snd X G) (Pl.plainIx e.pl)) fun σ H Q h => by
    obtain ⟨F, ρ, g, d, ρ', e0, q⟩ := h
    unfold semOKIdx at e0
    obtain ⟨ho, e0⟩ := ite_sm e0
    obtain ⟨c, ho⟩ := isOwn_of ho
    obtain ⟨y, ρ1, e1, e0⟩ := bnd_some e0
    split at e0
    · rename_i kvs k hc hk
      obtain ⟨d', e2, e3⟩ := Option.map_eq_some_iff.mp e0
      cases e3
      obtain ⟨a, w1, _, _⟩ := g.own i c ho
      refine ⟨.ref a, w1, F, ρ, g, y, _, e1, fun v F1 H1 g1 f1 d1 => ?_⟩
      obtain ⟨a', w2, _, w3⟩ := g1.own i _ hc
      rw [w1] at w2; cases w2
      obtain ⟨es, w4, w5⟩ := w3.dt
      exact ⟨F1, a, es, kvs, y, k, d, rfl, g1.le, w4, w5, d1, hk, e2, fun v' dp => q v' F1 H1 g1 f1 dp⟩
    · cases e0
/-- x[k] = e -/
def semKPut (i : Nat) (k e : En → Option (D × En)) : En → Option Fl := fun ρ => bnd (e ρ) fun d ρ1 => if isOwn ρ1[i]? = true then bnd (k ρ1) fun y ρ2 => match ρ2[i]?, nkT y with
    | some (.own (.dict ((.bool true, .none) :: kvs))), some c => if kvs.length < sizeLine then some (.nx (ρ2.set i (.own (.dict ((.bool true, .none) :: putN kvs y c d))))) else none
    | _, _ => none
  else none
end
section
variable {X : Cx} {o i value : Expr} {td ty tv : TE} {pos' pos : Pos}
def tKPut (X : Cx) (td ty tv : TE) : TS := fun D σ H => tv σ H fun v H1 => td σ H1 fun x H2 => ty σ H2 fun y H3 => ∃ F a es kvs dk k dv, x = .ref a ∧ Same F H3 ∧ H3 a = some (kdO X.w a es) ∧ DtR (kw X) F es kvs ∧ Dp (kw X) F y dk ∧ nkT dk = some k ∧ Dp (kw X) F v dv ∧ es.length < sizeLine ∧
  ∀ b u, y = .ref b → RelV v u → D.nx σ (upd H3 a (kdO X.w a (storedH es k b u)))
theorem ps_kput (hu : X.A.units + 65 < cLine) (ho : PE X o td) (hi : PE X i ty) (hv : PE X value tv) (hs : swapsWith value (some (.Subscript o i pos')) pos.line X.env = pure false) :
    PS X (.Assign [.Subscript o i pos'] value pos) (tKPut X td ty tv) := by
  refine ⟨fun pins s σ H D I h => ?_⟩
  refine wpAny_Assign_Subscript (thn (hv.run pins s σ H _ I h) fun r s1 ⟨v, H1, I1, rv, q1⟩ => thn (ho.run pins s1 σ H1 _ I1 q1) fun u s2 ⟨x, H2, I2, rx, q2⟩ => thn (hi.run pins s2 σ H2 _ I2 q2) fun iv s3 ⟨y, H3, I3, ry, w⟩ => ?_) hs
  obtain ⟨F, a, es, kvs, dk, k, dv, rfl, sm, ha, r', qk, hk, qv, hl, q3⟩ := w
  obtain ⟨ht, e2, e3⟩ := nkT_of hk
  obtain ⟨b, rfl⟩ := ref_of_nk qk e2 ht
  obtain rfl : u = Value.ref a := rx
  obtain rfl : iv = Value.ref b := ry
  exact kd_put (u := r) hu I3 sm ha r' qk e2 e3 hl fun s4 I4 => ⟨σ, _, I4, q3 b _ rfl rv⟩
end
section
variable {nm : Nm}
def sKPut (i : Nat) (x : Str) (k e : CE nm) (xpos tpos pos : Pos) (hN : nm.N[i]? = some x) (hv : visB nm.sc x = true) (hs : Nc e.syn = true) (hd : (x == ("__debug__" : Str)) = false := by rfl) (hcd : (x == ("__classdict__" : Str)) = false := by rfl) : CS nm where
  syn := .Assign [.Subscript (.Name x xpos) k.syn tpos] e.syn pos
  sem := semKPut i k.sem e.sem
  snd := fun X G => PS.imp (ps_kput G.u65 (pe_var (i := i) (by rw [G.N]; exact hN) (by rw [G.sc]; exact vis_of hv) hd hcd) (k.snd X G) (e.snd X G) (Nc.swaps hs _ _ _)) fun D σ H h => by
    obtain ⟨F, ρ, g, fl, e0, p⟩ := h
    obtain ⟨d, ρ1, e1, e0⟩ := bnd_some e0
    refine ⟨F, ρ, g, d, ρ1, e1, fun v F1 H1 g1 f1 d1 => ?_⟩
    obtain ⟨ho, e0⟩ := ite_sm e0
    obtain ⟨c, ho⟩ := isOwn_of ho
    obtain ⟨y, ρ2, e2, e0⟩ := bnd_some e0
    obtain ⟨a, w1, _, _⟩ := g1.own i c ho
    refine ⟨.ref a, w1, F1, ρ1, g1, y, ρ2, e2, fun w F2 H2 g2 f2 d2 => ?_⟩
    split at e0
    · rename_i kvs k' hc hk
      obtain ⟨hl, e0⟩ := ite_sm e0
      cases e0
      obtain ⟨a', w2, _, w3⟩ := g2.own i _ hc
      rw [w1] at w2; cases w2
      obtain ⟨es, w4, w5⟩ := w3.dt
      have hle := w5.length
      refine ⟨F2, a, es, kvs, y, k', d, rfl, g2.le, w4, w5, d2, hk, Dp.mono f2.leF d1, by omega, fun b u ey rv => ?_⟩
      subst ey
      obtain ⟨ht, e2, e3⟩ := nkT_of hk
      have r' : DtR (kw X) F2 (storedH es k' b u) (putN kvs y k' d) := DtR.put d2 e2 e3 rv (Dp.mono f2.leF d1) w5
      obtain ⟨g3, f3⟩ := g2.setCell (o := kdO X.w a (storedH es k' b u)) (d := .dict ((.bool true, .none) :: putN kvs y k' d)) hc w1 trivial (.inr ⟨_, _, rfl, upd_same, r'⟩)
      exact p σ F2 _ g3 (f1.trans (f2.trans f3)) Io.refl
    · cases e0
end
end FL
end L2

/-! FL21: f(.., {}): a new dict lent to the callee -/
namespace L2
namespace FL
open PySem PySem.Spec PyProof.Rows
theorem snoc_at {α : Type} {l : List α} {x y : α} {i : Nat} (h : (l ++ [x])[i]? = some y) : (i < l.length ∧ l[i]? = some y) ∨ (i = l.length ∧ y = x) := by
  by_cases hi : i < l.length
  · rw [List.getElem?_append_left hi] at h
    exact .inl ⟨hi, h⟩
  · rw [List.getElem?_append_right (by omega)] at h
    obtain ⟨h1, h2⟩ := List.getElem?_eq_some_iff.mp h
    rw [List.length_singleton] at h1
    refine .inr ⟨by omega, ?_⟩
    rw [← h2]
    have : i - l.length = 0 := by omega
    simp [this]
section
variable {K : KW} {F F' H H' : Hp} {vs : List V} {sl outs : List Sl} {p : Addr} {d : D} {o : HO}
theorem Gs.grow (g : Gs K F H (vs.map some) sl) (hp : H p = none) (z : szO o) (c : Cel K F (upd H p o) p d) : Gs K F (upd H p o) ((vs ++ [V.ref p]).map some) (sl ++ [.own d]) := by
  obtain ⟨g2, f2⟩ := g.alloc (o := o) hp z
  have hl : vs.length = sl.length := by have := g.len; rwa [List.length_map] at this
  have e0 : (vs ++ [V.ref p]).map some = vs.map some ++ [some (V.ref p)] := by rw [List.map_append]; rfl
  have nown : ∀ {i : Nat} {e : D}, sl[i]? = some (.own e) → ∀ {a : Addr}, (vs.map some)[i]? = some (some (.ref a)) → a ≠ p := fun {i e} h1 {a} h2 z => (g.ownThere ⟨i, e, h1, h2⟩).1 (z ▸ hp)
  refine ⟨by rw [List.length_map, List.length_append, List.length_append, hl]; rfl, g2.le, g2.sz, fun i e h => ?_, fun i e h => ?_, fun i j di dj a h1 h2 h3 h4 => ?_⟩
  · rcases snoc_at h with ⟨hi, h⟩ | ⟨_, h⟩
    · obtain ⟨v, q1, q2⟩ := g2.val i e h
      rw [e0, List.getElem?_append_left (by rw [List.length_map, hl]; exact hi)]
      exact ⟨v, q1, q2⟩
    · cases h
  · rcases snoc_at h with ⟨hi, h⟩ | ⟨hi, h⟩
    · obtain ⟨a, q1, q2, q3⟩ := g2.own i e h
      rw [e0, List.getElem?_append_left (by rw [List.length_map, hl]; exact hi)]
      exact ⟨a, q1, q2, q3⟩
    · cases h
      refine ⟨p, ?_, g.Fnone hp, c⟩
      rw [e0, List.getElem?_append_right (by rw [List.length_map, hl, hi]; exact Nat.le_refl _), List.length_map, hl, hi, Nat.sub_self]
      rfl
  · rw [e0] at h3 h4
    rcases snoc_at h1 with ⟨hi, h1⟩ | ⟨hi, h1⟩
    · rw [List.getElem?_append_left (by rw [List.length_map, hl]; exact hi)] at h3
      rcases snoc_at h2 with ⟨hj, h2⟩ | ⟨hj, h2⟩
      · rw [List.getElem?_append_left (by rw [List.length_map, hl]; exact hj)] at h4
        exact g.inj i j _ _ a h1 h2 h3 h4
      · rw [List.getElem?_append_right (by rw [List.length_map, hl, hj]; exact Nat.le_refl _), List.length_map, hl, hj, Nat.sub_self] at h4
        have h4 : some (some (V.ref p)) = some (some (V.ref a)) := h4
        cases h4
        exact absurd rfl (nown h1 h3)
    · rw [List.getElem?_append_right (by rw [List.length_map, hl, hi]; exact Nat.le_refl _), List.length_map, hl, hi, Nat.sub_self] at h3
      have h3 : some (some (V.ref p)) = some (some (V.ref a)) := h3
      cases h3
      rcases snoc_at h2 with ⟨hj, h2⟩ | ⟨hj, h2⟩
      · rw [List.getElem?_append_left (by rw [List.length_map, hl]; exact hj)] at h4
        exact absurd rfl (nown h2 h4)
      · rw [hi, hj]
theorem take_at {α : Type} {l : List α} {n i : Nat} {y : α} (h : (l.take n)[i]? = some y) : i < n ∧ l[i]? = some y := by
  rw [List.getElem?_take] at h
  split at h
  · exact ⟨by assumption, h⟩
  · cases h
theorem Gs.shrink (g : Gs K F H (vs.map some) sl) (hp : H p = none) (g' : Gs K F' H' ((vs ++ [V.ref p]).map some) outs) (f' : Fw F (upd H p o) ((vs ++ [V.ref p]).map some) (sl ++ [.own d]) F' H' ((vs ++ [V.ref p]).map some) outs) :
    Gs K F' H' (vs.map some) (outs.take vs.length) ∧ Fw F H (vs.map some) sl F' H' (vs.map some) (outs.take vs.length) := by
  have hl : vs.length = sl.length := by have := g.len; rwa [List.length_map] at this
  have e0 : (vs ++ [V.ref p]).map some = vs.map some ++ [some (V.ref p)] := by rw [List.map_append]; rfl
  have ho : outs.length = vs.length + 1 := by
    have := g'.len
    rw [List.length_map, List.length_append] at this
    exact this.symm
  have lo : ∀ {i : Nat}, i < vs.length → (vs.map some ++ [some (V.ref p)])[i]? = (vs.map some)[i]? := fun {i} hi => List.getElem?_append_left (by rw [List.length_map]; exact hi)
  have nown : ∀ a, a ≠ p → ¬ Owns (vs.map some) sl a → ¬ Owns ((vs ++ [V.ref p]).map some) (sl ++ [.own d]) a := fun a hp' no ⟨i, e, h1, h2⟩ => by
    rw [e0] at h2
    rcases snoc_at h1 with ⟨hi, h1⟩ | ⟨hi, h1⟩
    · rw [lo (by omega)] at h2
      exact no ⟨i, e, h1, h2⟩
    · rw [List.getElem?_append_right (by rw [List.length_map, hl, hi]; exact Nat.le_refl _), List.length_map, hl, hi, Nat.sub_self] at h2
      have h2 : some (some (V.ref p)) = some (some (V.ref a)) := h2
      cases h2
      exact hp' rfl
  refine ⟨⟨by rw [List.length_map, List.length_take, ho]; omega, g'.le, g'.sz, fun i e h => ?_, fun i e h => ?_, fun i j di dj a h1 h2 h3 h4 => ?_⟩, ⟨f'.leF, fun a n no => ?_, fun a ⟨i, e, h1, h2⟩ => ?_, fun a h => ?_⟩⟩
  · obtain ⟨hi, h⟩ := take_at h
    obtain ⟨v, q1, q2⟩ := g'.val i e h
    rw [e0, lo hi] at q1
    exact ⟨v, q1, q2⟩
  · obtain ⟨hi, h⟩ := take_at h
    obtain ⟨a, q1, q2, q3⟩ := g'.own i e h
    rw [e0, lo hi] at q1
    exact ⟨a, q1, q2, q3⟩
  · obtain ⟨hi, h1⟩ := take_at h1
    obtain ⟨hj, h2⟩ := take_at h2
    exact g'.inj i j _ _ a h1 h2 (by rw [e0, lo hi]; exact h3) (by rw [e0, lo hj]; exact h4)
  · have hap : a ≠ p := fun z => n (z ▸ hp)
    obtain ⟨k1, k2⟩ := f'.keep a (by rw [upd_ne hap]; exact n) (nown a hap no)
    exact ⟨by rw [k1, upd_ne hap], k2⟩
  · obtain ⟨hi, h1⟩ := take_at h1
    rcases f'.own a ⟨i, e, h1, by rw [e0, lo hi]; exact h2⟩ with w | w
    · obtain ⟨j, e', w1, w2⟩ := w
      rw [e0] at w2
      rcases snoc_at w1 with ⟨hj, w1⟩ | ⟨hj, w1⟩
      · rw [lo (by omega)] at w2
        exact .inl ⟨j, e', w1, w2⟩
      · rw [List.getElem?_append_right (by rw [List.length_map, hl, hj]; exact Nat.le_refl _), List.length_map, hl, hj, Nat.sub_self] at w2
        have w2 : some (some (V.ref p)) = some (some (V.ref a)) := w2
        cases w2
        exact .inr hp
    · by_cases hap : a = p
      · exact .inr (hap ▸ hp)
      · rw [upd_ne hap] at w
        exact .inr w
  · have := f'.th a h
    by_cases hap : a = p
    · subst hap; exact hp
    · rwa [upd_ne hap] at this
end
/-- arguments, and a new dict behind them -/
def tAE (X : Cx) (sem : En → Option (List Ar × En)) : TA := fun σ H Q => ∃ F ρ, Gs (kw X) F H σ ρ ∧ ∃ as ρ', sem ρ = some (as, ρ') ∧
  ∀ vs F' H', Gs (kw X) F' H' σ ρ' → Fw F H σ ρ F' H' σ ρ' → ArgR (kw X) F' σ vs as → ∀ p, H' p = none → Q (vs ++ [V.ref p]) (upd H' p (kdO X.w p []))
structure CAE (nm : Nm) where
  syn : List Expr
  sem : En → Option (List Ar × En)
  pl : ∀ e ∈ syn, Pl e = true
  snd : ∀ X, Gd nm X → PA X syn (tAE X sem)
section
variable {nm : Nm}
def aeNil (pos : Pos) : CAE nm where
  syn := [.Dict [] [] pos]
  sem := semNil
  pl := fun e he => by
    obtain rfl := List.mem_singleton.mp he
    rfl
  snd := fun X G => PA.imp (pa_cons pe_emptyK pa_nil (by rfl)) fun σ H Q h => by
    obtain ⟨F, ρ, g, as, ρ', e, q⟩ := h
    cases e
    intro p hp
    exact q [] F H g Fw.refl .nil p hp
def aeCons (a : CE nm) (r : CAE nm) : CAE nm where
  syn := a.syn :: r.syn
  sem := semCons a.sem r.sem
  pl := fun e he => by
    rcases List.mem_cons.mp he with rfl | he
    · exact a.pl
    · exact r.pl e he
  snd := fun X G => PA.imp (pa_cons (a.snd X G) (r.snd X G) (Pl.star a.pl _ _)) fun σ H Q h => by
    obtain ⟨F, ρ, g, as, ρ', e0, q⟩ := h
    obtain ⟨d, ρ1, e1, e0⟩ := bnd_some e0
    obtain ⟨l, ρ2, e2, e0⟩ := bnd_some e0
    cases e0
    refine ⟨F, ρ, g, d, ρ1, e1, fun v F1 H1 g1 f1 d1 => ⟨F1, ρ1, g1, l, ρ', e2, fun vs F2 H2 g2 f2 r2 p hp => ?_⟩⟩
    exact q (v :: vs) F2 H2 g2 (f1.trans f2) (.d (Dp.mono f2.leF d1) r2) p hp
/-- what is lent comes back, what lies behind is let go -/
def pbE : En → List Ar → List Sl → Option En
  | ρ, [], _ => some ρ
  | ρ, .d _ :: as, _ :: os => pbE ρ as os
  | ρ, .o i :: as, .own c :: os => pbE (ρ.set i (.own c)) as os
  | _, _, _ => none
theorem pbE_eq : ∀ (as : List Ar) (ρ : En) (os : List Sl), pbE ρ as os = putBack ρ as (os.take as.length)
  | [], ρ, os => by cases os <;> rfl
  | .d x :: as, ρ, [] => rfl
  | .d x :: as, ρ, o :: os => pbE_eq as ρ os
  | .o i :: as, ρ, [] => rfl
  | .o i :: as, ρ, .own c :: os => pbE_eq as _ os
  | .o i :: as, ρ, .un :: os => rfl
  | .o i :: as, ρ, .val c :: os => rfl
def semCallE (p : Prom) (a : En → Option (List Ar × En)) : En → Option (D × En) := fun ρ => bnd (a ρ) fun as ρ1 => if lentOk ρ1 as = true ∧ as.length + 1 = p.ps.length then match p.sem (as.map (toSl ρ1) ++ [.own (.dict [(.bool true, .none)])]) with
  | some (d, outs) => (pbE ρ1 as outs).map fun ρ2 => (d, ρ2)
  | none => none
  else none
/-- f(.., {}) -/
def eCallE (p : Prom) (a : CAE nm) (fpos pos : Pos) (hp : p ∈ nm.Γ) (hg : nm.sc.names.lookup p.name = some .globalImplicit) (hne : a.syn ≠ []) (hd : (p.name == ("__debug__" : Str)) = false := by rfl) (hkn : p.kn = false := by rfl) : CE nm where
  syn := .Call (.Name p.name fpos) a.syn [] pos
  sem := semCallE p a.sem
  pl := rfl
  snd := fun X G => by
    obtain ⟨f, fd, k, hm, hk, hb, hF, hr⟩ := (G.knows p hp).ex
    have ha := a.snd X G
    have hpl := a.pl
    cases es : a.syn with
    | nil => exact absurd es hne
    | cons e rest =>
      rw [es] at ha hpl
      refine PE.imp (pe_call hF hr (by show X.env.scope.names.lookup p.name = _; rw [G.sc]; exact hg) hm hk (hb.pos hkn) .nil pass0 ha hd (Pl.star (hpl e (by simp)) _ _) (starred_tail (fun x hx => hpl x (by simp [hx])) _ _)) fun σ H Q h => ?_
      obtain ⟨F, ρ, g, d, ρ', e0, q⟩ := h
      obtain ⟨as, ρ1, e1, e0⟩ := bnd_some e0
      split at e0
      · rename_i hl
        split at e0
        · rename_i d' outs e2
          obtain ⟨ρ2, e3, e4⟩ := Option.map_eq_some_iff.mp e0
          cases e4
          refine ⟨F, ρ, g, as, ρ1, e1, fun vs F1 H1 g1 f1 r1 pa hpa => ?_⟩
          obtain ⟨hl, hlen⟩ := hl
          obtain ⟨gin, _⟩ := args_in g1 r1 hl
          have hvl : vs.length = as.length := r1.length
          have c : Cel (kw X) F1 (upd H1 pa (kdO X.w pa [])) pa (.dict [(.bool true, .none)]) := .inr ⟨[], [], rfl, upd_same, .nil⟩
          have gg := gin.grow (o := kdO X.w pa []) (d := .dict [(.bool true, .none)]) hpa trivial c
          show spOf _ _ (vs ++ [V.ref pa] ++ []) _ _ _
          rw [List.append_nil]
          refine ⟨F1, as.map (toSl ρ1) ++ [.own (.dict [(.bool true, .none)])], by rw [List.length_append, List.length_map]; exact hlen, gg, d, outs, e2, fun v F2 H2 g2 f2 dp => ?_⟩
          obtain ⟨g3, f3⟩ := gin.shrink hpa g2 f2
          rw [pbE_eq, ← hvl] at e3
          obtain ⟨g4, f4⟩ := args_out g1 r1 hl e3 g3 f3
          exact q v F2 H2 g4 (f1.trans f4) dp
        · cases e0
      · cases e0
end
end FL
end L2

/-! FL22: d.update({..}); dict comprehensions; the keys of a dict walked; xs.index(x) -/
namespace L2
namespace FL
open PySem PySem.Spec PyProof.Rows
section
variable {X : Cx}
/-- d.update(d2) -/
theorem mt_update : MtR X "dict.update" (fun x xs H Q => ∃ (d o : Addr) (es more : List (Key × V)), x = .ref d ∧ xs = [.ref o] ∧ d ≠ o ∧ H d = some (.dK es) ∧ H o = some (.dK more) ∧ es.length + more.length ≤ sizeLine ∧ Q .non (upd H d (.dK (mergeK es more)))) := by
  intro pins s σ H x xs v us Q I rx rxs h
  obtain ⟨d, o, es, more, rfl, rfl, hne, hd, ho, hz, q⟩ := h
  obtain rfl : v = Value.ref d := rx
  obtain ⟨u, rfl, ru⟩ := vals1 rxs
  obtain rfl : u = Value.ref o := ru
  obtain ⟨z1, hs1, vs1, rel1, dd1⟩ := dk_of I.hok hd
  obtain ⟨z2, hs2, vs2, rel2, dd2⟩ := dk_of I.hok ho
  have l1 : es.length = vs1.length := rel1.length
  have l2 : more.length = vs2.length := rel2.length
  have hl : (mergeK es more).length ≤ sizeLine := Nat.le_trans (length_mergeK more es) hz
  refine call_meetsIn PySem.F.slot_dict_update dd1.typeIs PySem.F.entry_dict_update (PySem.F.args_dict_update_2 _ _) (meets_dict_update (mixKind X.prog X.w) d o hne hs2) ⟨vs1, vs2, dd1, dd2, by omega, fun h' hm _ sb => ?_⟩
  have he : ∃ q, h'.get? d = some q := let ⟨q, _, _, hq, _⟩ := hm; ⟨q, hq⟩
  exact ⟨.non, _, d_write (t' := s.toks) I (by rw [hd]; exact trivial) sb he (dk_new hl hs1 (KV.merge rel2 rel1) hm), rfl, q⟩
end
theorem PrR.merge' {K : KW} {F : Hp} {es : List (Key × V)} {kvs : List (D × D)} (r : DkR K F es kvs) : ∀ {more : List (Key × V)} {ms : List (D × D)}, DkR K F more ms → ∃ ps : List (Key × D), ms = ps.map (fun p => (keyD p.1, p.2)) ∧ DkR K F (mergeK es more) (mergeD kvs ps)
  | _, _, .nil => ⟨[], rfl, r⟩
  | _, _, .cons (k := k) (d := d) q t => by
    obtain ⟨ps, e, r'⟩ := PrR.merge' (DkR.put k q r) t
    exact ⟨(k, d) :: ps, by rw [e]; rfl, r'⟩
/-- data of a dict as pairs -/
def unD : List (D × D) → Option (List (Key × D))
  | [] => some []
  | p :: r => match keyOf p.1, unD r with
    | some k, some ps => some ((k, p.2) :: ps)
    | _, _ => none
theorem unD_map : ∀ ps : List (Key × D), unD (ps.map fun p => (keyD p.1, p.2)) = some ps
  | [] => rfl
  | p :: ps => by
    rw [List.map_cons, unD, keyOf_keyD, unD_map ps]
section
variable {nm : Nm}
/-- x.update({..}) -/
def semUpd (i : Nat) (m : En → Option (D × En)) : En → Option (D × En) := fun ρ => if isOwnD ρ[i]? = true then bnd (m ρ) fun d ρ1 => match ρ1[i]?, d with
  | some (.own (.dict kvs)), .dict ms => if okK kvs = true ∧ okK ms = true ∧ kvs.length + ms.length ≤ sizeLine then (unD ms).map fun ps => (.none, ρ1.set i (.own (.dict (mergeD kvs ps)))) else none
  | _, _ => none
  else none
def oUpdate (i : Nat) (x : Str) (m : CM nm) (xpos apos cpos : Pos) (hN : nm.N[i]? = some x) (hv : visB nm.sc x = true) (hp : (apos.endLine == cpos.line) = true) (hd : (x == ("__debug__" : Str)) = false := by rfl) (hcd : (x == ("__classdict__" : Str)) = false := by rfl) : CE nm where
  syn := .Call (.Attribute (.Name x xpos) "update" apos) [m.syn] [] cpos
  sem := semUpd i m.sem
  pl := rfl
  snd := fun X G => PE.imp (pe_bm PySem.F.plainAttrs_dict PySem.F.slot_dict_update PySem.F.type_dict_update mt_update (pe_var (i := i) (by rw [G.N]; exact hN) (by rw [G.sc]; exact vis_of hv) hd hcd) (pa_cons (m.snd X G) pa_nil (Pl.star m.pl _ _)) rfl (few1 m.pl) hp (Pl.star m.pl _ _) rfl) fun σ H Q h => by
    obtain ⟨F, ρ, g, d, ρ', e0, q⟩ := h
    unfold semUpd at e0
    obtain ⟨ho, e0⟩ := ite_sm e0
    obtain ⟨kv0, ho, ok0⟩ := isOwnD_of ho
    obtain ⟨dm, ρ1, e1, e0⟩ := bnd_some e0
    split at e0
    · rename_i kvs ms hc
      obtain ⟨⟨ok1, ok2, hz⟩, e0⟩ := ite_sm e0
      obtain ⟨ps, e2, e3⟩ := Option.map_eq_some_iff.mp e0
      cases e3
      obtain ⟨a, w1, wF, wC⟩ := g.own i _ ho
      obtain ⟨es0, hes0, _⟩ := wC.dk ok0
      refine ⟨.ref a, w1, .inr (.inr (.inl ⟨rfl, .inl ⟨es0, hes0⟩⟩)), F, ρ, g, .dict ms, ρ1, e1, fun b F1 H1 g1 f1 h0 no hf cm => ?_⟩
      obtain ⟨a', w2, w3, w4⟩ := g1.own i _ hc
      rw [w1] at w2; cases w2
      obtain ⟨es, w5, w6⟩ := w4.dk ok1
      obtain ⟨more, w7, w8⟩ := cm.dk ok2
      have hne : a ≠ b := fun z => by
        rw [z, h0] at hes0
        cases hes0
      obtain ⟨ps', e4, w9⟩ := PrR.merge' w6 w8
      have e5 : ps = ps' := by
        rw [e4, unD_map] at e2
        exact (Option.some.inj e2).symm
      subst e5
      have l1 := w6.length
      have l2 := w8.length
      have hl : (mergeK es more).length ≤ sizeLine := Nat.le_trans (length_mergeK more es) (by omega)
      obtain ⟨g3, f3⟩ := g1.setCell (o := .dK (mergeK es more)) (d := .dict (mergeD kvs ps)) hc w1 hl (.inl ⟨_, upd_same, w9⟩)
      exact ⟨a, b, es, more, rfl, rfl, hne, w5, w7, by omega, q _ F1 _ g3 (f1.trans f3) .non⟩
    · cases e0
end
/-! ### dict comprehensions -/
def dcS (g : D → En → Option En) (t : En → Option (Bool × En)) (k e : En → Option (D × En)) (vs : List Nat) : List D → En → Option (List (Key × D) × En)
  | [], ρ => some ([], ρ)
  | d :: ds, ρ => match g d ρ with
    | none => none
    | some ρ1 => match t ρ1 with
      | none => none
      | some (false, ρ2) => dcS g t k e vs ds (wipeE ρ2 vs)
      | some (true, ρ2) => match k ρ2 with
        | none => none
        | some (y, ρ3) => match e ρ3 with
          | none => none
          | some (z, ρ4) => match keyOf y, dcS g t k e vs ds (wipeE ρ4 vs) with
            | some c, some (ps, ρ5) => some ((c, z) :: ps, ρ5)
            | _, _ => none
def semDc (it : En → Option (List D × En)) (g : D → En → Option En) (t : En → Option (Bool × En)) (k e : En → Option (D × En)) (vs : List Nat) : En → Option (D × En) := fun ρ => bnd (it ρ) fun ds ρ1 => bnd (dcS g t k e vs ds (wipeE ρ1 vs)) fun ps ρ2 => some (.dict (mergeD [] ps), unwipe ρ1 ρ2 vs)
theorem tDc_of {K : KW} {IO : List Nat} {it : En → Option (List D × En)} {gs : D → En → Option En} {sl : List Nat} {ts : En → Option (Bool × En)} {ks es : En → Option (D × En)} {vs : List Nat} (hs : ∀ i ∈ sl, i ∈ vs) {σ : St} {H : Hp} {Q : VK}
    (h : tM K (semDc it gs ts ks es vs) σ H Q) : tDc (tI K it) (tG K IO sl gs) (tT K ts) (tE K ks) (tE K es) vs σ H Q := by
  obtain ⟨F, ρ, g, fin, ρ', e0, q⟩ := h
  obtain ⟨ds, ρ1, e1, e0⟩ := bnd_some e0
  obtain ⟨ys, ρe, e2, e0⟩ := bnd_some e0
  cases e0
  refine ⟨F, ρ, g, ds, ρ1, e1, fun J F1 H1 g1 f1 jo => ?_⟩
  intro Dd hD
  obtain ⟨gw, fw⟩ := g1.wiped vs
  refine ⟨fun i m H' => m = ds.length - i ∧ i ≤ ds.length ∧ ∃ Fc ρc acc accD rest, Gs K Fc H' (wipe σ vs) ρc ∧ Fw F1 H1 (wipe σ vs) (wipeE ρ1 vs) Fc H' (wipe σ vs) ρc ∧ H' Dd = some (.dK acc) ∧ Fc Dd = none ∧ ¬ Owns (wipe σ vs) ρc Dd ∧
      DkR K Fc acc accD ∧ acc.length ≤ i ∧ dcS gs ts ks es vs (ds.drop i) ρc = some (rest, ρe) ∧ mergeD accD rest = mergeD [] ys, ⟨ds.length, by simp, Nat.zero_le _, F1, wipeE ρ1 vs, [], [], ys, ?_⟩, ?_⟩
  · obtain ⟨ga, fa⟩ := gw.alloc (o := .dK []) hD (Nat.zero_le _)
    exact ⟨ga, fa, upd_same, gw.Fnone hD, fun w => (gw.ownThere w).1 hD, .nil, Nat.zero_le _, by rw [List.drop_zero]; exact e2, rfl⟩
  · rintro i m H' ⟨rfl, hi, Fc, ρc, acc, accD, rest, gc, fc, hDd, hFd, noc, ra, hla, ec, efin⟩
    by_cases hlt : i < ds.length
    · refine .inr ⟨jo.go i H' hlt (fc.leF.trans gc.le), fun H2 => i + 1 ≤ ds.length ∧ ∃ Fc ρc acc accD rest, Gs K Fc H2 (wipe σ vs) ρc ∧ Fw F1 H1 (wipe σ vs) (wipeE ρ1 vs) Fc H2 (wipe σ vs) ρc ∧ H2 Dd = some (.dK acc) ∧ Fc Dd = none ∧ ¬ Owns (wipe σ vs) ρc Dd ∧
        DkR K Fc acc accD ∧ acc.length ≤ i + 1 ∧ dcS gs ts ks es vs (ds.drop (i + 1)) ρc = some (rest, ρe) ∧ mergeD accD rest = mergeD [] ys, ?_, ?_⟩
      · rintro H2 ⟨h1, rest'⟩
        exact ⟨ds.length - (i + 1), by omega, rfl, h1, rest'⟩
      · intro x H2 y
        obtain ⟨F2, g2, f2, d2⟩ := jo.yld i Fc H' x H2 ds[i] (wipe σ vs) ρc fc.leF gc (List.getElem?_eq_getElem hlt) y
        rw [List.drop_eq_getElem_cons hlt] at ec
        unfold dcS at ec
        split at ec
        · cases ec
        · rename_i ρ2 eg
          refine ⟨F2, ρc, ds[i], g2, d2, ρ2, eg, fun σ3 F3 H3 g3 f3 i3 s3 l3 => ?_⟩
          have ew : wipe σ3 vs = wipe σ vs := wipe_eq s3 hs (by rw [l3, wipe_length])
          refine ⟨ew, ?_⟩
          have keepD : ∀ {F4 H4 : Hp} {σ4 : St} {ρ4 : En}, Fw Fc H' (wipe σ vs) ρc F4 H4 σ4 ρ4 → H4 Dd = some (.dK acc) ∧ F4 Dd = none ∧ ¬ Owns σ4 ρ4 Dd := fun {F4 H4 σ4 ρ4} f => by
            obtain ⟨k1, k2⟩ := f.keep Dd (by rw [hDd]; exact fun z => nomatch z) noc
            refine ⟨k1.trans hDd, k2.trans hFd, fun w => ?_⟩
            rcases f.own Dd w with w | w
            · exact noc w
            · rw [hDd] at w; cases w
          split at ec
          · cases ec
          · rename_i ρ4 et
            refine ⟨F3, ρ2, g3, false, ρ4, et, fun F4 H4 g4 f4 => ?_⟩
            dsimp only
            rw [if_neg Bool.false_ne_true]
            obtain ⟨g5, f5⟩ := g4.wiped vs
            have fa := (f2.trans f3).trans (f4.trans f5)
            obtain ⟨k1, k2, k3⟩ := keepD fa
            rw [ew] at g5 fa k3
            exact ⟨hlt, F4, wipeE ρ4 vs, acc, accD, rest, g5, fc.trans fa, k1, k2, k3, DkR.mono fa.leF ra, by omega, ec, efin⟩
          · rename_i ρ4 et
            refine ⟨F3, ρ2, g3, true, ρ4, et, fun F4 H4 g4 f4 => ?_⟩
            dsimp only
            rw [if_pos rfl]
            split at ec
            · cases ec
            · rename_i yk ρ5 ek
              split at ec
              · cases ec
              · rename_i yd ρ6 ee
                split at ec
                · rename_i c rest2 ρ7 hkey er
                  cases ec
                  refine ⟨F4, ρ4, g4, yk, ρ5, ek, fun v F5 H5 g5 f5 d5 => ⟨F5, ρ5, g5, yd, ρ6, ee, fun v' F6 H6 g6 f6 d6 => ?_⟩⟩
                  obtain rfl := kV_dp d5 hkey
                  obtain ⟨g7, f7⟩ := g6.wiped vs
                  have fa := (f2.trans f3).trans (f4.trans (f5.trans (f6.trans f7)))
                  obtain ⟨k1, k2, k3⟩ := keepD fa
                  have hz : acc.length < sizeLine := by have := jo.sz; omega
                  rw [ew] at g7 fa k3
                  have hl := length_putK acc c v'
                  refine ⟨acc, c, rfl, k1, hz, hlt, F6, wipeE ρ6 vs, putK acc c v', putD accD c yd, rest2, g7.updD k2 k3 (by show (putK acc c v').length ≤ sizeLine; omega), (fc.trans fa).updD hD, upd_same, k2, k3,
                    DkR.put c d6 (DkR.mono fa.leF ra), by omega, er, efin⟩
                · cases ec
    · obtain rfl : i = ds.length := by omega
      rw [List.drop_length] at ec
      cases ec
      have efin : accD = mergeD [] ys := efin
      subst efin
      refine .inl ⟨jo.stop H' (fc.leF.trans gc.le), ?_⟩
      obtain ⟨gu, fu⟩ := g1.unwiped gc fc
      have no : ¬ Owns σ (unwipe ρ1 ρe vs) Dd := fun w => by
        rcases fu.own Dd w with z | z
        · exact (g1.ownThere z).1 hD
        · obtain ⟨j, d, w1, w2⟩ := w
          obtain ⟨b, w3, w4, c⟩ := gu.own j d w1
          rw [w2] at w3; cases w3
          by_cases hj : j ∈ vs
          · rw [unwipe_in hj (by have := (gu.inRange w1).1; rwa [unwipe_len] at this) (by rw [← g1.len, ← gc.len, wipe_length])] at w1
            exact (g1.ownThere ⟨j, d, w1, w2⟩).1 hD
          · rw [unwipe_out hj] at w1
            exact noc ⟨j, d, w1, by rw [wipe_out hj]; exact w2⟩
      exact q Dd Fc H' gu (f1.trans fu) (f1.th _ hD) no hFd (.inl ⟨acc, hDd, ra⟩)
section
variable {nm : Nm}
/-- {k: e for t in it if ..} -/
def mDc (it : CI nm) (scope : Scope) (own : List (Str × Nat)) (t : CG (nm.blk scope)) (c : CTs (nm.blk scope)) (k e : CE (nm.blk scope)) (pos : Pos) (ht : it.tg t.syn) (ok : blkC nm.N nm.sc scope own = true) (hs : (t.sl.all fun i => (own.map (·.2)).contains i) = true) : CM nm where
  syn := .DictComp k.syn e.syn [⟨t.syn, it.syn, c.syn, 0⟩] scope pos
  sem := semDc it.sem t.sem c.sem k.sem e.sem (own.map (·.2))
  pl := rfl
  snd := fun X G => PE.imp (pe_dc G.calm (by rw [G.N]; exact G.nd) (it.snd X G t.syn ht) (by rw [G.N, G.sc]; exact blkOk_by ok) (fun s H C cl fp => t.snd _ (G.blk scope s H C cl fp)) (fun s H C cl fp => c.snd _ (G.blk scope s H C cl fp)) (fun s H C cl fp => k.snd _ (G.blk scope s H C cl fp)) (fun s H C cl fp => e.snd _ (G.blk scope s H C cl fp)) (Pl.folded it.pl _)) fun σ H Q h => tDc_of (subB hs) h
theorem sw_falseD {kx vx : Expr} {gs : List Comprehension} {scope : Scope} {pos py : Pos} {y : Str} {l : Nat} {env : Env} (hy : env.scope.names.lookup y ≠ some .local) : swapsWith (.DictComp kx vx gs scope pos) (some (.Name y py)) l env = pure false := by
  have ky : (env.kindOf y == some NameKind.local) = false := by
    have : env.kindOf y = env.scope.names.lookup y := rfl
    rw [this]
    exact beq_eq_false_iff_ne.mpr hy
  unfold swapsWith
  simp only [ky, Bool.and_false, Bool.false_and]
/-- x = {..}, x a name that is captured -/
def sAsgMC (i : Nat) (x : Str) (e : CM nm) (xpos pos : Pos) (hN : nm.N[i]? = some x) (hl : locB nm x = true) (hio : nm.IO.contains i = false) (hs : ∀ X, Gd nm X → swapsWith e.syn (some (.Name x xpos)) pos.line X.env = pure false) : CS nm where
  syn := .Assign [.Name x xpos] e.syn pos
  sem := semAsgM i e.sem
  snd := fun X G => PS.imp (ps_set (i := i) (by rw [G.N]; exact G.nd) (by rw [G.N]; exact hN) (by rw [G.sc]; exact loc_of hl) (e.snd X G) (hs X G) (G.hf hl)) fun D σ H h => by
    obtain ⟨F, ρ, g, fl, e0, p⟩ := h
    obtain ⟨d, ρ1, e1, e0⟩ := bnd_some e0
    cases e0
    refine ⟨F, ρ, g, d, ρ1, e1, fun a F1 H1 g1 f1 h0 no hf c => ?_⟩
    obtain ⟨g2, f2⟩ := g1.setOwn (d := d) c hf no i f1 h0
    exact p _ F1 H1 g2 f2 (Io.set fun z => by rw [List.contains_iff_mem.mpr z] at hio; cases hio)
end
/-! ### the keys of a dict of one's own walked: it is frozen by that -/
theorem pe_lockF {X : Cx} {e : Expr} {t : TE} (h : PE X e t) : PE X e (fun σ H Q => t σ H fun x H1 => ∃ d u, x = .ref d ∧ H1 d = some u ∧ Mut (some u) ∧ ∀ od, Q x (upd H1 d (.frz od u))) := by
  refine ⟨fun pins s σ H Q I hw => thn (h.run pins s σ _ _ I hw) fun v s1 ⟨x, H1, I2, r, d, u, ex, hd, mu, q⟩ => ?_⟩
  obtain ⟨od, I3⟩ := I2.lock hd mu
  exact ⟨x, _, I3, r, q od⟩
section
variable {K : KW} {F H : Hp} {σ : St} {ρ : En} {a : Addr}
theorem Gs.thawF (g : Gs K F H σ ρ) {i : Nat} {kvs : List (D × D)} (h : ρ[i]? = some (.own (.dict kvs))) (ok : okK kvs = true) (o : Obj) : ∃ a es, σ[i]? = some (some (.ref a)) ∧ H a = some (.dK es) ∧ DkR K F es kvs ∧
    Gs K (upd F a (.frz o (.dK es))) (upd H a (.frz o (.dK es))) σ (ρ.set i (.val (.dict kvs))) ∧ Fw F H σ ρ (upd F a (.frz o (.dK es))) (upd H a (.frz o (.dK es))) σ (ρ.set i (.val (.dict kvs))) := by
  obtain ⟨a, e1, e2, cel⟩ := g.own i _ h
  obtain ⟨es, e3, r⟩ := cel.dk ok
  have hi := (g.inRange h).1
  have s : Same F (upd F a (.frz o (.dK es))) := Same.upd_new e2
  have back : ∀ (j : Nat) (c : D), (ρ.set i (.val (.dict kvs)))[j]? = some (.own c) → j ≠ i ∧ ρ[j]? = some (.own c) := fun j c q => by
    by_cases hj : i = j
    · subst hj
      rw [List.getElem?_set_self hi] at q
      cases q
    · rw [List.getElem?_set_ne hj] at q
      exact ⟨fun z => hj z.symm, q⟩
  have sub : ∀ b, Owns σ (ρ.set i (.val (.dict kvs))) b → Owns σ ρ b ∧ b ≠ a := fun b ⟨j, d, q1, q2⟩ => by
    obtain ⟨hj, q1⟩ := back j d q1
    refine ⟨⟨j, d, q1, q2⟩, fun z => ?_⟩
    subst z
    exact hj (g.inj _ _ _ _ _ q1 h q2 e1)
  refine ⟨a, es, e1, e3, r, ⟨by rw [List.length_set]; exact g.len, fun b u q => ?_, fun b u q => ?_, fun j d q => ?_, fun j d q => ?_, fun j k dj dk b q1 q2 q3 q4 => ?_⟩, ⟨s, fun b n no => ?_, fun b w => .inl (sub b w).1, fun b q => ?_⟩⟩
  · by_cases hb : b = a
    · subst hb; rw [upd_same] at q; cases q; exact upd_same
    · rw [upd_ne hb] at q; rw [upd_ne hb]; exact g.le b u q
  · by_cases hb : b = a
    · subst hb; rw [upd_same] at q; cases q; exact (show szO (.dK es) from g.sz _ _ e3)
    · rw [upd_ne hb] at q; exact g.sz b u q
  · by_cases hj : i = j
    · subst hj
      rw [List.getElem?_set_self hi] at q
      cases q
      exact ⟨_, e1, .dic (.inr ⟨o, upd_same⟩) (DkR.mono s r)⟩
    · rw [List.getElem?_set_ne hj] at q
      obtain ⟨v, q1, q2⟩ := g.val j d q
      exact ⟨v, q1, Dp.mono s q2⟩
  · obtain ⟨hj, q⟩ := back j d q
    obtain ⟨b, q1, q2, c⟩ := g.own j d q
    have hb : b ≠ a := fun z => by
      subst z
      exact hj (g.inj _ _ _ _ _ q h q1 e1)
    exact ⟨b, q1, (upd_ne hb).trans q2, c.mono s (upd_ne hb)⟩
  · exact g.inj j k dj dk b (back j dj q1).2 (back k dk q2).2 q3 q4
  · have hb : b ≠ a := fun z => no (z ▸ ⟨i, _, h, e1⟩)
    exact ⟨upd_ne hb, upd_ne hb⟩
  · by_cases hb : b = a
    · subst hb; rw [upd_same] at q; cases q
    · rwa [upd_ne hb] at q
theorem jok_keys {o : Obj} {es : List (Key × V)} {kvs : List (D × D)} (hz : es.length ≤ sizeLine) (hF : F a = some (.frz o (.dK es))) (r : DkR K F es kvs) : JOk K F (Itk a o es) (kvs.map (·.1)) where
  sz := by rw [List.length_map, ← r.length]; exact hz
  go := fun i H1 hi s => ⟨s _ _ hF, by rw [List.length_map, ← r.length] at hi; exact hi⟩
  stop := fun H1 s => ⟨s _ _ hF, by rw [List.length_map, ← r.length]; exact Nat.le_refl _⟩
  yld := fun i Fc H1 x H' d σ' ρ' sc g1 e y => by
    obtain ⟨rfl, k, v, h1, rfl⟩ := y
    have h2 : (es.map fun kv => kV kv.1)[i]? = some (kV k) := by rw [List.getElem?_map, h1]; rfl
    obtain ⟨d', h3, h4⟩ := DpAll.get' (DkR.keys r) h2
    rw [e] at h3; cases h3
    exact ⟨Fc, g1, Fw.refl, Dp.mono sc h4⟩
end
section
variable {nm : Nm}
def semKeysO (i : Nat) : En → Option (List D × En) := fun ρ => match ρ[i]? with
  | some (.own (.dict kvs)) => if okK kvs = true then some (kvs.map (·.1), ρ.set i (.val (.dict kvs))) else none
  | _ => none
def iKeysO (i : Nat) (x : Str) (pos : Pos) (hN : nm.N[i]? = some x) (hv : visB nm.sc x = true) (hd : (x == ("__debug__" : Str)) = false := by rfl) (hcd : (x == ("__classdict__" : Str)) = false := by rfl) : CI nm where
  syn := .Name x pos
  sem := semKeysO i
  pl := rfl
  tg := fun _ => True
  snd := fun X G t _ => PI.imp (pi_keys (pe_lockF (pe_var (i := i) (by rw [G.N]; exact hN) (by rw [G.sc]; exact vis_of hv) hd hcd))) fun σ H R h => by
    obtain ⟨F, ρ, g, ds, ρ', e0, q⟩ := h
    unfold semKeysO at e0
    split at e0
    · rename_i kvs hc
      obtain ⟨ok, e0⟩ := ite_sm e0
      cases e0
      obtain ⟨a, es, e1, e2, r, _⟩ := g.thawF hc ok { cls := .none, data := .plain }
      refine ⟨.ref a, e1, a, .dK es, rfl, e2, trivial, fun o => ⟨a, o, rfl, .inl ⟨es, upd_same, ?_⟩⟩⟩
      obtain ⟨a', es', e1', e2', r', g2, f2⟩ := g.thawF hc ok o
      rw [e1] at e1'; cases e1'
      rw [e2] at e2'; cases e2'
      exact q _ _ _ g2 f2 (jok_keys (g.sz _ _ e2) upd_same (DkR.mono (Same.upd_new (by
        obtain ⟨b, z1, z2, _⟩ := g.own i _ hc
        rw [e1] at z1; cases z1
        exact z2)) r))
    · cases e0
/-! ### xs.index(x), whole numbers -/
def asInts : List D → Option (List Int)
  | [] => some []
  | .int i :: r => (asInts r).map (i :: ·)
  | _ => none
theorem asInts_of : ∀ {ds : List D} {is : List Int}, asInts ds = some is → ds = is.map .int
  | [], is, h => by cases h; rfl
  | d :: r, is, h => by
    cases d <;> try (cases h; done)
    rename_i i
    obtain ⟨js, h1, rfl⟩ := Option.map_eq_some_iff.mp (show (asInts r).map (i :: ·) = some is from h)
    rw [asInts_of h1]
    rfl
def dIndex : D → D → Option D
  | .list ds, .int k => match asInts ds with
    | some is => if is.contains k = true then some (.int (is.findIdx (· == k) : Nat)) else none
    | none => none
  | _, _ => none
theorem dpInts_V {K : KW} {F : Hp} : ∀ {vs : List V} {is : List Int}, DpAll K F vs (is.map .int) → vs = is.map V.int
  | _, [], .nil => rfl
  | _, i :: r, .cons q t => by
    cases q
    rw [dpInts_V t]
    rfl
def isL : D → Bool
  | .list _ => true
  | _ => false
def semIndex (a b : En → Option (D × En)) : En → Option (D × En) := fun ρ => bnd (a ρ) fun x ρ1 => if isL x = true then bnd (b ρ1) fun y ρ2 => (dIndex x y).map fun d => (d, ρ2) else none
theorem flat_ints (is : List Int) : (is.map V.int).all flatV = true := by
  rw [List.all_map]
  exact List.all_eq_true.mpr fun _ _ => rfl
def eIndex (a b : CE nm) (apos cpos : Pos) (hp : (apos.endLine == cpos.line) = true) (hb : ∀ env : Env, attributeBase a.syn "index" env (eval a.syn env) = eval a.syn env := by intros; rfl) : CE nm where
  syn := .Call (.Attribute a.syn "index" apos) [b.syn] [] cpos
  sem := semIndex a.sem b.sem
  pl := rfl
  snd := fun X G => PE.imp (pe_bm PySem.F.plainAttrs_list PySem.F.slot_list_index PySem.F.type_list_index mt_index (a.snd X G) (pa_cons (b.snd X G) pa_nil (Pl.star b.pl _ _)) (hb X.env) (few1 b.pl) hp (Pl.star b.pl _ _) rfl) fun σ H Q h => by
    obtain ⟨F, ρ, g, r, ρ', e0, q⟩ := h
    obtain ⟨x, ρ1, e1, e0⟩ := bnd_some e0
    obtain ⟨hx, e0⟩ := ite_sm e0
    obtain ⟨y, ρ2, e2, e0⟩ := bnd_some e0
    obtain ⟨d, e3, e4⟩ := Option.map_eq_some_iff.mp e0
    cases e4
    cases x <;> try (cases hx; done)
    rename_i ds
    cases y <;> try (cases e3; done)
    rename_i k
    unfold dIndex at e3
    dsimp only at e3
    split at e3
    · rename_i is his
      obtain ⟨hk, e3⟩ := ite_sm e3
      cases e3
      obtain rfl := asInts_of his
      refine ⟨F, ρ, g, _, ρ1, e1, fun v F1 H1 g1 f1 d1 => ?_⟩
      obtain ⟨p, xs, rfl, qa, ra⟩ := d1.lstOf
      obtain rfl := dpInts_V ra
      refine ⟨.inl ⟨rfl, _, .inl (Rd.up qa g1.le)⟩, F1, ρ1, g1, _, _, e2, fun v2 F2 H2 g2 f2 d2 => ?_⟩
      cases d2
      have hm : k ∈ is := List.contains_iff_mem.mp hk
      have hlt : is.findIdx (· == k) < is.length := List.findIdx_lt_length_of_exists ⟨k, hm, beq_self_eq_true k⟩
      refine ⟨p, is.map V.int, .int k, is.findIdx (· == k), .int is[is.findIdx (· == k)], rfl, rfl, .inl (Rd.up (Rd.up qa f2.leF) g2.le), rfl, flat_ints is, by rw [List.getElem?_map, List.getElem?_eq_getElem hlt]; rfl, List.findIdx_getElem (w := hlt), fun m z' hm' hz' => ?_, q _ F2 H2 g2 (f1.trans f2) (.int _)⟩
      rw [List.getElem?_map] at hz'
      obtain ⟨i, h1, rfl⟩ := Option.map_eq_some_iff.mp hz'
      obtain ⟨h2, h3⟩ := List.getElem?_eq_some_iff.mp h1
      have := List.not_of_lt_findIdx hm'
      rw [h3] at this
      show (i == k) = false
      exact this
    · cases e3
end
/-! ### sum(xs), whole numbers -/
def dSum : D → Option D
  | .list ds => (asInts ds).map fun is => .int is.sum
  | _ => none
def bSum : B1 "sum" where
  f := dSum
  snd := .inl ⟨"sum", by decide +kernel, fun X hc hr pins s σ0 H xs us Q I r h => by
    obtain ⟨F, σ, ρ, x, dx, d, rfl, g, px, e, q⟩ := h
    cases dx <;> try (cases e; done)
    rename_i ds
    obtain ⟨is, e1, rfl⟩ := Option.map_eq_some_iff.mp (show (asInts ds).map _ = some d from e)
    obtain rfl := asInts_of e1
    obtain ⟨a, l, rfl, qa, ra⟩ := px.lstOf
    obtain rfl := dpInts_V ra
    exact cr_sum hc pins s σ0 H _ us Q I r ⟨a, is, rfl, .inl (Rd.up qa g.le), q _ F H g Fw.refl (.int _)⟩⟩
end FL
end L2

/-! FL23: i << j; len of a keyed dict -/
namespace L2
namespace FL
open PySem PySem.Spec PyProof.Rows
def fShl : D → D → Option D
  | .int i, .int j => if 0 ≤ j ∧ j ≤ 1000000 ∧ i.natAbs < 2 ^ 64 then some (.int (i * 2 ^ j.toNat)) else none
  | _, _ => none
section
variable {X : Cx}
theorem od_shl : OpD X (binaryOp .LShift) fShl := by
  intro pins s σ0 H x y v u Q I rx ry h
  obtain ⟨F, σ, ρ, dx, dy, d, g, px, py, e, q⟩ := h
  unfold fShl at e
  split at e
  · split at e <;> cases e
    cases px; cases py
    exact op_shl pins s σ0 H _ _ v u Q I rx ry ⟨_, _, rfl, rfl, by assumption, q _ F H g Fw.refl (.int _)⟩
  · cases e
end
section
variable {nm : Nm}
abbrev eShl (a b : CE nm) (pos : Pos) : CE nm := eBin .LShift fShl (fun _ _ => od_shl) a b pos
end
theorem DtR.length' {K : KW} {F : Hp} : ∀ {es : List NkE} {kvs : List (D × D)}, DtR K F es kvs → es.length = kvs.length
  | _, _, .nil => rfl
  | _, _, .cons _ _ _ _ _ t => congrArg (· + 1) (DtR.length' t)
/-- len(d) of a keyed dict, else as dLen -/
def dLenK : D → Option D
  | .dict ((.bool true, .none) :: kvs) => some (.int kvs.length)
  | _ => none
def bLenK : B1 "len" where
  f := dLenK
  snd := .inl ⟨"len", by decide +kernel, fun X _ _ pins s σ0 H xs us Q I r h => by
    obtain ⟨F, σ, ρ, x, dx, d, rfl, g, px, e, q⟩ := h
    unfold dLenK at e
    split at e
    · cases e
      obtain ⟨a, es, rfl, qa, ra⟩ := px.ditOf
      obtain ⟨u, rfl, ru⟩ := vals1 r
      obtain rfl : u = .ref a := ru
      obtain ⟨h1, h2, m⟩ := kd_of I g.le (g.le _ _ qa) ra
      refine call_len_dictH h1 m (by rw [sizeLine_eq] at h2; omega) ?_
      refine ⟨.int es.length, H, (I.tok _).tok _, ⟨_, rfl⟩, ?_⟩
      rw [DtR.length' ra]
      exact q _ F H g Fw.refl (.int _)
    · cases e⟩
theorem fShl_i {i j : Int} : fShl (.int i) (.int j) = if 0 ≤ j ∧ j ≤ 1000000 ∧ i.natAbs < 2 ^ 64 then some (.int (i * 2 ^ j.toNat)) else none := rfl
end FL
end L2

set_option maxHeartbeats 2000000
/-! FL24: sets of whole numbers: len({e for x in ..}), sorted(set(list)) -/
namespace L2
namespace FL
open PySem PySem.Spec PyProof.Rows
section
variable {X : Cx}
abbrev noneIn : Int → Bool := fun _ => false
abbrev plusIn (S : Int → Bool) (c : Int) : Int → Bool := fun j => S j || decide (j = c)
abbrev sizeUp (S : Int → Bool) (n : Nat) (c : Int) : Nat := if S c = true then n else n + 1
/-- one more number into a set -/
theorem set_put {ps : List (Addr × Obj)} {σ : St} {H : Hp} {s : Shared} {E : Value → Shared → Prop} {D : Addr} {S : Int → Bool} {n : Nat} {c : Int} {t : Tok} {Q : Value → Shared → Prop} (J : Inv X ps σ H s) (hD : H D = some (SetO X.w D S n)) (hn : n + 1 < scanBound)
    (q : ∀ s', Inv X ps σ (upd H D (SetO X.w D (plusIn S c) (sizeUp S n c))) s' → Q .none s') : wpAny (model X.prog X.w) X.A (call (.builtin "set.add") [.ref D, .int c t]) Q E s := by
  refine setR_add (setO_get J hD) hn fun h' kept now => q _ (J.write (e := D) (t' := s.toks + 1) (by rw [hD]; exact True.intro) (.inl rfl) (fun b u nb hu => (kept.2 b nb).trans hu) ?_ (setO_new now))
  obtain ⟨o, _, _, _, ho, _⟩ := now
  exact ⟨o, ho⟩
/-- what one turn of {e for ..} owes -/
def turnSet (w : World) (g : TG) (tt : TT) (te : TE) (vs : List Nat) (σ : St) (D : Addr) (x : V) (H' : Hp) (Nx : Hp → Prop) : Prop :=
  g x (wipe σ vs) H' fun σ2 H2 => wipe σ2 vs = wipe σ vs ∧ tt σ2 H2 fun b H3 =>
    if b = true then te σ2 H3 fun y H4 => ∃ (c : Int) (S : Int → Bool) (n : Nat), y = .int c ∧ H4 D = some (SetO w D S n) ∧ n + 1 < scanBound ∧ Nx (upd H4 D (SetO w D (plusIn S c) (sizeUp S n c))) else Nx H3
def tSet (w : World) (wi : TI) (g : TG) (tt : TT) (te : TE) (vs : List Nat) : TE := fun σ H Q => wi σ H fun J H1 => ∀ D, H1 D = none → ∃ W : Nat → Nat → Hp → Prop, (∃ m, W 0 m (upd H1 D (SetO w D noneIn 0))) ∧ ∀ i m H, W i m H →
  (J.stop i H ∧ Q (.ref D) H) ∨ (J.go i H ∧ ∃ Nx : Hp → Prop, (∀ H', Nx H' → ∃ m', m' < m ∧ W (i + 1) m' H') ∧ ∀ x H', J.yld i H x H' → turnSet w g tt te vs σ D x H' Nx)
/-- a set comprehension of whole numbers, as a value -/
theorem pe_set {elt tg iter : Expr} {ifs : List Expr} {sc : Scope} {own : List (Str × Nat)} {pos : Pos} {wi : TI} {g : TG} {tt : TT} {te : TE} (hc : X.calm = true) (hN : X.N.Nodup) (hi : PI X tg iter wi) (ok : BlkOk X.N X.env.scope sc own)
    (hg : ∀ (s : Shared) (H : Hp) (C : Addr) (cl : List (Str × Addr)) (fp : List Addr), PG (X.blk s H sc (compEnvC sc cl C X.env) fp) tg g)
    (ht : ∀ (s : Shared) (H : Hp) (C : Addr) (cl : List (Str × Addr)) (fp : List Addr), PTs (X.blk s H sc (compEnvC sc cl C X.env) fp) ifs tt)
    (he : ∀ (s : Shared) (H : Hp) (C : Addr) (cl : List (Str × Addr)) (fp : List Addr), PE (X.blk s H sc (compEnvC sc cl C X.env) fp) elt te) (hs : ∀ x, foldedSetIterable iter X.env x = pure x) :
    PE X (.SetComp elt [⟨tg, iter, ifs, 0⟩] sc pos) (tSet X.w wi g tt te (own.map (·.2))) := by
  refine ⟨fun pins s σ H Q I h => ?_⟩
  rw [PpSet.eval_SetComp]
  have clo := closure_ok (scope := sc) (env := X.env) fun y hy e => by
    rcases ok.free y hy e with k | k
    · exact I.ok.has _ (.inl k)
    · exact I.ok.has _ (.inr k)
  refine wpAny_comprehension_free (use := none) rfl hs clo ok.kind (fun y hy e => by rw [ok.uniq y hy, e]) (thn (hi.run pins s σ H _ I h) fun xv s1 hx => thn hx fun itv s2 h2 => ?_)
  obtain ⟨it, fp, tn, J, H2, rfl, I2, T, st2, f2, q⟩ := h2
  refine PpSet.newSet_ok (newEnv_comp ?_)
  -- the new set stands at D
  obtain ⟨D, hD⟩ : ∃ D, s2.heap.objs.size = D := ⟨_, rfl⟩
  have hDn : H2 D = none := I2.hok.fresh (Nat.le_of_eq hD)
  obtain ⟨W, ⟨m0, w0⟩, turn⟩ := q D hDn
  rw [hD]
  obtain ⟨s3, hs3⟩ : ∃ s3 : Shared, s3 = { s2 with heap := s2.heap.push { cls := .type "set", dict := none, data := .set #[] 0 (.fresh 0 0 (!X.w.params.followText "set-order")) } } := ⟨_, rfl⟩
  have h3 : s3.heap = s2.heap.push { cls := .type "set", dict := none, data := .set #[] 0 (.fresh 0 0 (!X.w.params.followText "set-order")) } := by rw [hs3]
  have old3 : ∀ b o, s2.heap.get? b = some o → s3.heap.get? b = some o := fun b o e => by rw [h3]; exact Heap.get?_push_of_some _ e
  have I3 : Inv X pins σ (upd H2 D (SetO X.w D noneIn 0)) s3 := by
    rw [hs3, ← hD]
    exact I2.laid (t' := s2.toks) (fun b o e => Heap.get?_push_of_some _ e) (Nat.le_refl _) (setO_new (setR_fresh X.w))
  rw [← hs3]
  have fpOk : ∀ b ∈ fp, FpOk X pins (upd H2 D (SetO X.w D noneIn 0)) b ∧ b < s3.heap.objs.size := fun b hb => by
    obtain ⟨o, e, _⟩ := T.obj _ _ st2 b hb
    have lt := Heap.lt_size e
    have ne : b ≠ D := by rw [← hD]; exact Nat.ne_of_lt lt
    exact ⟨⟨(upd_ne ne).trans (f2 b hb).1, (f2 b hb).2⟩, by rw [h3, Heap.size_push]; exact Nat.lt_succ_of_lt lt⟩
  have st3 : tn 0 s3.heap := T.keep _ _ _ st2 fun b _ o e => old3 b o e
  have I4 := block_start I3 ok hN fpOk
  -- the block's env
  obtain ⟨ce, hce⟩ : ∃ ce : Env, ce = compEnvC sc (cellsFrom (s3.heap.objs.size + 1) sc.names (cloFrom X.env.cells sc.names [])) s3.heap.objs.size X.env := ⟨_, rfl⟩
  have cL : ce.locals = s3.heap.objs.size := by rw [hce]; rfl
  have pg := hg s3 (upd H2 D (SetO X.w D noneIn 0)) s3.heap.objs.size (cellsFrom (s3.heap.objs.size + 1) sc.names (cloFrom X.env.cells sc.names [])) fp
  have pt := ht s3 (upd H2 D (SetO X.w D noneIn 0)) s3.heap.objs.size (cellsFrom (s3.heap.objs.size + 1) sc.names (cloFrom X.env.cells sc.names [])) fp
  have pe := he s3 (upd H2 D (SetO X.w D noneIn 0)) s3.heap.objs.size (cellsFrom (s3.heap.objs.size + 1) sc.names (cloFrom X.env.cells sc.names [])) fp
  show codeAny _ _ (.compStart (.SetComp elt [⟨tg, iter, ifs, 0⟩] sc pos) 0 (.ref it) (.ref D) (compEnvC sc (cellsFrom (s3.heap.objs.size + 1) sc.names (cloFrom X.env.cells sc.names [])) s3.heap.objs.size X.env)) (compPost (model X.prog X.w) X.A X.xe none (EP X pins σ Q) (.ref D) s3.heap.objs.size) { s3 with heap := pushCells (s3.heap.push { cls := .type "dict", data := .dict #[] }) sc.names }
  rw [← hce] at I4 pg pt pe ⊢
  obtain ⟨H3, hH3⟩ : ∃ H3, H3 = upd H2 D (SetO X.w D noneIn 0) := ⟨_, rfl⟩
  have fp0 : ∀ b ∈ fp, H3 b = none := fun b hb => by rw [hH3]; exact (fpOk b hb).1.1
  rw [← hH3] at I3 I4 pg pt pe w0 fpOk
  obtain ⟨s4, hs4⟩ : ∃ s4 : Shared, s4 = { s3 with heap := pushCells (s3.heap.push { cls := .type "dict", data := .dict #[] }) sc.names } := ⟨_, rfl⟩
  have st4 : tn 0 s4.heap := T.keep _ _ _ st3 fun b _ o e => by rw [hs4]; exact pushCells_keeps _ _ _ _ (Heap.get?_push_of_some _ e)
  rw [← hs4] at I4 ⊢
  have stay : ∀ {σ' : St} {H' : Hp} {s' : Shared}, Inv (X.blk s3 H3 sc ce fp) [] σ' H' s' → (∀ b ∈ fp, H' b = none) → ∀ b ∈ fp, FpOk (X.blk s3 H3 sc ce fp) [] H' b := fun {σ' H' s'} I' n0 b hb => ⟨n0 b hb, (I'.ok.exf b hb).1, I'.ok.exfs b hb, .inl hb, fun x c e => (I'.ok.exf b hb).2 x c e, fun p hp => by cases hp⟩
  let Bk : Cx := X.blk s3 H3 sc ce fp
  let P : Nat → Shared → Prop := fun n s' => ∃ i H', Inv Bk [] (wipe σ (own.map (·.2))) H' s' ∧ tn i s'.heap ∧ (∀ b ∈ fp, H' b = none) ∧ W i n H'
  refine PpSet.codeAny_compStart_set ?_ (T.self X.A 0 _ _ _ st4 ?_) <;> (
    refine PpSet.compLoopS_any P ?_ m0 ⟨0, H3, I4, st4, fp0, w0⟩
    rintro n s5 ⟨i, H5, I5, st5, n5, w5⟩
    rcases turn i n H5 w5 with ⟨stop, qq⟩ | ⟨go, Nx, hNx, step⟩
    · refine thnF (T.done Bk rfl rfl rfl hc i [] s5 _ H5 (fun _ _ => False) I5 (stay I5 n5) st5 stop) fun r s6 ⟨hr, I6⟩ => ?_
      subst hr
      have I7 : Inv X pins σ H5 s6 := I3.call' (ch := fp) I6.os I6.base I6.hok I6.bare fun b hb => by
        obtain ⟨⟨_, a1, a2, a3, a4, a5⟩, _⟩ := fpOk b hb
        exact ⟨a3, a1, a4, a5⟩
      have nC : H5 s3.heap.objs.size = none := cL ▸ (show H5 ce.locals = none from I6.free)
      obtain ⟨m, hm, _⟩ := I6.loc
      have hm : s6.heap.Ns s3.heap.objs.size m := cL ▸ (show s6.heap.Ns ce.locals m from hm)
      obtain ⟨z0, z1, z2, z3, z4, z5⟩ := I3.fpOk (Nat.le_refl _) nC
      exact ⟨m, hm, fun h'' sb => ⟨.ref D, H5, I7.turned (t' := s6.toks) (fun b o hb e => (sb.2 b hb).trans e) z0 z1 z3 z4 z5, rfl, qq⟩⟩
    · refine thnF (T.item Bk rfl rfl rfl hc i [] s5 _ H5 (fun _ _ => False) I5 (stay I5 n5) st5 go) fun r s6 ⟨u, hr, h6⟩ => ?_
      subst hr
      refine thnF h6 fun _ s7 ⟨x, H7, I7, r7, y7, st7, n7⟩ => ?_
      refine thnF (pg.run _ s7 _ H7 x u _ (I7.pinned (stay I7 n7) (T.obj _ _ st7)) r7 (step x H7 y7)) fun _ s8 ⟨σ8, H8, I8, hw8, q8⟩ => ?_
      refine thnF (pt.run _ s8 σ8 H8 _ I8 q8) fun b s9 ⟨H9, I9, q9⟩ => ?_
      have back : ∀ {s' : Shared} {H' : Hp}, Inv Bk ([] ++ pinsAt fp s7.heap) σ8 H' s' → Nx H' → ∃ m, m < n ∧ P m s' := fun {s' H'} I' nx => by
        obtain ⟨m', lt, w'⟩ := hNx H' nx
        have held : ∀ b ∈ fp, ∀ o, s7.heap.get? b = some o → s'.heap.get? b = some o ∧ H' b = none := fun b hb o e => by
          have z := I'.pin (b, o) (List.mem_append_right _ (List.mem_append_right _ (mem_pinsAt hb e)))
          exact ⟨z.1, z.2.1⟩
        refine ⟨m', lt, i + 1, H', (I'.unpinned (pins := [])).weak (by rw [← hw8, wipe_length]) (fun j v e => ?_), T.keep _ _ _ st7 fun b hb o e => (held b hb o e).1, fun b hb => ?_, w'⟩
        · exact (wipe_some (hw8 ▸ e)).1
        · obtain ⟨o, e, _⟩ := T.obj _ _ st7 b hb
          exact (held b hb o e).2
      cases b with
      | false =>
        rw [if_neg Bool.false_ne_true] at q9 ⊢
        exact back I9 q9
      | true =>
        rw [if_pos rfl] at q9 ⊢
        refine thnF (pe.run _ s9 σ8 H9 _ I9 q9) fun z s10 ⟨yv, H10, I10, r10, c, S0, n0, ey, hD10, room, nx⟩ => ?_
        subst ey
        obtain ⟨tk, rfl⟩ := r10
        exact set_put (X := Bk) I10 hD10 room fun s11 I11 => back I11 nx)
end
/-! ### set(list of whole numbers) -/
section
variable {P : Program} {w : World} {A : Around} {E : Value → Shared → Prop} {s : Shared}
/-- the new set's object -/
abbrev emptySet (w : World) : Obj := { cls := .type "set", dict := none, data := .set #[] 0 (.fresh 0 0 (!w.params.followText "set-order")) }
theorem set_of_ints {l : Addr} {its : Array Value} (ns : List Int) {Q : Value → Shared → Prop} (hh : A.handled = none) (hl : s.heap.IsList l its) (hi : IntsAre its.toList ns) (hz : ns.length + 1 < scanBound)
    (q : ∀ (h' : Heap) (tk c : Nat), SetR w h' s.heap.objs.size (fun j => decide (j ∈ ns)) c → c ≤ ns.length → (∀ b o, s.heap.get? b = some o → h'.get? b = some o) → Q (.ref s.heap.objs.size) { s with heap := h', toks := tk }) :
    wpAny (model P w) A (call (.type "set") [.ref l]) Q E s := by
  have esz : its.size = ns.length := by have := IntsAre.length hi; rwa [Array.length_toList] at this
  obtain ⟨c0, tl0, mro⟩ := F.called_set.mro
  have made := F.called_set.made
  have sub := F.called_set.sub
  refine wpAny_call (codeAny_of_tree ?_)
  show wpAny _ _ (callAny (.type "set") _) _ _ _
  refine wpAny_pure ⟨Code.quiet_builtin _ (by decide +kernel), codeAny_builtin F.entry_type_call ?_⟩; rw [Around.under_plain (weight_type_call_type "set" [.ref l] []) rfl]
  have nt := F.called_set.notType
  have cc := F.called_set.canCreate
  have tc := F.typeCall_set_1 (.ref l)
  repeat (any_goals (first | assumption | wp_step))
  refine codeAny_mono (code_set_led1 (.ref l) (E := E) (Q₁ := fun r s1 => r = .ref s.heap.objs.size ∧ s1 = { s with heap := s.heap.push (emptySet w) }) ⟨rfl, rfl⟩) fun r s1 hr => ?_
  cases r with
  | error e => exact hr
  | ok fl =>
    cases fl with
    | ret obj =>
      obtain ⟨rfl, rfl⟩ := hr
      have at0 : (s.heap.push (emptySet w)).get? s.heap.objs.size = some (emptySet w) := Heap.get?_push_size _ rfl
      have ty0 : Shared.TypeIs { s with heap := s.heap.push (emptySet w) } (.ref s.heap.objs.size) "set" := ⟨_, at0, rfl⟩
      have lk := F.called_set.init.lookup
      have bd := F.called_set.init.bind (.ref s.heap.objs.size)
      repeat (any_goals (first | assumption | wp_step))
      refine codeAny_mono (codeAny_call_builtin (R := wants (fun r s2 => r = .none ∧ ∃ h' tk c, s2 = { s with heap := h', toks := tk } ∧ SetR w h' s.heap.objs.size (fun j => decide (j ∈ ns)) c ∧ c ≤ ns.length ∧ ∀ b o, s.heap.get? b = some o → h'.get? b = some o) E) F.called_set.init.plain F.entry_set_init (check_set_init_1 ty0 ?_)) fun r2 s2 hr2 => ?_
      · obtain ⟨ol, hol, hcl, nl, hdl⟩ := hl
        obtain ⟨ocls, odict, odata, oslots⟩ := ol
        simp only at hcl hdl; subst hcl; subst hdl
        have hol' : (s.heap.push (emptySet w)).get? l = some { cls := .type "list", dict := odict, data := .seq its nl, slots := oslots } := Heap.get?_push_of_some _ hol
        have hsls := F.sub_list_set; have hslf := F.sub_list_frozenset
        have hne : (Value.type "list" == Value.type "dict") = false := by decide
        have isl : (s.heap.push (emptySet w)).IsList l its := ⟨_, hol', rfl, nl, rfl⟩
        unfold Builtin.«set.__init__» noKeywords Builtin.Frozenset.updateFrom; generalize hPI : pyIter = PI
        wp_walk
        subst hPI
        refine wpAny_pyIter_list isl (wpAny_bind (wpAny_runValue ?_))
        have lt := Heap.lt_size hol
        have h3 : A.in1.in1.in1.handled = none := by simp [hh]
        have z1 : (s.heap.push (emptySet w)).objs.size = s.heap.objs.size + 1 := Heap.size_push ..
        have nI : l ≠ (s.heap.push (emptySet w)).objs.size := by rw [z1]; exact Nat.ne_of_lt (Nat.lt_succ_of_lt lt)
        have nS : s.heap.objs.size ∉ [(s.heap.push (emptySet w)).objs.size, l] := by
          rw [z1]; simp only [List.mem_cons, List.not_mem_nil, or_false, not_or]; exact ⟨Nat.ne_of_lt (Nat.lt_succ_self _), Nat.ne_of_gt lt⟩
        refine set_update_ints ((Walks.list h3 _ l nI its).toS) s.heap.objs.size nS ns esz hz (fun i v hv => ?_) (its.size - 0) 0 _ (by omega) (Nat.zero_le _) ⟨⟨_, Heap.get?_push_size _ rfl, rfl, rfl⟩, isl.push _⟩ ?h0 ?hR
        · have hlt : i < ns.length := by rw [← esz]; exact (Array.getElem?_eq_some_iff.mp hv).1
          obtain ⟨t, e⟩ := PyProof.Rows.IntsAre.int_at hi i v (by rw [Array.getElem?_toList]; exact hv)
          exact ⟨ns[i], t, List.getElem?_eq_getElem hlt, by rw [e, List.getD_eq_getElem?_getD, List.getElem?_eq_getElem hlt] <;> rfl⟩
        case h0 => exact ⟨0, Nat.le_refl 0, setR_new_at (Heap.get?_push_of_some _ at0)⟩
        case hR =>
          intro s' c' hm hc' hS'
          obtain ⟨h', g2, d', tk', os'⟩ := s'
          obtain rfl : g2 = s.gens := hm.gens
          obtain rfl : d' = s.drawn := hm.drawn
          obtain rfl : os' = s.os := hm.os
          refine wpAny_pure (wpAny_pure ⟨rfl, h', tk', c', rfl, hS', by omega, fun b o e => ?_⟩)
          have hb0 := Heap.lt_size e
          exact hm.heap b o (by rw [z1]; simp only [List.mem_cons, List.not_mem_nil, or_false, not_or]; exact ⟨Nat.ne_of_lt hb0, Nat.ne_of_lt (Nat.lt_succ_of_lt hb0)⟩) (Heap.get?_push_of_some _ (Heap.get?_push_of_some _ e))
      · cases r2 with
        | error e => exact hr2
        | ok fl2 =>
          cases fl2 with
          | ret r =>
            obtain ⟨rfl, h', tk, c, rfl, hS', hc', hk'⟩ := hr2
            repeat (any_goals (first | assumption | wp_step))
            exact q _ _ _ hS' hc' hk'
          | _ => exact hr2.elim
    | _ => exact hr.elim
end
section
variable {X : Cx}
/-- set(x) of a list of whole numbers -/
def rSetL (K : PySem.W.Frag) (w : World) : List V → Hp → VK → Prop := fun xs H Q => ∃ (l : Addr) (ns : List Int), xs = [.ref l] ∧ SqL K H l (ns.map V.int) ∧ ns.length ≤ 1000 ∧
  ∀ p c, H p = none → c ≤ ns.length → Q (.ref p) (upd H p (SetO w p (fun j => decide (j ∈ ns)) c))
theorem cr_setL (hc : X.calm = true) : CallR X (.type "set") (rSetL X.K X.w) := by
  intro pins s σ H xs us Q I r h
  obtain ⟨l, ns, rfl, hl, hn, q⟩ := h
  obtain rfl := Vals.ref1 r
  obtain ⟨its, rv, pl, hz⟩ := I.list hl
  have hlen : its.length = ns.length := by rw [← rv.length, List.length_map]
  refine set_of_ints ns (I.ok.hd hc) pl.isList (by simpa using ints_of_vals rv) (by unfold scanBound; omega) fun h' tk c hS hcl hk => ?_
  exact ⟨.ref _, _, I.laid (t' := tk) hk (Nat.le_refl _) (setO_new hS), rfl, q _ c (I.hok.fresh (Nat.le_refl _)) hcl⟩
/-- len(s) of a set of whole numbers -/
def rLenSet (w : World) : List V → Hp → VK → Prop := fun xs H Q => ∃ (a : Addr) (S : Int → Bool) (n : Nat), xs = [.ref a] ∧ H a = some (SetO w a S n) ∧ Q (.int (n : Int)) H
theorem cr_lenSet : CallR X (.builtin "len") (rLenSet X.w) := by
  intro pins s σ H xs us Q I r h
  obtain ⟨a, S, n, rfl, ha, q⟩ := h
  obtain rfl := Vals.ref1 r
  obtain ⟨o, es, ep, t, ho, hex, hd, _, _, _, hb, hf, hn, _⟩ := setO_get I ha
  exact call_len_set ho hex hd hf (by rw [hn] at hb ⊢; unfold scanBound at hb; omega) ⟨.int n, H, I.tok _, ⟨_, by rw [hn]⟩, q⟩
end
/-! ### as pieces -/
def addI (l : List Int) (c : Int) : List Int := if l.contains c then l else l ++ [c]
/-- the distinct ones -/
def distI (is : List Int) : List Int := is.foldl addI []
theorem distI_snoc (is : List Int) (c : Int) : distI (is ++ [c]) = addI (distI is) c := by
  unfold distI
  rw [List.foldl_append]
  rfl
theorem addI_has (l : List Int) (c j : Int) : (addI l c).contains j = (l.contains j || decide (j = c)) := by
  unfold addI
  split
  · rename_i h
    by_cases e : j = c
    · subst e; rw [h]; simp
    · simp [e]
  · rw [Bool.eq_iff_iff]
    simp
theorem addI_len (l : List Int) (c : Int) : (addI l c).length = if l.contains c = true then l.length else l.length + 1 := by
  unfold addI
  split <;> simp
theorem distI_len (is : List Int) : (distI is).length ≤ is.length := by
  have go : ∀ (is l : List Int), (is.foldl addI l).length ≤ l.length + is.length := by
    intro is
    induction is with
    | nil => intro l; simp
    | cons c is ih =>
      intro l
      rw [List.foldl_cons]
      have h1 := ih (addI l c)
      have h2 := addI_len l c
      rw [List.length_cons]
      split at h2 <;> omega
  have h := go is []
  rw [List.length_nil, Nat.zero_add] at h
  exact h
def semLenSet (it : En → Option (List D × En)) (g : D → En → Option En) (t : En → Option (Bool × En)) (e : En → Option (D × En)) (vs : List Nat) : En → Option (D × En) := fun ρ => bnd (semLc it g t e vs ρ) fun ys ρ1 => match asInts ys with
  | some is => if is.length ≤ 1000 then some (.int ((distI is).length : Nat), ρ1) else none
  | none => none
theorem asInts_app : ∀ {a b : List D} {is : List Int}, asInts (a ++ b) = some is → ∃ u v, asInts a = some u ∧ asInts b = some v ∧ is = u ++ v
  | [], b, is, h => ⟨[], is, rfl, h, rfl⟩
  | x :: a, b, is, h => by
    cases x <;> try (cases h; done)
    obtain ⟨js, h1, rfl⟩ := Option.map_eq_some_iff.mp (show (asInts (a ++ b)).map (_ :: ·) = some is from h)
    obtain ⟨u, v, e1, e2, rfl⟩ := asInts_app h1
    exact ⟨_, v, by unfold asInts; rw [e1]; rfl, e2, rfl⟩
theorem tSet_of {K : KW} {IO : List Nat} {it : En → Option (List D × En)} {gs : D → En → Option En} {sl : List Nat} {ts : En → Option (Bool × En)} {es : En → Option (D × En)} {vs : List Nat} (hs : ∀ i ∈ sl, i ∈ vs) {σ : St} {H : Hp} {Q : VK}
    (h : tE K (semLenSet it gs ts es vs) σ H Q) : tSet K.w (tI K it) (tG K IO sl gs) (tT K ts) (tE K es) vs σ H fun x H' => rLenSet K.w [x] H' Q := by
  obtain ⟨F, ρ, g, fin, ρ', e0, q⟩ := h
  obtain ⟨ys, ρz, ez, e0⟩ := bnd_some e0
  obtain ⟨ds, ρ1, e1, ez⟩ := bnd_some ez
  obtain ⟨ys', ρe, e2, e3⟩ := bnd_some ez
  cases e3
  split at e0
  case h_2 => cases e0
  rename_i is his
  obtain ⟨hz, e0⟩ := ite_sm e0
  cases e0
  refine ⟨F, ρ, g, ds, ρ1, e1, fun J F1 H1 g1 f1 jo => ?_⟩
  intro Dd hD
  obtain ⟨gw, fw⟩ := g1.wiped vs
  refine ⟨fun i m H' => m = ds.length - i ∧ i ≤ ds.length ∧ ∃ Fc ρc acc rest r, Gs K Fc H' (wipe σ vs) ρc ∧ Fw F1 H1 (wipe σ vs) (wipeE ρ1 vs) Fc H' (wipe σ vs) ρc ∧ H' Dd = some (SetO K.w Dd (fun j => (distI acc).contains j) (distI acc).length) ∧ Fc Dd = none ∧ ¬ Owns (wipe σ vs) ρc Dd ∧
      lcS gs ts es vs (ds.drop i) ρc = some (rest, ρe) ∧ asInts rest = some r ∧ acc ++ r = is, ⟨ds.length, by simp, Nat.zero_le _, F1, wipeE ρ1 vs, [], ys, is, ?_⟩, ?_⟩
  · obtain ⟨ga, fa⟩ := gw.alloc (o := SetO K.w Dd noneIn 0) hD trivial
    have e : (fun j : Int => (distI []).contains j) = noneIn := rfl
    rw [e]
    exact ⟨ga, fa, upd_same, gw.Fnone hD, fun w => (gw.ownThere w).1 hD, by rw [List.drop_zero]; exact e2, his, rfl⟩
  · rintro i m H' ⟨rfl, hi, Fc, ρc, acc, rest, r, gc, fc, hDd, hFd, noc, ec, er0, efin⟩
    by_cases hlt : i < ds.length
    · refine .inr ⟨jo.go i H' hlt (fc.leF.trans gc.le), fun H2 => i + 1 ≤ ds.length ∧ ∃ Fc ρc acc rest r, Gs K Fc H2 (wipe σ vs) ρc ∧ Fw F1 H1 (wipe σ vs) (wipeE ρ1 vs) Fc H2 (wipe σ vs) ρc ∧ H2 Dd = some (SetO K.w Dd (fun j => (distI acc).contains j) (distI acc).length) ∧ Fc Dd = none ∧ ¬ Owns (wipe σ vs) ρc Dd ∧
        lcS gs ts es vs (ds.drop (i + 1)) ρc = some (rest, ρe) ∧ asInts rest = some r ∧ acc ++ r = is, ?_, ?_⟩
      · rintro H2 ⟨h1, rest'⟩
        exact ⟨ds.length - (i + 1), by omega, rfl, h1, rest'⟩
      · intro x H2 y
        obtain ⟨F2, g2, f2, d2⟩ := jo.yld i Fc H' x H2 ds[i] (wipe σ vs) ρc fc.leF gc (List.getElem?_eq_getElem hlt) y
        rw [List.drop_eq_getElem_cons hlt] at ec
        unfold lcS at ec
        split at ec
        · cases ec
        · rename_i ρ2 eg
          refine ⟨F2, ρc, ds[i], g2, d2, ρ2, eg, fun σ3 F3 H3 g3 f3 i3 s3 l3 => ?_⟩
          have ew : wipe σ3 vs = wipe σ vs := wipe_eq s3 hs (by rw [l3, wipe_length])
          refine ⟨ew, ?_⟩
          have keepD : ∀ {F4 H4 : Hp} {σ4 : St} {ρ4 : En}, Fw Fc H' (wipe σ vs) ρc F4 H4 σ4 ρ4 → H4 Dd = some (SetO K.w Dd (fun j => (distI acc).contains j) (distI acc).length) ∧ F4 Dd = none ∧ ¬ Owns σ4 ρ4 Dd := fun {F4 H4 σ4 ρ4} f => by
            obtain ⟨k1, k2⟩ := f.keep Dd (by rw [hDd]; exact fun z => nomatch z) noc
            refine ⟨k1.trans hDd, k2.trans hFd, fun w => ?_⟩
            rcases f.own Dd w with w | w
            · exact noc w
            · rw [hDd] at w; cases w
          split at ec
          · cases ec
          · rename_i ρ4 et
            refine ⟨F3, ρ2, g3, false, ρ4, et, fun F4 H4 g4 f4 => ?_⟩
            dsimp only
            rw [if_neg Bool.false_ne_true]
            obtain ⟨g5, f5⟩ := g4.wiped vs
            have fa := (f2.trans f3).trans (f4.trans f5)
            obtain ⟨k1, k2, k3⟩ := keepD fa
            rw [ew] at g5 fa k3
            exact ⟨hlt, F4, wipeE ρ4 vs, acc, rest, r, g5, fc.trans fa, k1, k2, k3, ec, er0, efin⟩
          · rename_i ρ4 et
            refine ⟨F3, ρ2, g3, true, ρ4, et, fun F4 H4 g4 f4 => ?_⟩
            dsimp only
            rw [if_pos rfl]
            split at ec
            · cases ec
            · rename_i yd ρ5 ee
              split at ec
              · cases ec
              · rename_i rest2 ρ6 er
                cases ec
                obtain ⟨u, r2, h1, h2, h3⟩ := asInts_app (a := [yd]) (b := rest2) er0
                obtain ⟨c, rfl, rfl⟩ : ∃ c, yd = .int c ∧ u = [c] := by
                  cases yd <;> try (cases h1; done)
                  rename_i c
                  cases h1
                  exact ⟨c, rfl, rfl⟩
                subst h3
                refine ⟨F4, ρ4, g4, _, ρ5, ee, fun v F5 H5 g5 f5 d5 => ?_⟩
                obtain ⟨g6, f6⟩ := g5.wiped vs
                have fa := (f2.trans f3).trans (f4.trans (f5.trans f6))
                obtain ⟨k1, k2, k3⟩ := keepD fa
                rw [ew] at g6 fa k3
                cases d5
                have hlen : (distI acc).length ≤ 999 := by
                  have h4 := distI_len acc
                  rw [← efin] at hz
                  simp only [List.length_append, List.length_cons, List.length_nil] at hz
                  omega
                refine ⟨c, fun j => (distI acc).contains j, (distI acc).length, rfl, k1, by unfold scanBound; omega, hlt, F5, wipeE ρ5 vs, acc ++ [c], rest2, r2, ?_, ?_, ?_, k2, k3, er, h2, by rw [← efin, List.append_assoc]⟩
                · exact g6.updD k2 k3 trivial
                · exact (fc.trans fa).updD hD
                · have e1 : (fun j => (distI (acc ++ [c])).contains j) = plusIn (fun j => (distI acc).contains j) c := funext fun j => by rw [distI_snoc, addI_has]
                  rw [e1, distI_snoc, addI_len, upd_same]
    · obtain rfl : i = ds.length := by omega
      rw [List.drop_length] at ec
      cases ec
      cases er0
      rw [List.append_nil] at efin
      subst efin
      refine .inl ⟨jo.stop H' (fc.leF.trans gc.le), ?_⟩
      obtain ⟨gu, fu⟩ := g1.unwiped gc fc
      exact ⟨Dd, _, _, rfl, hDd, q _ Fc H' gu (f1.trans fu) (.int _)⟩
section
variable {nm : Nm}
/-- len({e for t in it if ..}), whole numbers -/
def eLenSet (it : CI nm) (scope : Scope) (own : List (Str × Nat)) (t : CG (nm.blk scope)) (c : CTs (nm.blk scope)) (e : CE (nm.blk scope)) (fpos spos pos : Pos) (hg : nm.sc.names.lookup ("len" : Str) = some .globalImplicit) (ht : it.tg t.syn) (ok : blkC nm.N nm.sc scope own = true) (hs : (t.sl.all fun i => (own.map (·.2)).contains i) = true) : CE nm where
  syn := .Call (.Name "len" fpos) [.SetComp e.syn [⟨t.syn, it.syn, c.syn, 0⟩] scope spos] [] pos
  sem := semLenSet it.sem t.sem c.sem e.sem (own.map (·.2))
  pl := rfl
  snd := fun X G => PE.imp (pe_callB cr_lenSet (by show X.env.scope.names.lookup _ = _; rw [G.sc]; exact hg) (G.blt "len" (by decide)) (by decide +kernel)
      (pa_cons (pe_set G.calm (by rw [G.N]; exact G.nd) (it.snd X G t.syn ht) (by rw [G.N, G.sc]; exact blkOk_by ok) (fun s H C cl fp => t.snd _ (G.blk scope s H C cl fp)) (fun s H C cl fp => c.snd _ (G.blk scope s H C cl fp)) (fun s H C cl fp => e.snd _ (G.blk scope s H C cl fp)) (Pl.folded it.pl _)) pa_nil (by rfl)) (by decide) (by decide) (by rfl)) fun σ H Q h => tSet_of (IO := nm.IO) (sl := t.sl) (subB hs) h
end
end FL
end L2

/-! FL25: {k: v} with a tuple as key; sorted(d) of a keyed dict; sorted(set(xs)); three names at once -/
namespace L2
namespace FL
open PySem PySem.Spec PyProof.Rows
/-! ### {k: v}, k a tuple -/
section
variable {X : Cx}
theorem pe_dispK {k v : Expr} {pos : Pos} {tk tv : TE} (hu : X.A.units + 65 < cLine) (hk : PE X k tk) (hv : PE X v tv) : PE X (.Dict [some k] [v] pos)
    (fun σ H Q => ∀ p, H p = none → tk σ (upd H p (kdO X.w p [])) fun x H1 => tv σ H1 fun y H2 => ∃ F dk c, Same F H2 ∧ Dp (kw X) F x dk ∧ nkT dk = some c ∧ H2 p = some (kdO X.w p []) ∧ ∀ b u, x = .ref b → RelV y u → Q (.ref p) (upd H2 p (kdO X.w p [(c, b, u)]))) := by
  refine ⟨fun pins s σ H Q I q => ?_⟩
  have nn : H s.heap.objs.size = none := I.hok.fresh (Nat.le_refl _)
  have I1 := I.laid (a := s.heap.objs.size) (o := kdO X.w s.heap.objs.size []) (h' := s.heap.push { cls := .type "dict", data := .dict #[] }) (t' := s.toks) (fun _ _ q => Heap.get?_push_of_some _ q) (Nat.le_refl _)
    (kd_ok (beq_eq_false_iff_ne.mpr (Nat.ne_of_gt I.big)) (Nat.zero_le _) (Heap.DictOfH.new s.heap))
  have ne1 : pairTrees [some k] [v] X.env pos ≠ [] := List.cons_ne_nil _ _
  have le1 : (pairTrees [some k] [v] X.env pos).length ≤ 15 := by show (1 : Nat) ≤ 15; decide
  rw [arm_eval_Dict, zip_pairTrees [some k] [v] X.env pos rfl rfl, dictDisplay_pairs _ ne1 (by omega)]
  refine wpAny_bind (wpAny_standAt (wpAny_bind (wpAny_subDictH (knd := nestedKind X.prog X.w) (by show X.A.units + 8 < cLine; omega) le1 ?_)))
  refine pairTrees_cons_walk (thn (hk.run pins _ σ _ _ I1 (q _ nn)) fun kv s1 ⟨x, H1, I2, rx, q1⟩ => thn (hv.run pins s1 σ H1 _ I2 q1) fun vv s2 ⟨y, H2, I3, ry, q2⟩ => pairTrees_nil_walk ?_)
  obtain ⟨F, dk, c, sm, qk, hc, hp, q3⟩ := q2
  obtain ⟨ht, e2, e3⟩ := nkT_of hc
  obtain ⟨b, rfl⟩ := ref_of_nk qk e2 ht
  obtain rfl : kv = Value.ref b := rx
  obtain ⟨n1, n2, m⟩ := kd_of I3 sm hp (DtR.nil (K := kw X) (F := F))
  refine ⟨[(c, b, vv)], ⟨rfl, rfl, ⟨nested_of I3 sm qk e2 rfl, e3⟩, trivial⟩, m, fun h' t' hm hs => wpAny_pure ?_⟩
  have he : ∃ o, h'.get? s.heap.objs.size = some o := let ⟨o, _, _, g, _⟩ := hm; ⟨o, g⟩
  exact ⟨.ref s.heap.objs.size, _, d_write I3 (by rw [hp]; exact True.intro) hs he (kd_ok n1 (by show (1 : Nat) ≤ sizeLine; decide) hm), rfl, q3 b vv rfl ry⟩
end
section
variable {nm : Nm}
def semDispK (k v : En → Option (D × En)) : En → Option (D × En) := fun ρ => bnd (k ρ) fun y ρ1 => bnd (v ρ1) fun d ρ2 => match nkT y with
  | some _ => some (.dict [(.bool true, .none), (y, d)], ρ2)
  | none => none
def mDispK (k v : CE nm) (pos : Pos) : CM nm where
  syn := .Dict [some k.syn] [v.syn] pos
  sem := semDispK k.sem v.sem
  pl := rfl
  snd := fun X G => PE.imp (pe_dispK G.u65 (k.snd X G) (v.snd X G)) fun σ H Q h => by
    obtain ⟨F, ρ, g, d, ρ', e0, q⟩ := h
    obtain ⟨y, ρ1, e1, e0⟩ := bnd_some e0
    obtain ⟨dv, ρ2, e2, e0⟩ := bnd_some e0
    split at e0
    · rename_i c hc
      cases e0
      intro p hp
      obtain ⟨g0, f0⟩ := g.alloc (o := kdO X.w p []) hp trivial
      have n0 : ¬ Owns σ ρ p := fun w => (g.ownThere w).1 hp
      have F0 : F p = none := g.Fnone hp
      have keep : ∀ {F4 H4 : Hp} {ρ4 : En}, Fw F (upd H p (kdO X.w p [])) σ ρ F4 H4 σ ρ4 → H4 p = some (kdO X.w p []) ∧ F4 p = none ∧ ¬ Owns σ ρ4 p := fun {F4 H4 ρ4} f => by
        obtain ⟨k1, k2⟩ := f.keep p (by rw [upd_same]; exact fun z => nomatch z) n0
        refine ⟨k1.trans upd_same, k2.trans F0, fun w => ?_⟩
        rcases f.own p w with w | w
        · exact n0 w
        · rw [upd_same] at w; cases w
      refine ⟨F, ρ, g0, y, ρ1, e1, fun v1 F1 H1 g1 f1 d1 => ⟨F1, ρ1, g1, dv, _, e2, fun v2 F2 H2 g2 f2 d2 => ?_⟩⟩
      obtain ⟨k1, k2, k3⟩ := keep (f1.trans f2)
      refine ⟨F2, y, c, g2.le, Dp.mono f2.leF d1, hc, k1, fun b u eb ru => ?_⟩
      subst eb
      obtain ⟨ht, n2, n3⟩ := nkT_of hc
      refine q p F2 _ (g2.updD k2 k3 trivial) ((f0.trans (f1.trans f2)).updD hp) hp k3 k2 (.inr ⟨_, _, rfl, upd_same, .cons (Dp.mono f2.leF d1) n2 n3 ru d2 .nil⟩)
    · cases e0
end
/-! ### sorted(d) of a keyed dict -/
theorem DtR.keysD {K : KW} {F : Hp} : ∀ {es : List NkE} {kvs : List (D × D)}, DtR K F es kvs → DpAll K F (es.map fun y => V.ref y.2.1) (kvs.map (·.1))
  | _, _, .nil => .nil
  | _, _, .cons q _ _ _ _ t => .cons q (DtR.keysD t)
theorem vals_refs : ∀ (es : List NkE), Vals (es.map fun y => V.ref y.2.1) (es.map fun y => Value.ref y.2.1)
  | [] => .nil
  | _ :: es => .cons rfl (vals_refs es)
theorem items_refs {es : List NkE} {acc : Array Value} (h : ItemsOf (fun i v => ∃ y : NkE, es[i]? = some y ∧ v = Value.ref y.2.1) acc es.length) : acc.toList = es.map fun y => Value.ref y.2.1 := by
  refine List.ext_getElem? fun i => ?_
  obtain ⟨h1, h2⟩ := h
  rw [List.getElem?_map]
  cases e : acc.toList[i]? with
  | none =>
    rw [List.getElem?_eq_none_iff, Array.length_toList, h1] at e
    rw [List.getElem?_eq_none_iff.mpr e]
    rfl
  | some v =>
    rw [Array.getElem?_toList] at e
    obtain ⟨y, e1, rfl⟩ := h2 i v e
    rw [e1]
    rfl
def notNone : D → Bool
  | .none => false
  | _ => true
/-- data that sorted() takes: as sortB, or one at most -/
def sortB1 (ds : List D) : Bool := sortB ds || (decide (ds.length ≤ 1) && ds.all fun d => PySem.W.alike d d && notNone d)
theorem sortsAt_one {prog : Program} {w : World} {A : Around} {s : Shared} {vs : List Value} {ds : List PyData} (e : PySem.W.EachIs (fun v d => ∃ as, Reads s.heap v d as) vs ds) (hal : PySem.W.AllAlike ds) (h1 : ds.length ≤ 1) (hn : ∀ d ∈ ds, d ≠ .none) (hu : ∀ d, d ∈ ds → A.units + d.depth < cLine) :
    PySem.W.SortsAt prog w A s (PySem.W.dataKind s.heap ds) vs := by
  refine ⟨fun v hv => ?_, general', fun E x y a b Q ha hb hq => ?_, fun h2 => absurd h2 (by have := e.length; omega)⟩
  · obtain ⟨d, hd, as, r⟩ := e.left v hv
    exact ⟨_, PySem.W.dataKind_some hal hd r⟩
  · obtain ⟨d, as, hd, ra, rfl⟩ := PySem.W.dataKind_inv ha
    obtain ⟨d', as', hd', rb, rfl⟩ := PySem.W.dataKind_inv hb
    have room : A.units + min d.depth d'.depth < cLine := Nat.lt_of_le_of_lt (Nat.add_le_add_left (Nat.min_le_left _ _) _) (hu d hd)
    exact PySem.W.oneLt_alike (f := false) (fun z => absurd z Bool.false_ne_true) ra rb (hal d hd d' hd') (hn d hd) room hq
theorem sortsAt_1 {prog : Program} {w : World} {A : Around} {s : Shared} {vs : List Value} {ds : List PyData} (e : PySem.W.EachIs (fun v d => ∃ as, Reads s.heap v d as) vs ds) (h : sortB1 ds = true) (hu : ∀ d, d ∈ ds → A.units + d.depth < cLine) : PySem.W.AllAlike ds ∧ PySem.W.SortsAt prog w A s (PySem.W.dataKind s.heap ds) vs := by
  unfold sortB1 at h
  rcases Bool.or_eq_true_iff.mp h with h | h
  · obtain ⟨h1, h2⟩ := sortB_all h
    exact ⟨h1, PySem.W.SortsAt.data e h1 h2 hu⟩
  · obtain ⟨h1, h2⟩ := Bool.and_eq_true_iff.mp h
    have h1 := of_decide_eq_true h1
    have hal : PySem.W.AllAlike ds := by
      rcases ds with _ | ⟨x, _ | ⟨y, r⟩⟩
      · exact fun d hd => nomatch hd
      · intro d hd d' hd'
        rw [List.mem_singleton.mp hd, List.mem_singleton.mp hd']
        exact (Bool.and_eq_true_iff.mp (List.all_eq_true.mp h2 x List.mem_cons_self)).1
      · rw [List.length_cons, List.length_cons] at h1
        omega
    refine ⟨hal, sortsAt_one e hal h1 (fun d hd z => ?_) hu⟩
    subst z
    have := (Bool.and_eq_true_iff.mp (List.all_eq_true.mp h2 _ hd)).2
    cases this
def dSortedK : D → Option (List D)
  | .dict ((.bool true, .none) :: kvs) => if sortB1 (kvs.map (·.1)) = true ∧ PyData.canLayAll0 (kvs.map (·.1)) = true ∧ PyData.depthAll (kvs.map (·.1)) ≤ 60 then some (sortD (kvs.map (·.1))) else none
  | _ => none
theorem kdlH {prog : Program} {w : World} {d : Addr} {xs : List NkE} {es : Array DictEntry} {ep : Nat} (lo : (d == sysModules) = false) (hz : es.size = xs.length) (hx : ∀ i (hi : i < es.size), ∃ y, xs[i]? = some y ∧ es[i].key = .ref y.2.1 ∧ es[i].val = y.2.2) :
    PySem.W.KdlSrc prog w "dict" d d xs.length (fun i v => ∃ y, xs[i]? = some y ∧ v = Value.ref y.2.1) (fun h => h.DictRaw d es ep) where
  type := fun _ hm => hm.typeIs
  there := fun h hm => by
    obtain ⟨o, ho, _⟩ := hm
    exact ⟨Heap.lt_size ho, Heap.lt_size ho⟩
  keep := fun _ _ hm hk => hm.at fun o e => hk d (.inl rfl) o e
  notList := by decide
  notTuple := by decide
  hint := fun _ _ _ _ hm hq => PySem.W.kdl_hint_dict hm.typeIs hq
  iter := fun A s hh hm => by
    have lt : d < s.heap.objs.size := by obtain ⟨o, ho, _⟩ := hm; exact Heap.lt_size ho
    rw [← hz]
    exact ⟨_, _, (fun _ _ hq => wpAny_pyIter_dict_raw lo hm hq), Walks.keysH hh _ d (Nat.ne_of_lt lt) es ep hx, ⟨⟨_, Heap.get?_push_size _ rfl, rfl, rfl⟩, hm.at fun o e => Heap.get?_push_of_some _ e⟩⟩
/-- sorted() of what is collected as us -/
theorem sorted_by {X : Cx} {pins : List (Addr × Obj)} {s : Shared} {σ0 σ : St} {H F : Hp} {ρ : En} {Q : VK} {r : Addr} {xs : List V} {us : List Value} {ds : List D} {E : Value → Shared → Prop} (hr : Room 0 X.A)
    (hcol : ∀ (R : List Value → Shared → Prop), (∀ h' tk, (∀ b o, s.heap.get? b = some o → h'.get? b = some o) → R us { s with heap := h', toks := tk }) → wpAny (model X.prog X.w) X.A.in1 (collect (.ref r)) R E s)
    (I : Inv X pins σ0 H s) (g : Gs (kw X) F H σ ρ) (dpk : DpAll (kw X) F xs ds) (vsr : Vals xs us) (zs : ds.length ≤ sizeLine) (c1 : sortB1 ds = true) (c2 : PyData.canLayAll0 ds = true) (c3 : PyData.depthAll ds ≤ 60)
    (q : ∀ a vs F' H', Gs (kw X) F' H' σ ρ → Fw F H σ ρ F' H' σ ρ → H a = none → ¬ Owns σ ρ a → F' a = none → H' a = some (.lst vs) → DpAll (kw X) F' vs (sortD ds) → Q (.ref a) H') :
    wpAny (model X.prog X.w) X.A (call (.builtin "sorted") [.ref r]) (EP X pins σ0 Q) E s := by
  have un := hr.un
  have zu : us.length ≤ sizeLine := by rw [← vsr.length, dpk.length]; exact zs
  refine Calls.call_function_entry PyProof.Rows.kind_sorted PyProof.Rows.plain_sorted PyProof.Rows.entry_sorted (PyProof.Rows.args_sorted1 _) ?_
  unfold Builtin.«sorted»
  refine wpAny_bind (m := checkCount "sorted" 1 1 _) (wpAny_pure (wpAny_bind (hcol _ fun h' tk hk => ?_)))
  have I1 : Inv X pins σ0 H { s with heap := h', toks := tk } := I.kept hk
  refine wpAny_bind (wpAny_newList ?_ zu)
  obtain ⟨h2, eh2⟩ : ∃ h2 : Heap, h2 = h'.push (seqObj "list" us.toArray 0) := ⟨_, rfl⟩
  have at2 : h2.get? h'.objs.size = some (seqObj "list" us.toArray 0) := by rw [eh2]; exact Heap.get?_push_size _ rfl
  have old2 : ∀ b u, h'.get? b = some u → (PySem.W.sortingHeap h2 h'.objs.size us).get? b = some u := fun b u e => PySem.W.sortingHeap_old (Nat.ne_of_lt (Heap.lt_size e)) (by rw [eh2]; exact Heap.get?_push_of_some _ e)
  have each := each_dp (K := kw X) (F := F) (R := fun u d => ∃ x, RelV x u ∧ Dp (kw X) F x d) (fun a b _ => ⟨_, a, b⟩) dpk vsr
  have reads : PySem.W.EachIs (fun u d => ∃ as, Reads (PySem.W.sortingHeap h2 h'.objs.size us) u d as) us ds :=
    (each_dp (K := kw X) (F := F) (fun {x u d} a b c => L2.Dp.reads I1 d x u ((Dp.mono g.le b).toL (lay_of c2 c).1) a) dpk vsr).mono fun _ _ ⟨as, r⟩ => ⟨as, PyProof.Rows.Reads.keeps old2 r⟩
  obtain ⟨hal, hS⟩ := sortsAt_1 (prog := X.prog) (w := X.w) (A := X.A.in1.in1) (s := { s with heap := PySem.W.sortingHeap h2 h'.objs.size us, toks := tk }) reads c1 (fun d hd => by have := (lay_of c2 hd).2; show X.A.units + 2 + d.depth < cLine; omega)
  have fin := PySem.W.sortVals_data (h' := PySem.W.sortingHeap h2 h'.objs.size us) (enc := id) false each (by simpa using reads) (by rw [List.map_id]; exact hal)
  rw [List.map_id] at fin
  show wpAny _ _ _ _ _ { s with heap := h'.push (seqObj "list" us.toArray 0), toks := tk }
  rw [← eh2]
  refine wpAny_bind (wpAny_holding (wpAny_call_entry PyProof.Rows.slot_list_sort ⟨_, at2, rfl⟩ PyProof.Rows.entry_list_sort (PySem.W.list_sort_vals (A := X.A.in1.in1) at2 hS zu ⟨_, rfl, ?_⟩) (PyProof.Rows.args_list_sort _)))
  obtain ⟨ys, v2, r2⟩ := dp_each fin
  have nn : H h'.objs.size = none := I1.hok.fresh (Nat.le_refl _)
  have zl : ys.length ≤ sizeLine := by
    rw [r2.length]
    show (sortD ds).length ≤ _
    unfold sortD
    rw [List.length_mergeSort]
    exact zs
  obtain ⟨g1, f1, no, hf⟩ := g.newN nn zl r2
  obtain ⟨e9, he9⟩ := PyProof.Rows.sortedHeap_at (vs := us) (out := (PySem.W.sortVals (PySem.W.dataKind (PySem.W.sortingHeap h2 h'.objs.size us) ds) false us us).toArray) at2
  refine wpAny_pure ⟨_, rfl, .ref h'.objs.size, _, I1.laid (t' := tk) (o := .lst ys) (fun b u e => ?_) (Nat.le_refl _) ⟨zl, _, e9, v2, he9⟩, rfl, q _ _ _ _ g1 f1 nn no hf upd_same r2⟩
  have lt := Heap.lt_size e
  rw [PyProof.Rows.sortedHeap_old (Nat.ne_of_lt lt) (by rw [eh2, size_push']; exact Nat.lt_succ_of_lt lt), eh2]
  exact Heap.get?_push_of_some _ e
theorem cr_sortedK {X : Cx} (hc : X.calm = true) (hr : Room 0 X.A) : CallR X (.builtin "sorted") (rN1 (kw X) dSortedK) := by
  intro pins s σ0 H xs us Q I r h
  obtain ⟨F, σ, ρ, x, dx, ds, rfl, g, px, e, q⟩ := h
  unfold dSortedK at e
  split at e
  case h_2 => cases e
  rename_i kvs
  obtain ⟨⟨c1, c2, c3⟩, e⟩ := ite_sm e
  cases e
  obtain ⟨a, es, rfl, qa, ra⟩ := px.ditOf
  obtain rfl := Vals.ref1 r
  obtain ⟨lo, zs, o, en, ep, ho, hx, hd, hen, his, nd⟩ := kd_of I g.le (g.le _ _ qa) ra
  have raw : s.heap.DictRaw a en ep := ⟨o, ho, hx, hd⟩
  have esz : en.size = es.length := by rw [← Array.length_toList, hen, List.length_map]
  have entries : ∀ i (hi : i < en.size), ∃ y, es[i]? = some y ∧ en[i].key = .ref y.2.1 ∧ en[i].val = y.2.2 := fun i hi => by
    have h1 : en.toList[i]? = some en[i] := by rw [Array.getElem?_toList]; exact Array.getElem?_eq_getElem hi
    rw [hen, List.getElem?_map] at h1
    obtain ⟨y, h2, h3⟩ := Option.map_eq_some_iff.mp h1
    exact ⟨y, h2, congrArg DictEntry.key h3.symm, congrArg DictEntry.val h3.symm⟩
  have dsz : (kvs.map (·.1)).length = es.length := by rw [List.length_map, ra.length]
  have hh : X.A.handled = none := I.ok.hd hc
  refine sorted_by (F := F) hr (fun R hR => PySem.W.kdu_collect (A := X.A.in1) (kdlH lo esz entries) hh raw zs fun h' tk acc hk hacc => ?_) I g (DtR.keysD ra) (vals_refs es) (by rw [dsz]; exact zs) c1 c2 c3 q
  rw [items_refs hacc]
  exact hR h' tk hk
/-! ### sorted(t) of a tuple -/
theorem collect_tupV {prog : Program} {w : World} {A : Around} {E : Value → Shared → Prop} {s : Shared} {l : Addr} {vs : List Value} {Q : List Value → Shared → Prop} (hl : IsTup s.heap l vs.toArray)
    (h : Q vs { s with heap := (s.heap.push (seqObj "list" #[] 0)).update s.heap.objs.size (Obj.mapSeq (· ++ vs.toArray)) }) (hsz : vs.length ≤ sizeLine) : wpAny (model prog w) A (collect (.ref l)) Q E s := by
  obtain ⟨o, ho, hc, n, hd⟩ := id hl
  unfold collect
  refine wpAny_bind (wpAny_runValue (codeAny_builtin entry_proto_collect' ?_))
  show wpAny _ _ (do again (.builtin "list.__iadd__" ⟨[← newList [], .ref l], []⟩)) _ _ s
  refine wpAny_bind (wpAny_newList (wpAny_pure ⟨Code.quiet_builtin _ (by decide +kernel), codeAny_builtin entry_list_iadd' ?_⟩) (Nat.zero_le _))
  show wpAny _ _ (Builtin.List.listExtendWith (.ref s.heap.objs.size) (.ref l) (.ref s.heap.objs.size)) _ _ { s with heap := s.heap.push (seqObj "list" #[] 0) }
  have at1 : (s.heap.push (seqObj "list" #[] 0)).get? l = some o := Heap.get?_push_of_some _ ho
  unfold Builtin.List.listExtendWith
  refine wpAny_bind (wpAny_typeOf (T := "tuple") ⟨o, at1, hc⟩ ?_)
  have tt : (Value.type "tuple" == Value.type "tuple") = true := rfl
  rw [if_pos (by rw [tt, Bool.or_true])]
  refine wpAny_bind (listItems_at at1 hd (wpAny_bind (listItems_at (xs := #[]) (n := 0) (Heap.get?_push_size _ rfl) rfl ?_)))
  have nt : ¬ ((!(#[] : Array Value).isEmpty && Builtin.List.listTooLong ((#[] : Array Value).size + vs.toArray.size)) = true) := by simp
  rw [if_neg nt]
  refine wpAny_bind (listUpdate_at (xs := #[]) (n := 0) (Heap.get?_push_size _ rfl) rfl (wpAny_pure ?_) (Nat.zero_le _) (by simp only [Array.size_append, List.size_toArray, List.length_nil]; omega))
  have at3 := get?_update_seq (h := s.heap.push (seqObj "list" #[] 0)) (a := s.heap.objs.size) (Heap.get?_push_size _ rfl) (· ++ vs.toArray)
  refine wpAny_bind (wpAny_load at3 (wpAny_pure ?_))
  have ev : ((#[] : Array Value) ++ vs.toArray).toList = vs := by simp
  rw [ev]
  exact h
def dSortedT : D → Option (List D)
  | .tuple ds => if sortB1 ds = true ∧ PyData.canLayAll0 ds = true ∧ PyData.depthAll ds ≤ 60 then some (sortD ds) else none
  | _ => none
theorem cr_sortedT {X : Cx} (hr : Room 0 X.A) : CallR X (.builtin "sorted") (rN1 (kw X) dSortedT) := by
  intro pins s σ0 H xs us Q I r h
  obtain ⟨F, σ, ρ, x, dx, ds, rfl, g, px, e, q⟩ := h
  unfold dSortedT at e
  split at e
  case h_2 => cases e
  obtain ⟨⟨c1, c2, c3⟩, e⟩ := ite_sm e
  cases e
  obtain ⟨a, l, rfl, qa, ra⟩ := px.tupOf
  obtain rfl := Vals.ref1 r
  obtain ⟨its, rv, it, hz⟩ := I.tuple (SqT.up qa g.le)
  have zs := g.szT qa
  refine sorted_by (F := F) hr (fun R hR => collect_tupV it (hR _ s.toks fun b o e => ?_) (by rw [← rv.length]; exact zs)) I g ra rv (by rw [← ra.length]; exact zs) c1 c2 c3 q
  have lt := Heap.lt_size e
  rw [Heap.get?_update_ne _ _ _ _ (Nat.ne_of_lt lt)]
  exact Heap.get?_push_of_some _ e
def bSortedT : BN1 "sorted" where
  f := dSortedT
  snd := .inl ⟨"sorted", by decide +kernel, fun X _ hr => cr_sortedT hr⟩
def bSortedK : BN1 "sorted" where
  f := dSortedK
  snd := .inl ⟨"sorted", by decide +kernel, fun X hc hr => cr_sortedK hc hr⟩
/-! ### sorted(set(xs)), whole numbers -/
def leI' (a b : Int) : Bool := decide (a ≤ b)
def sortU (is : List Int) : List Int := (distI is).mergeSort leI'
theorem distI_mem (is : List Int) (j : Int) : j ∈ distI is ↔ j ∈ is := by
  have go : ∀ (is l : List Int), j ∈ is.foldl addI l ↔ j ∈ l ∨ j ∈ is := by
    intro is
    induction is with
    | nil => intro l; simp
    | cons c is ih =>
      intro l
      rw [List.foldl_cons, ih, List.mem_cons]
      have := addI_has l c j
      rw [Bool.eq_iff_iff, Bool.or_eq_true, List.contains_iff_mem, List.contains_iff_mem, decide_eq_true_eq] at this
      rw [this]
      exact or_assoc
  exact (go is []).trans ⟨fun z => z.resolve_left (List.not_mem_nil), .inr⟩
theorem sortU_eq {is ns : List Int} (hp : ns.Pairwise (· < ·)) (hm : ∀ k, k ∈ ns ↔ k ∈ is) : sortU is = ns := by
  have nd : ∀ (is l : List Int), l.Nodup → (is.foldl addI l).Nodup := by
    intro is
    induction is with
    | nil => intro l h; exact h
    | cons c is ih =>
      intro l h
      rw [List.foldl_cons]
      refine ih _ ?_
      unfold addI
      split
      · exact h
      · rename_i hc
        refine List.nodup_append.mpr ⟨h, by simp, fun x hx y hy => ?_⟩
        rw [List.mem_singleton.mp hy]
        rintro rfl
        exact hc (List.contains_iff_mem.mpr hx)
  have n1 : ns.Nodup := hp.imp fun h => Int.ne_of_lt h
  have pm : ns.Perm (distI is) := (List.perm_ext_iff_of_nodup n1 (nd is [] List.nodup_nil)).mpr fun k => (hm k).trans (distI_mem is k).symm
  have tr : ∀ a b c : Int, leI' a b = true → leI' b c = true → leI' a c = true := fun a b c h1 h2 => by
    unfold leI' at *
    simp only [decide_eq_true_eq] at *
    omega
  have tt : ∀ a b : Int, (leI' a b || leI' b a) = true := fun a b => by
    unfold leI'
    simp only [Bool.or_eq_true, decide_eq_true_eq]
    omega
  refine (List.Perm.eq_of_pairwise (le := fun a b => leI' a b = true) (fun a b _ _ h1 h2 => ?_) (hp.imp fun h => ?_) (List.pairwise_mergeSort tr tt (distI is)) (pm.trans (List.mergeSort_perm _ _).symm)).symm
  · unfold leI' at h1 h2
    simp only [decide_eq_true_eq] at h1 h2
    omega
  · unfold leI'
    exact decide_eq_true (Int.le_of_lt h)
theorem dpInts_D {K : KW} {F : Hp} : ∀ is : List Int, DpAll K F (is.map V.int) (is.map fun i => (.int i : D))
  | [] => .nil
  | i :: is => .cons (.int i) (dpInts_D is)
section
variable {nm : Nm}
/-- sorted(set(e)), e a list of whole numbers, at most 60 -/
def semSortU (a : En → Option (D × En)) : En → Option (List D × En) := fun ρ => bnd (a ρ) fun d ρ1 => match d with
  | .list ds => match asInts ds with
    | some is => if is.length ≤ 60 then some ((sortU is).map (fun i => .int i), ρ1) else none
    | none => none
  | _ => none
def nSortU (a : CE nm) (fpos spos cpos pos : Pos) (hg : nm.sc.names.lookup ("sorted" : Str) = some .globalImplicit) (hg2 : nm.sc.names.lookup ("set" : Str) = some .globalImplicit) : CN nm where
  syn := .Call (.Name "sorted" fpos) [.Call (.Name "set" spos) [a.syn] [] cpos] [] pos
  sem := semSortU a.sem
  pl := rfl
  snd := fun X G => by
    have gl : ∀ y, nm.sc.names.lookup y = some .globalImplicit → Gl X y := fun y hy => by show X.env.scope.names.lookup y = _; rw [G.sc]; exact hy
    have p1 := pe_callTy (p := spos) (pos := cpos) (cr_setL G.calm) (gl _ hg2) (G.blt "set" (by decide)) (by decide +kernel) (pa_cons (a.snd X G) pa_nil (Pl.star a.pl _ _)) (by decide) (by decide) (Pl.star a.pl _ _)
    refine PE.imp (pe_callB (cr_sortedSet G.calm) (gl _ hg) (G.blt "sorted" (by decide)) (by decide +kernel) (pa_cons p1 pa_nil) (by decide) (by decide)) fun σ H Q h => ?_
    obtain ⟨F, ρ, g, ds, ρ', e, q⟩ := h
    obtain ⟨d, ρ1, e1, e⟩ := bnd_some e
    split at e
    case h_2 => cases e
    split at e
    case h_2 => cases e
    rename_i ds0 is his
    obtain ⟨hz, e⟩ := ite_sm e
    cases e
    refine ⟨F, ρ, g, _, ρ', e1, fun v1 F1 H1 g1 f1 d1 => ?_⟩
    obtain ⟨l, xs, rfl, ql, rl⟩ := d1.lstOf
    obtain rfl := asInts_of his
    obtain rfl := dpInts_V rl
    refine ⟨l, is, rfl, .inl (Rd.up ql g1.le), by omega, fun p c hp hc => ?_⟩
    obtain ⟨g2, f2⟩ := g1.alloc (o := SetO X.w p (fun j => decide (j ∈ is)) c) hp trivial
    refine ⟨p, _, c, rfl, upd_same, by omega, fun ns p2 h1 h2 h3 hp2 => ?_⟩
    obtain rfl := sortU_eq (is := is) h1 fun k => (h2 k).trans decide_eq_true_iff
    obtain ⟨g3, f3, no, hf⟩ := g2.newN (vs := (sortU is).map V.int) hp2 (by rw [List.length_map, h3, sizeLine_eq]; omega) (dpInts_D (K := kw X) (F := F1) (sortU is))
    refine q _ _ _ _ g3 (f1.trans (f2.trans f3)) ?_ no hf upd_same (dpInts_D _)
    exact (f1.trans f2).th _ hp2
end
/-! ### a, b, c = {..}, x, y -/
section
variable {nm : Nm}
theorem sw_three {x y z : Str} {a b c : Expr} {px py pz pt pt2 : Pos} {kt k2 : Nat} {env : Env} (hk : env.scope.kind = .function) (hx : env.scope.names.lookup x = some .local) (hy : env.scope.names.lookup y = some .local) (hz : env.scope.names.lookup z = some .local)
    (hl : (py.line == px.line) = true) (hl2 : (pz.line == px.line) = true) (hd : ([x, y, z].eraseDups.length == 3) = true) (ha : starB a = false) (hb : starB b = false) (hc : starB c = false) (hf : [a, b, c].all (foldedForSure 8) = false) (hcc : [a, b, c].all (constantsAlone 8) = false) :
    swappedStores [.Tuple [.Name x px, .Name y py, .Name z pz] kt pt] (.Tuple [a, b, c] k2 pt2) env = pure (some [x, y, z]) := by
  have k1 : env.kindOf x = some .local := hx
  have k2 : env.kindOf y = some .local := hy
  have k3 : env.kindOf z = some .local := hz
  have bk : env.blockKind = .function := by
    unfold Env.blockKind
    rw [hk]
    rfl
  unfold swappedStores
  have hl' : py.line = px.line := by simpa using hl
  have hl2' : pz.line = px.line := by simpa using hl2
  have e1 : (Expr.Name x px).pos = px := rfl
  have hd' : [x, y, z].eraseDups.length = 3 := by simpa using hd
  simp only [k1, k2, k3, bk, hf, hcc, List.filterMap_cons, List.filterMap_nil, List.head?_cons, Option.map_some, Option.getD_some, e1, hl', hl2', hd', beq_self_eq_true, Bool.and_self, if_true, List.length_cons, List.length_nil]
  rw [if_neg (by decide), if_neg (fun h => ?_)]
  · rfl
  · obtain ⟨e, he, h2⟩ := List.any_eq_true.mp h
    clear h
    simp only [List.mem_cons, List.not_mem_nil, or_false] at he
    rcases he with rfl | rfl | rfl
    · cases e <;> first | (cases ha; done) | (cases h2; done)
    · cases e <;> first | (cases hb; done) | (cases h2; done)
    · cases e <;> first | (cases hc; done) | (cases h2; done)
def semTri (i j k : Nat) (m : En → Option (D × En)) (eb ec : En → Option (D × En)) : En → Option Fl := fun ρ => bnd (m ρ) fun x ρ1 => bnd (eb ρ1) fun y ρ2 => bnd (ec ρ2) fun z ρ3 => some (.nx (((ρ3.set i (.own x)).set j (.val y)).set k (.val z)))
/-- a, b, c = {..}, x, y with plain local names, a's cell one's own -/
def sTri (i j k : Nat) (x y z : Str) (a : CM nm) (b c : CE nm) (px py pz pt pt2 : Pos) (k1 k2 : Nat) (pos : Pos) (hN : nm.N[i]? = some x) (hM : nm.N[j]? = some y) (hO : nm.N[k]? = some z) (hij : (i == j) = false) (hik : (i == k) = false) (hjk : (j == k) = false) (hx : isLoc nm x = true) (hy : isLoc nm y = true) (hz : isLoc nm z = true) (hk : isFn nm = true)
    (hl : (py.line == px.line) = true) (hl2 : (pz.line == px.line) = true) (hd : ([x, y, z].eraseDups.length == 3) = true) (ha : starB a.syn = false) (hb : starB b.syn = false) (hc : starB c.syn = false) (hf : [a.syn, b.syn, c.syn].all (foldedForSure 8) = false) (hcc : [a.syn, b.syn, c.syn].all (constantsAlone 8) = false)
    (hi : nm.IO.contains i = false) (hj : nm.IO.contains j = false) (hk3 : nm.IO.contains k = false) : CS nm where
  syn := .Assign [.Tuple [.Name x px, .Name y py, .Name z pz] k1 pt] (.Tuple [a.syn, b.syn, c.syn] k2 pt2) pos
  sem := semTri i j k a.sem b.sem c.sem
  snd := fun X G => by
    have lx : X.env.scope.names.lookup x = some .local := by rw [G.sc]; exact eq_of_beq hx
    have ly : X.env.scope.names.lookup y = some .local := by rw [G.sc]; exact eq_of_beq hy
    have lz : X.env.scope.names.lookup z = some .local := by rw [G.sc]; exact eq_of_beq hz
    have lk : X.env.scope.kind = .function := by
      rw [G.sc]
      unfold isFn at hk
      split at hk
      · assumption
      · cases hk
    refine PS.imp (ps_par3 (i := i) (j := j) (l := k) G.calm (by rw [G.N]; exact G.nd) (by rw [G.N]; exact hN) (by rw [G.N]; exact hM) (by rw [G.N]; exact hO) (by simpa using hij) (by simpa using hik) (by simpa using hjk) lx ly lz
      (pa_cons (a.snd X G) (pa_cons (b.snd X G) (pa_cons (c.snd X G) pa_nil (Pl.star c.pl _ _)) (Pl.star b.pl _ _)) (Pl.star a.pl _ _)) (sw_three lk lx ly lz hl hl2 hd ha hb hc hf hcc)) fun D σ H h => ?_
    obtain ⟨F, ρ, g, fl, e0, p⟩ := h
    obtain ⟨dx, ρ1, e1, e0⟩ := bnd_some e0
    obtain ⟨dy, ρ2, e2, e0⟩ := bnd_some e0
    obtain ⟨dz, ρ3, e3, e0⟩ := bnd_some e0
    cases e0
    refine ⟨F, ρ, g, dx, ρ1, e1, fun a F1 H1 g1 f1 h0 no hf cel => ⟨F1, ρ1, g1, dy, ρ2, e2, fun v2 F2 H2 g2 f2 r2 => ⟨F2, ρ2, g2, dz, ρ3, e3, fun v3 F3 H3 g3 f3 r3 => ?_⟩⟩⟩
    have f23 := f2.trans f3
    obtain ⟨k1, k2⟩ := f23.keep a cel.there no
    have no3 : ¬ Owns σ ρ3 a := fun w => by
      rcases f23.own a w with w | w
      · exact no w
      · exact cel.there w
    obtain ⟨g4, f4⟩ := g3.setOwn (cel.mono f23.leF k1) (k2.trans hf) no3 i (f1.trans f23) h0
    obtain ⟨g5, f5⟩ := g4.setVal (Dp.mono f3.leF r2) j
    obtain ⟨g6, f6⟩ := g5.setVal r3 k
    refine ⟨.ref a, v2, v3, rfl, p _ F3 H3 g6 (f4.trans (f5.trans f6)) ?_⟩
    exact Io.trans (Io.trans (Io.set fun z => by rw [List.contains_iff_mem.mpr z] at hi; cases hi) (Io.set fun z => by rw [List.contains_iff_mem.mpr z] at hj; cases hj)) (Io.set fun z => by rw [List.contains_iff_mem.mpr z] at hk3; cases hk3)
/-- f() -/
def eCall0 (p : Prom) (fpos pos : Pos) (hp : p ∈ nm.Γ) (hg : nm.sc.names.lookup p.name = some .globalImplicit) (hd : (p.name == ("__debug__" : Str)) = false := by rfl) (hkn : p.kn = false := by rfl) : CE nm where
  syn := .Call (.Name p.name fpos) [] [] pos
  sem := semCall p semNil
  pl := rfl
  snd := fun X G => by
    obtain ⟨f, fd, k, hm, hk, hb, hF, hr⟩ := (G.knows p hp).ex
    refine PE.imp (pe_call0 hF hr (by show X.env.scope.names.lookup p.name = _; rw [G.sc]; exact hg) hm hk (hb.pos hkn) .nil pass0 hd) fun σ H Q h => ?_
    obtain ⟨F, ρ, g, d, ρ', e0, q⟩ := h
    obtain ⟨as, ρ1, e1, e0⟩ := bnd_some e0
    cases e1
    split at e0
    · rename_i hl
      split at e0
      · rename_i d' outs e2
        obtain ⟨ρ2, e3, e4⟩ := Option.map_eq_some_iff.mp e0
        cases e4
        have r1 : ArgR (kw X) F σ [] [] := .nil
        obtain ⟨gin, _⟩ := args_in g r1 hl.1
        refine ⟨F, [], hl.2, gin, d, outs, e2, fun v F2 H2 g2 f2 dp => ?_⟩
        obtain ⟨g3, f3⟩ := args_out g r1 hl.1 e3 g2 f2
        exact q v F2 H2 g3 f3 dp
      · cases e0
    · cases e0
end
end FL
end L2

/-! FL26: dict(zip(xs, ys)) of two lists -/
namespace L2
namespace FL
open PySem PySem.Spec PyProof.Rows
section
variable {X : Cx}
theorem kv_zip {P : Program} {W : World} : ∀ {ks : List Key} {us : List Value} {vs : List V} {ws : List Value}, Vals (ks.map kV) us → Vals vs ws → ∀ (n : Nat), n = min us.length ws.length →
    ∃ prs : List (Key × Value), KV (ks.zip vs) prs ∧ prs.length = n ∧ ∀ (i : Nat) (k v : Value), us[i]? = some k → ws[i]? = some v → ∃ c, prs[i]? = some (c, v) ∧ keyIs c k = true
  | [], _, vs, ws, r, r', n, hn => by
    cases r
    refine ⟨[], .nil, ?_, fun i k v h => by simp at h⟩
    rw [hn]
    simp
  | c :: ks, _, [], _, r, r', n, hn => by
    cases r'
    refine ⟨[], .nil, ?_, fun i k v h h' => by simp at h'⟩
    rw [hn]
    simp
  | c :: ks, _, v :: vs, _, .cons (l₂ := us) (b := u) r1 r2, .cons (l₂ := ws) (b := w) r3 r4, n, hn => by
    obtain ⟨prs, h1, h2, h3⟩   := kv_zip (P := P) (W := W) r2 r4 _ rfl
    refine ⟨(c, w) :: prs, .cons ⟨rfl, r3⟩ h1, ?_, fun i k v h h' => ?_⟩
    · rw [List.length_cons, h2, hn, List.length_cons, List.length_cons]
      omega
    · cases i with
      | zero =>
        simp at h h'
        subst h
        subst h'
        exact ⟨c, rfl, kV_is (P := P) (w := W) r1⟩
      | succ i =>
        simp only [List.getElem?_cons_succ] at h h'
        obtain ⟨c', e1, e2⟩ := h3 i k v h h'
        exact ⟨c', by simpa using e1, e2⟩
/-- dict(zip(xs, ys)), both lists -/
def tDZ (K : PySem.W.Frag) (ta : TA) : TE := fun σ H Q => ta σ H fun us H1 => ∃ a b, ∃ ks : List Key, ∃ vs : List V, us = [.ref a, .ref b] ∧ SqL K H1 a (ks.map kV) ∧ SqL K H1 b vs ∧ ∀ p, H1 p = none → Q (.ref p) (upd H1 p (.dK (mergeK [] (ks.zip vs))))
theorem pe_dictZip {e e2 : Expr} {ta : TA} {pd pz cpos pos : Pos} (hc : X.calm = true) (hg : Gl X "dict") (hm : X.mg "dict" = none) (hg2 : Gl X "zip") (hm2 : X.mg "zip" = none) (ha : PA X [e, e2] ta)
    (hs : starEach [e, e2] X.env = (false, eval e X.env) :: starEach [e2] X.env) (hpl : (backTo cpos (starEach [e2] X.env)).any (·.1) = false) : PE X (.Call (.Name "dict" pd) [.Call (.Name "zip" pz) [e, e2] [] cpos] [] pos) (tDZ X.K ta) := by
  refine ⟨fun pins s σ H Q I h => ?_⟩
  refine Call_ (ld_blt I hg hm (show bootBuiltins "dict" = some (.type "dict") by decide +kernel) ?_)
  refine PyProof.Rows.callWith_type1 (PyProof.Rows.args_cons ?_ rfl) rfl rfl
  refine Call_ (ld_blt I hg2 hm2 PyProof.Rows.boot_zip (PyProof.Rows.callWith_type1 (thn (ha.run cpos pins s σ H _ I h) fun us s1 ⟨ws, H1, I1, r1, q1⟩ => ?_) hs hpl))
  obtain ⟨a, b, ks, vs, rfl, ka, vb, q⟩ := q1
  cases r1 with
  | cons ra rr => cases rr with
    | cons rb rr =>
      cases rr; cases ra; cases rb
      obtain ⟨its, rv, p1, z1⟩ := I1.list ka
      obtain ⟨its2, rv2, p2, z2⟩ := I1.list vb
      refine call_zip_2 p1.isList p2.isList fun h' hz hTI hTO h1 h2 hsz hk => PyProof.Rows.args_nil ?_
      have old1 : ∀ {c o}, s1.heap.get? c = some o → c < s1.heap.objs.size := fun e => Heap.lt_size e
      obtain ⟨prs, k1, k2, k3⟩ := kv_zip (P := X.prog) (W := X.w) rv rv2 (min its.toArray.size its2.toArray.size) (by simp)
      have zl : prs.length ≤ sizeLine := Nat.le_trans (Nat.le_of_eq k2) (Nat.le_trans (Nat.min_le_left _ _) (by rw [List.size_toArray, ← rv.length]; exact z1))
      refine _root_.PySem.call_dict_pairs (knd := mixKind X.prog X.w) (kvs := prs) (PairArg.zip _ _ _ _ _ a b (PySem.W.ktu_apart s1.heap.objs.size a b p1.lt p2.lt) its.toArray its2.toArray) (I1.ok.hd hc)
        ⟨hz, hTI, ⟨_, _, hTO⟩, h1, h2, p1.isList.at fun o e => hk _ o e, p2.isList.at fun o e => hk _ o e⟩ ⟨k2, fun i k v w => k3 i k v (by simpa using w.1) (by simpa using w.2)⟩ (by rw [← k2]; exact zl) fun h2' tk hd' kp => ?_
      have lo : (h'.objs.size == sysModules) = false := beq_eq_false_iff_ne.mpr (by
        have := I1.big
        rw [hsz]
        exact Nat.ne_of_gt (Nat.lt_of_lt_of_le this (Nat.le_add_right _ _)))
      have hlen : (mergeK [] (ks.zip vs)).length ≤ sizeLine := by
        refine Nat.le_trans (length_mergeK _ []) ?_
        have e9 := k1.length
        simp only [List.length_nil]
        omega
      have hle : s1.heap.objs.size ≤ h'.objs.size := by rw [hsz]; exact Nat.le_add_right _ _
      exact ⟨.ref _, upd H1 _ (.dK (mergeK [] (ks.zip vs))), I1.laid (t' := tk) (fun c ob w => kp c ob (fun x => by
        have lt := Heap.lt_size w
        simp only [List.mem_cons, List.not_mem_nil, or_false] at x
        rcases x with x | x | x | x <;> (rw [x] at lt; first | exact absurd lt (Nat.not_lt.mpr (Nat.le_add_right _ _)) | exact absurd lt (Nat.lt_irrefl _))) (hk c ob w)) hle ⟨hlen, lo, merged [] prs, KV.merge k1 .nil, hd'⟩, rfl, q _ (I1.hok.fresh hle)⟩
end
section
variable {nm : Nm}
def keysD : List D → Option (List Key)
  | [] => some []
  | d :: ds => match keyOf d, keysD ds with
    | some k, some ks => some (k :: ks)
    | _, _ => none
theorem keysD_V {K : KW} {F : Hp} : ∀ {xs : List V} {ds : List D} {ks : List Key}, DpAll K F xs ds → keysD ds = some ks → xs = ks.map kV
  | _, _, _, .nil, e => by cases e; rfl
  | _, _, _, .cons h t, e => by
    unfold keysD at e
    split at e
    · rename_i k ks h1 h2
      cases e
      rw [kV_dp h h1, keysD_V t h2]
      rfl
    · cases e
theorem prR_zip {K : KW} {F : Hp} : ∀ (ks : List Key) {vs : List V} {ds : List D}, DpAll K F vs ds → PrR K F (ks.zip vs) (ks.zip ds)
  | [], _, _, _ => .nil
  | _ :: _, _, _, .nil => .nil
  | _ :: ks, _, _, .cons h t => .cons h (prR_zip ks t)
def semDZ (a b : En → Option (D × En)) : En → Option (D × En) := fun ρ => bnd (a ρ) fun x ρ1 => bnd (b ρ1) fun y ρ2 => match x, y with
  | .list xs, .list ys => (keysD xs).map fun ks => (.dict (mergeD [] (ks.zip ys)), ρ2)
  | _, _ => none
/-- dict(zip(a, b)) -/
def mDictZip (a b : CE nm) (dpos zpos cpos pos : Pos) (hg : nm.sc.names.lookup ("dict" : Str) = some .globalImplicit) (hg2 : nm.sc.names.lookup ("zip" : Str) = some .globalImplicit) : CM nm where
  syn := .Call (.Name "dict" dpos) [.Call (.Name "zip" zpos) [a.syn, b.syn] [] cpos] [] pos
  sem := semDZ a.sem b.sem
  pl := rfl
  snd := fun X G => by
    have gl : ∀ y, nm.sc.names.lookup y = some .globalImplicit → Gl X y := fun y hy => by show X.env.scope.names.lookup y = _; rw [G.sc]; exact hy
    refine PE.imp (pe_dictZip G.calm (gl _ hg) (G.blt "dict" (by decide)) (gl _ hg2) (G.blt "zip" (by decide)) (pa_cons (a.snd X G) (pa_cons (b.snd X G) pa_nil (Pl.star b.pl _ _)) (Pl.star a.pl _ _)) (Pl.star a.pl _ _) (starred_tail (es := [b.syn]) (fun e he => by rw [List.mem_singleton.mp he]; exact b.pl) _ _)) fun σ H Q h => ?_
    obtain ⟨F, ρ, g, d, ρ', e, q⟩ := h
    obtain ⟨x, ρ1, e1, e⟩ := bnd_some e
    obtain ⟨y, ρ2, e2, e⟩ := bnd_some e
    split at e
    case h_2 => cases e
    rename_i xs ys
    obtain ⟨ks, e3, e4⟩ := Option.map_eq_some_iff.mp e
    cases e4
    refine ⟨F, ρ, g, _, ρ1, e1, fun v1 F1 H1 g1 f1 d1 => ⟨F1, ρ1, g1, _, _, e2, fun v2 F2 H2 g2 f2 d2 => ?_⟩⟩
    obtain ⟨a', l1, rfl, q1, r1⟩ := (Dp.mono f2.leF d1).lstOf
    obtain ⟨b', l2, rfl, q2, r2⟩ := d2.lstOf
    obtain rfl := keysD_V r1 e3
    refine ⟨a', b', ks, l2, rfl, .inl (Rd.up q1 g2.le), .inl (Rd.up q2 g2.le), fun p hp => ?_⟩
    have hz : (mergeK [] (ks.zip l2)).length ≤ sizeLine := by
      refine Nat.le_trans (length_mergeK _ []) ?_
      have h1 := g2.szL q2
      rw [List.length_nil, List.length_zip]
      omega
    obtain ⟨g3, f3, no, hf, c⟩ := g2.newD hp hz ((prR_zip ks r2).merge .nil)
    exact q _ _ _ g3 (f1.trans (f2.trans f3)) (f1.th _ (f2.th _ hp)) no hf c
/-! ### list(range(n)) -/
theorem dpRange {K : KW} {F : Hp} (n : Nat) (m : Int) (hm : (m - 0).toNat = n) : DpAll K F (rgV 0 m) (rangeD 0 n) := by
  subst hm
  unfold rgV rangeD
  generalize (m - 0).toNat = n
  have go : ∀ l : List Nat, DpAll K F (l.map fun i => V.int (0 + (i : Nat))) (l.map fun (i : Nat) => (.int (0 + (i : Int)) : D)) := by
    intro l
    induction l with
    | nil => exact .nil
    | cons c l ih => exact .cons (.int _) ih
  exact go _
def semListRg (a : En → Option (D × En)) : En → Option (List D × En) := fun ρ => bnd (a ρ) fun d ρ1 => match d with
  | .int n => if 0 ≤ n ∧ n ≤ 4000 then some (rangeD 0 n.toNat, ρ1) else none
  | _ => none
def nListRange (a : CE nm) (lpos rpos cpos pos : Pos) (hg : nm.sc.names.lookup ("list" : Str) = some .globalImplicit) (hg2 : nm.sc.names.lookup ("range" : Str) = some .globalImplicit) : CN nm where
  syn := .Call (.Name "list" lpos) [.Call (.Name "range" rpos) [a.syn] [] cpos] [] pos
  sem := semListRg a.sem
  pl := rfl
  snd := fun X G => by
    have gl : ∀ y, nm.sc.names.lookup y = some .globalImplicit → Gl X y := fun y hy => by show X.env.scope.names.lookup y = _; rw [G.sc]; exact hy
    refine PE.imp (pe_listRg G.calm (gl _ hg) (G.blt "list" (by decide)) (prg_1 (gl _ hg2) (G.blt "range" (by decide)) (a.snd X G) (Pl.star a.pl _ _))) fun σ H Q h => ?_
    obtain ⟨F, ρ, g, ds, ρ', e, q⟩ := h
    obtain ⟨d, ρ1, e1, e⟩ := bnd_some e
    split at e
    case h_2 => cases e
    rename_i n
    obtain ⟨⟨hz, hz2⟩, e⟩ := ite_sm e
    cases e
    refine ⟨F, ρ, g, _, ρ', e1, fun v1 F1 H1 g1 f1 d1 => ?_⟩
    cases d1
    refine ⟨n, rfl, RgOk.of_le (by omega) (by omega) (by omega) hz, fun p hp => ?_⟩
    obtain ⟨g3, f3, no, hf⟩ := g1.newN (vs := rgV 0 n) hp (by rw [rgV_length, sizeLine_eq]; omega) (dpRange (K := kw X) (F := F1) n.toNat n (by omega))
    exact q _ _ _ _ g3 (f1.trans f3) (f1.th _ hp) no hf upd_same (dpRange _ _ (by omega))
/-- a, b, c = [..], a comprehension -/
def sAsgGC (t : CG nm) (e : CE nm) (pos : Pos) (hs : ∀ X, Gd nm X → swapsWithSole [t.syn] e.syn pos.line X.env = pure false) (hw : ∀ X, Gd nm X → swappedStores [t.syn] e.syn X.env = pure none) : CS nm where
  syn := .Assign [t.syn] e.syn pos
  sem := semAsgG t.sem e.sem
  snd := fun X G => PS.imp (ps_asg (e.snd X G) (t.snd X G) (hs X G) (hw X G) (by rw [asgEach t.pl]; rfl)) fun D σ H h => by
    obtain ⟨F, ρ, g, fl, e0, p⟩ := h
    obtain ⟨d, ρ1, e1, e0⟩ := bnd_some e0
    obtain ⟨ρ2, e2, e3⟩ := Option.map_eq_some_iff.mp e0
    cases e3
    refine ⟨F, ρ, g, d, ρ1, e1, fun v F1 H1 g1 f1 d1 => ?_⟩
    exact ⟨F1, ρ1, d, g1, d1, ρ2, e2, fun σ2 F2 H2 g2 f2 i2 _ _ => p σ2 F2 H2 g2 (f1.trans f2) i2⟩
/-! ### (a, b, ..) = a list of that length -/
theorem pg_tupL {X : Cx} {es : List Expr} {k : Nat} {t : TGs} {n : Nat} {pos : Pos} (hc : X.calm = true) (h : PGs X es t)
    (hn : (assignEach es X.env).length = n) (hst : (assignEach es X.env).findIdx? (·.1) = none) : PG X (.Tuple es k pos) (fun v σ H Q => ∃ a xs, v = .ref a ∧ SqL X.K H a xs ∧ xs.length = n ∧ t xs σ H Q) := by
  refine ⟨fun pins s σ H v u Q I r hw => ?_⟩
  obtain ⟨a, xs, e1, hq, hl, hw⟩ := hw
  subst e1
  cases r
  obtain ⟨its, rv, pl, hz⟩ := I.list hq
  rw [PyProof.Rows.assign_Tuple]
  refine wpAny_bind (wpAny_standAt ?_)
  unfold unpack
  have hs : (assignEach es X.env).length = its.toArray.size := by simp [hn, ← hl, rv.length]
  rw [hs, hst]
  refine wpAny_bind (wpAny_holding (PySem.W.kun_itemsOf (I.ok.hd hc) pl.isList fun h' hx => ?_))
  have I1 : Inv X pins σ H { s with heap := h' } := I.kept (t' := s.toks) fun b o e => hx b o (Nat.ne_of_lt (Heap.lt_size e)) e
  exact h.run pins _ σ H xs _ Q I1 (by simpa using rv) hw
def semGLst (n : Nat) (b : List D → En → Option En) : D → En → Option En
  | .list ds, ρ => if ds.length = n then b ds ρ else none
  | _, _ => none
def gTpL (b : CGs nm) (k : Nat) (pos : Pos) : CG nm where
  syn := .Tuple b.syn k pos
  sem := semGLst b.syn.length b.sem
  sl := b.sl
  pl := rfl
  snd := fun X G => PG.imp (pg_tupL G.calm (b.snd X G) (asgEach_len b.pl X.env).1 (asgEach_len b.pl X.env).2) fun v σ H Q h => by
    obtain ⟨F, ρ, d, g, r, ρ', e, q⟩ := h
    unfold semGLst at e
    split at e
    · obtain ⟨a, xs, rfl, qa, ra⟩ := r.lstOf
      split at e
      · rename_i hl
        exact ⟨a, xs, rfl, .inl (Rd.up qa g.le), (DpAll.length ra).trans hl, F, ρ, _, g, ra, ρ', e, q⟩
      · cases e
    · cases e
end
end FL
end L2

/-! M0: what is wanted behind a meaning, step by step (rules for simp) -/
namespace L2
namespace FL
open PySem
def Oq {α : Type} : Option (α × En) → (α → En → Prop) → Prop
  | some (a, r), Q => Q a r
  | none, _ => False
def Wp {α : Type} : Option α → (α → Prop) → Prop
  | some a, Q => Q a
  | none, _ => False
def Wx {α : Type} (m : En → Option (α × En)) (ρ : En) (Q : α → En → Prop) : Prop := Oq (m ρ) Q
def WS (m : En → Option Fl) (ρ : En) (Q : Fl → Prop) : Prop := Wp (m ρ) Q
def WC (f : List Sl → Option (D × List Sl)) (as : List Sl) (Q : D → List Sl → Prop) : Prop := Wp (f as) fun p => Q p.1 p.2
def WG (g : D → En → Option En) (d : D) (ρ : En) (Q : En → Prop) : Prop := Wp (g d ρ) Q
def WGs (g : List D → En → Option En) (ds : List D) (ρ : En) (Q : En → Prop) : Prop := Wp (g ds ρ) Q
section
variable {α β : Type} {ρ : En}
theorem Wp.ex {o : Option α} {Q : α → Prop} : Wp o Q ↔ ∃ a, o = .some a ∧ Q a := by cases o <;> simp [Wp]
theorem Wp.so {a : α} {Q : α → Prop} : Wp (.some a) Q ↔ Q a := Iff.rfl
theorem Wp.no {Q : α → Prop} : Wp .none Q ↔ False := Iff.rfl
theorem Wp.ite {c : Prop} [Decidable c] {a : α} {Q : α → Prop} : Wp (if c then .some a else .none) Q ↔ c ∧ Q a := by
  by_cases h : c <;> simp [h, Wp]
theorem Wp.iteO {c : Prop} [Decidable c] {a : Option α} {Q : α → Prop} : Wp (if c then a else .none) Q ↔ c ∧ Wp a Q := by
  by_cases h : c <;> simp [h, Wp]
theorem Wp.map {o : Option β} {f : β → α} {Q : α → Prop} : Wp (o.map f) Q ↔ Wp o fun b => Q (f b) := by cases o <;> rfl
theorem Wp.bind {o : Option β} {f : β → Option α} {Q : α → Prop} : Wp (o.bind f) Q ↔ Wp o fun b => Wp (f b) Q := by cases o <;> rfl
theorem Wp.mono {o : Option α} {Q Q' : α → Prop} (h : Wp o Q) (hq : ∀ a, Q a → Q' a) : Wp o Q' := by
  cases o with
  | none => exact h
  | some a => exact hq a h
theorem Wp.congr {o : Option α} {Q Q' : α → Prop} (hq : ∀ a, Q a ↔ Q' a) : Wp o Q ↔ Wp o Q' := ⟨fun h => h.mono fun a => (hq a).mp, fun h => h.mono fun a => (hq a).mpr⟩
theorem Oq.mono {o : Option (α × En)} {Q Q' : α → En → Prop} (h : Oq o Q) (hq : ∀ a r, Q a r → Q' a r) : Oq o Q' := by
  cases o with
  | none => exact h
  | some p => exact hq p.1 p.2 h
theorem Oq.congr {o : Option (α × En)} {Q Q' : α → En → Prop} (hq : ∀ a r, Q a r ↔ Q' a r) : Oq o Q ↔ Oq o Q' := ⟨fun h => h.mono fun a r => (hq a r).mp, fun h => h.mono fun a r => (hq a r).mpr⟩
theorem Wx.mono {m : En → Option (α × En)} {Q Q' : α → En → Prop} (h : Wx m ρ Q) (hq : ∀ a ρ', Q a ρ' → Q' a ρ') : Wx m ρ Q' := Oq.mono h hq
theorem WS.mono {m : En → Option Fl} {Q Q' : Fl → Prop} (h : WS m ρ Q) (hq : ∀ f, Q f → Q' f) : WS m ρ Q' := Wp.mono h hq
theorem WC.mono {f : List Sl → Option (D × List Sl)} {as : List Sl} {Q Q' : D → List Sl → Prop} (h : WC f as Q) (hq : ∀ d os, Q d os → Q' d os) : WC f as Q' := Wp.mono h fun p => hq p.1 p.2
theorem oq_bnd {m : Option (β × En)} {f : β → En → Option (α × En)} {Q : α → En → Prop} : Oq (bnd m f) Q ↔ Oq m fun b ρ1 => Oq (f b ρ1) Q := by
  cases m with
  | none => exact Iff.rfl
  | some p => exact Iff.rfl
theorem wp_bnd {m : Option (β × En)} {f : β → En → Option α} {Q : α → Prop} : Wp (bnd m f) Q ↔ Oq m fun b ρ1 => Wp (f b ρ1) Q := by
  cases m with
  | none => exact Iff.rfl
  | some p => exact Iff.rfl
theorem oq_map {o : Option β} {f : β → α} {ρ1 : En} {Q : α → En → Prop} : Oq (o.map fun b => (f b, ρ1)) Q ↔ Wp o fun b => Q (f b) ρ1 := by cases o <;> exact Iff.rfl
theorem oq_ite {c : Prop} [Decidable c] {o : Option (α × En)} {Q : α → En → Prop} : Oq (if c then o else none) Q ↔ c ∧ Oq o Q := by
  by_cases h : c <;> simp [h, Oq]
theorem wp_ite {c : Prop} [Decidable c] {o : Option α} {Q : α → Prop} : Wp (if c then o else none) Q ↔ c ∧ Wp o Q := Wp.iteO
theorem oq_so {a : α} {Q : α → En → Prop} : Oq (some (a, ρ)) Q ↔ Q a ρ := Iff.rfl
theorem oq_b {c : Bool} {x y : Option (α × En)} {Q : α → En → Prop} : Oq (if c = true then x else y) Q ↔ (c = true → Oq x Q) ∧ (c = false → Oq y Q) := by cases c <;> simp
theorem wp_b {c : Bool} {x y : Option α} {Q : α → Prop} : Wp (if c = true then x else y) Q ↔ (c = true → Wp x Q) ∧ (c = false → Wp y Q) := by cases c <;> simp
variable {Q : D → En → Prop} {QB : Bool → En → Prop} {QL : List D → En → Prop} {QA : List Ar → En → Prop} {QO : Option Int → En → Prop} {QS : Fl → Prop}
variable {a b c e : En → Option (D × En)} {t u : En → Option (Bool × En)} {n : En → Option (List D × En)} {l h : En → Option (Option Int × En)} {as : En → Option (List Ar × En)} {s s' : En → Option Fl} {i : Nat}
/-- a slot read -/
def Rdd (x : Option Sl) (i : Nat) (ρ : En) (Q : D → En → Prop) : Prop := match x with
  | some (.val d) => Q d ρ
  | some (.own d) => Q d (ρ.set i (.val d))
  | _ => False
theorem Rdd.val {d : D} : Rdd (.some (.val d)) i ρ Q ↔ Q d ρ := Iff.rfl
theorem Rdd.own {d : D} : Rdd (.some (.own d)) i ρ Q ↔ Q d (ρ.set i (.val d)) := Iff.rfl
theorem w_cst {d : D} : Wx (cst d) ρ Q ↔ Q d ρ := Iff.rfl
theorem w_rd : Wx (rd i) ρ Q ↔ Rdd ρ[i]? i ρ Q := by
  unfold Wx rd Rdd
  generalize ρ[i]? = x
  cases x with
  | none => exact Iff.rfl
  | some z =>
    cases z with
    | un => exact Iff.rfl
    | val d => exact Iff.rfl
    | own d => exact Iff.rfl
theorem w_bin {f : D → D → Option D} : Wx (semBin f a b) ρ Q ↔ Wx a ρ fun x ρ1 => Wx b ρ1 fun y ρ2 => Wp (f x y) fun d => Q d ρ2 := by
  unfold semBin Wx
  simp only [oq_bnd, oq_map]
theorem w_un {f : D → Option D} : Wx (semUn f a) ρ Q ↔ Wx a ρ fun x ρ1 => Wp (f x) fun d => Q d ρ1 := by
  unfold semUn Wx
  simp only [oq_bnd, oq_map]
theorem w_n1 {f : D → Option (List D)} : Wx (semN1 f a) ρ QL ↔ Wx a ρ fun x ρ1 => Wp (f x) fun d => QL d ρ1 := by
  unfold semN1 Wx
  simp only [oq_bnd, oq_map]
theorem w_T : Wx (semT a) ρ QB ↔ Wx a ρ fun x ρ1 => Wp (asB x) fun d => QB d ρ1 := by
  unfold semT Wx
  simp only [oq_bnd, oq_map]
theorem w_frz : Wx (semFrz n) ρ Q ↔ Wx n ρ fun x ρ1 => Q (.list x) ρ1 := by
  unfold semFrz Wx
  simp only [oq_bnd, oq_so]
theorem w_and : Wx (semAnd t u) ρ QB ↔ Wx t ρ fun c ρ1 => (c = true → Wx u ρ1 QB) ∧ (c = false → QB false ρ1) := by
  unfold semAnd Wx
  simp only [oq_bnd, oq_b, oq_so]
theorem w_or : Wx (semOr t u) ρ QB ↔ Wx t ρ fun c ρ1 => (c = true → QB true ρ1) ∧ (c = false → Wx u ρ1 QB) := by
  unfold semOr Wx
  simp only [oq_bnd, oq_b, oq_so]
theorem w_not : Wx (semNot t) ρ QB ↔ Wx t ρ fun c ρ1 => QB (!c) ρ1 := by
  unfold semNot Wx
  simp only [oq_bnd, oq_so]
theorem w_andV : Wx (semAndV a b) ρ Q ↔ Wx (semT a) ρ fun c ρ1 => (c = true → Wx b ρ1 Q) ∧ (c = false → Q (.bool false) ρ1) := by
  unfold semAndV Wx
  simp only [oq_bnd, oq_b, oq_so]
theorem w_orV : Wx (semOrV a b) ρ Q ↔ Wx (semT a) ρ fun c ρ1 => (c = true → Q (.bool true) ρ1) ∧ (c = false → Wx b ρ1 Q) := by
  unfold semOrV Wx
  simp only [oq_bnd, oq_b, oq_so]
theorem w_notV : Wx (semNotV a) ρ Q ↔ Wx (semT a) ρ fun c ρ1 => Q (.bool !c) ρ1 := by
  unfold semNotV Wx
  simp only [oq_bnd, oq_so]
theorem w_if : Wx (semIf t a b) ρ Q ↔ Wx t ρ fun c ρ1 => (c = true → Wx a ρ1 Q) ∧ (c = false → Wx b ρ1 Q) := by
  unfold semIf Wx
  simp only [oq_bnd, oq_b]
theorem w_chain {f f' : D → D → Option D} : Wx (semChain f f' a b e) ρ Q ↔ Wx a ρ fun x ρ1 => Wx b ρ1 fun y ρ2 => Wp (f x y) fun d => Wp (asB d) fun c => (c = true → Wx e ρ2 fun z ρ3 => Wp (f' y z) fun d => Q d ρ3) ∧ (c = false → Q (.bool false) ρ2) := by
  unfold semChain Wx
  simp only [oq_bnd]
  refine Oq.congr fun x r => Oq.congr fun y r2 => ?_
  cases f x y with
  | none => exact Iff.rfl
  | some d =>
    show Oq (match asB d with | some true => _ | some false => _ | none => _) Q ↔ Wp (asB d) _
    cases asB d with
    | none => exact Iff.rfl
    | some c =>
      cases c with
      | false => simp [Wp, Oq]
      | true => simp [Wp, oq_bnd, oq_map]
theorem w_tup : Wx (semTup as) ρ Q ↔ Wx as ρ fun l ρ1 => Wp (asDs l) fun ds => small ds = true ∧ Q (.tuple ds) ρ1 := by
  unfold semTup Wx
  simp only [oq_bnd]
  refine Oq.congr fun x r => ?_
  cases asDs x with
  | none => exact Iff.rfl
  | some ds => exact oq_ite
theorem w_lst : Wx (semLst as) ρ QL ↔ Wx as ρ fun l ρ1 => Wp (asDs l) fun ds => small ds = true ∧ QL ds ρ1 := by
  unfold semLst Wx
  simp only [oq_bnd]
  refine Oq.congr fun x r => ?_
  cases asDs x with
  | none => exact Iff.rfl
  | some ds => exact oq_ite
theorem w_nil : Wx semNil ρ QA ↔ QA [] ρ := Iff.rfl
theorem w_cons : Wx (semCons a as) ρ QA ↔ Wx a ρ fun d ρ1 => Wx as ρ1 fun l ρ2 => QA (.d d :: l) ρ2 := by
  unfold semCons Wx
  simp only [oq_bnd, oq_so]
def Lnd (x : Option Sl) (P : Prop) : Prop := match x with
  | some (.own _) => P
  | _ => False
theorem Lnd.own {d : D} {P : Prop} : Lnd (.some (.own d)) P ↔ P := Iff.rfl
theorem w_lend : Wx (semLend i as) ρ QA ↔ Lnd ρ[i]? (Wx as ρ fun l ρ2 => QA (.o i :: l) ρ2) := by
  unfold semLend Lnd Wx
  dsimp only
  generalize ρ[i]? = x
  cases x with
  | none => exact Iff.rfl
  | some z =>
    cases z with
    | un => exact Iff.rfl
    | val d => exact Iff.rfl
    | own d => simp only [oq_bnd, oq_so]
theorem w_call {p : Prom} : Wx (semCall p as) ρ Q ↔ Wx as ρ fun l ρ1 => (lentOk ρ1 l = true ∧ l.length = p.ps.length) ∧ WC p.sem (l.map (toSl ρ1)) fun d os => Wp (putBack ρ1 l os) fun ρ2 => Q d ρ2 := by
  unfold semCall Wx
  simp only [oq_bnd]
  refine Oq.congr fun x r => ?_
  rw [oq_ite]
  refine and_congr_right fun _ => ?_
  unfold WC
  cases p.sem (x.map (toSl r)) with
  | none => exact Iff.rfl
  | some q =>
    obtain ⟨d, os⟩ := q
    show Oq ((putBack r x os).map fun ρ2 => (d, ρ2)) Q ↔ Wp (putBack r x os) fun ρ2 => Q d ρ2
    cases putBack r x os <;> exact Iff.rfl
def Own1 (x : Option Sl) (P : List D → Prop) : Prop := match x with
  | some (.own (.list ds)) => P ds
  | _ => False
theorem Own1.mk {ds : List D} {P : List D → Prop} : Own1 (.some (.own (.list ds))) P ↔ P ds := Iff.rfl
theorem w_oidx : Wx (semOIdx i a) ρ Q ↔ isOwn ρ[i]? = true ∧ Wx a ρ fun k ρ1 => Own1 ρ1[i]? fun ds => Wp (dIdx (.list ds) k) fun d => Q d ρ1 := by
  unfold semOIdx Wx
  rw [oq_ite]
  refine and_congr_right fun _ => ?_
  rw [oq_bnd]
  refine Oq.congr fun k r => ?_
  unfold Own1
  dsimp only
  generalize r[i]? = x
  cases x with
  | none => exact Iff.rfl
  | some z =>
    cases z with
    | un => exact Iff.rfl
    | val d => exact Iff.rfl
    | own d =>
      cases d <;> first | exact Iff.rfl | skip
      exact oq_map
theorem w_BF : Wx (semBF a) ρ Q ↔ Wx a (ρ.map thawS) fun d _ => flatD d = true ∧ Q d ρ := by
  unfold semBF Wx
  rw [oq_bnd]
  exact Oq.congr fun d r => oq_ite
theorem w_BT : Wx (semBT t) ρ QB ↔ Wx t (ρ.map thawS) fun d _ => QB d ρ := by
  unfold semBT Wx
  simp only [oq_bnd, oq_so]
theorem w_oNone : Wx semONone ρ QO ↔ QO none ρ := Iff.rfl
def asI : D → Option Int
  | .int i => some i
  | _ => none
theorem w_oSome : Wx (semOSome a) ρ QO ↔ Wx a ρ fun d ρ1 => Wp (asI d) fun k => QO (some k) ρ1 := by
  unfold semOSome Wx
  rw [oq_bnd]
  refine Oq.congr fun d r => ?_
  cases d <;> exact Iff.rfl
theorem w_cut : Wx (semCut a l h) ρ Q ↔ Wx a ρ fun d ρ1 => Wx l ρ1 fun lo ρ2 => Wx h ρ2 fun hi ρ3 => Wp (dCut d lo hi) fun x => Q x ρ3 := by
  unfold semCut Wx
  simp only [oq_bnd, oq_map]
def cat2 : D → D → Option (List D)
  | .list a, .list b => if a.length + b.length ≤ sizeLine then some (a ++ b) else none
  | _, _ => none
theorem w_catN : Wx (semCatN a b) ρ QL ↔ Wx a ρ fun x ρ1 => Wx b ρ1 fun y ρ2 => Wp (cat2 x y) fun ds => QL ds ρ2 := by
  unfold semCatN Wx
  simp only [oq_bnd]
  refine Oq.congr fun x r => Oq.congr fun y r2 => ?_
  unfold cat2
  cases x <;> cases y <;> first | exact Iff.rfl | skip
  show Oq (if _ then _ else none) QL ↔ Wp (if _ then _ else none) _
  rw [oq_ite, wp_ite]
  exact Iff.rfl
theorem w_app : Wx (semApp i a) ρ Q ↔ isOwnL ρ[i]? = true ∧ Wx a ρ fun d ρ1 => Own1 ρ1[i]? fun ds => ds.length < sizeLine ∧ Q .none (ρ1.set i (.own (.list (ds ++ [d])))) := by
  unfold semApp Wx
  rw [oq_ite]
  refine and_congr_right fun _ => ?_
  rw [oq_bnd]
  refine Oq.congr fun k r => ?_
  unfold Own1
  dsimp only
  generalize r[i]? = x
  cases x with
  | none => exact Iff.rfl
  | some z =>
    cases z with
    | un => exact Iff.rfl
    | val d => exact Iff.rfl
    | own d =>
      cases d <;> first | exact Iff.rfl | skip
      exact oq_ite
theorem w_pop : Wx (semPop i a) ρ Q ↔ isOwnL ρ[i]? = true ∧ Wx a ρ fun k ρ1 => Wp (asI k) fun m => Own1 ρ1[i]? fun ds => (0 ≤ m ∧ m < ds.length) ∧ Wp ds[m.toNat]? fun y => Q y (ρ1.set i (.own (.list (ds.eraseIdx m.toNat)))) := by
  unfold semPop Wx
  rw [oq_ite]
  refine and_congr_right fun _ => ?_
  rw [oq_bnd]
  refine Oq.congr fun k r => ?_
  cases k <;> simp only [asI, Wp.no, Wp.so]
  case int m =>
    unfold Own1
    cases e : r[i]? with
    | none => exact Iff.rfl
    | some z =>
      cases z with
      | un => exact Iff.rfl
      | val d => exact Iff.rfl
      | own d =>
        cases d <;> first | exact Iff.rfl | skip
        show Oq (if _ then _ else none) Q ↔ _
        rw [oq_ite, oq_map]
  all_goals (split <;> first | contradiction | exact Iff.rfl)
theorem w_ins : Wx (semIns i a b) ρ Q ↔ isOwnL ρ[i]? = true ∧ Wx a ρ fun k ρ1 => Wx b ρ1 fun d ρ2 => Wp (asI k) fun m => Own1 ρ2[i]? fun ds => (0 ≤ m ∧ m ≤ sizeLine ∧ ds.length < sizeLine) ∧ Q .none (ρ2.set i (.own (.list (ds.take m.toNat ++ [d] ++ ds.drop m.toNat)))) := by
  unfold semIns Wx
  rw [oq_ite]
  refine and_congr_right fun _ => ?_
  simp only [oq_bnd]
  refine Oq.congr fun k r => Oq.congr fun d r2 => ?_
  cases k <;> simp only [asI, Wp.no, Wp.so]
  case int m =>
    unfold Own1
    cases e : r2[i]? with
    | none => exact Iff.rfl
    | some z =>
      cases z with
      | un => exact Iff.rfl
      | val d => exact Iff.rfl
      | own d =>
        cases d <;> first | exact Iff.rfl | skip
        show Oq (if _ then _ else none) Q ↔ _
        rw [oq_ite, oq_so]
  all_goals (split <;> first | contradiction | exact Iff.rfl)
/-! ### statements -/
theorem w_asg : WS (semAsg i a) ρ QS ↔ Wx a ρ fun d ρ1 => QS (.nx (ρ1.set i (.val d))) := by
  unfold semAsg WS
  rw [wp_bnd]; exact Iff.rfl
theorem w_asgN : WS (semAsgN i n) ρ QS ↔ Wx n ρ fun d ρ1 => QS (.nx (ρ1.set i (.own (.list d)))) := by
  unfold semAsgN WS
  rw [wp_bnd]; exact Iff.rfl
theorem w_asgG {g : D → En → Option En} : WS (semAsgG g a) ρ QS ↔ Wx a ρ fun d ρ1 => WG g d ρ1 fun ρ2 => QS (.nx ρ2) := by
  unfold semAsgG WS
  rw [wp_bnd]
  exact Oq.congr fun d r => Wp.map
theorem w_drop : WS (semDrop a) ρ QS ↔ Wx a ρ fun _ ρ1 => QS (.nx ρ1) := by
  unfold semDrop WS
  rw [wp_bnd]; exact Iff.rfl
theorem w_ret : WS (semRet a) ρ QS ↔ Wx a ρ fun d ρ1 => QS (.rt d ρ1) := by
  unfold semRet WS
  rw [wp_bnd]; exact Iff.rfl
theorem w_ifS : WS (semIfS t s s') ρ QS ↔ Wx t ρ fun c ρ1 => (c = true → WS s ρ1 QS) ∧ (c = false → WS s' ρ1 QS) := by
  unfold semIfS WS
  rw [wp_bnd]
  exact Oq.congr fun c r => wp_b
theorem w_par {i j : Nat} {a b : En → Option (D × En)} : WS (semPar i j a b) ρ QS ↔ Wx a ρ fun x ρ1 => Wx b ρ1 fun y ρ2 => QS (.nx ((ρ2.set i (.val x)).set j (.val y))) := by
  unfold semPar WS
  simp only [wp_bnd]
  exact Iff.rfl
theorem w_next : WS semNext ρ QS ↔ QS (.nx ρ) := Iff.rfl
/-- what follows a statement -/
def Sq (s' : En → Option Fl) (QS : Fl → Prop) : Fl → Prop
  | .nx ρ => WS s' ρ QS
  | f => QS f
theorem Sq.nx {ρ : En} : Sq s' QS (.nx ρ) ↔ WS s' ρ QS := Iff.rfl
theorem Sq.rt {ρ : En} {d : D} : Sq s' QS (.rt d ρ) ↔ QS (.rt d ρ) := Iff.rfl
theorem Sq.bk {ρ : En} : Sq s' QS (.bk ρ) ↔ QS (.bk ρ) := Iff.rfl
theorem Sq.ct {ρ : En} : Sq s' QS (.ct ρ) ↔ QS (.ct ρ) := Iff.rfl
theorem w_seq : WS (semSeq s s') ρ QS ↔ WS s ρ (Sq s' QS) := by
  unfold semSeq WS
  dsimp only
  generalize s ρ = x
  cases x with
  | none => exact Iff.rfl
  | some f => cases f <;> exact Iff.rfl
theorem w_set : WS (semSet i a b) ρ QS ↔ Wx b ρ fun d ρ1 => isOwn ρ1[i]? = true ∧ Wx a ρ1 fun k ρ2 => Wp (asI k) fun m => Own1 ρ2[i]? fun ds => Wp (ixN ds.length m) fun j => QS (.nx (ρ2.set i (.own (.list (ds.set j d))))) := by
  unfold semSet WS
  rw [wp_bnd]
  refine Oq.congr fun d r => ?_
  rw [wp_ite]
  refine and_congr_right fun _ => ?_
  rw [wp_bnd]
  refine Oq.congr fun k r2 => ?_
  cases k <;> simp only [asI, Wp.no, Wp.so]
  case int m =>
    unfold Own1
    cases e : r2[i]? with
    | none => exact Iff.rfl
    | some z =>
      cases z with
      | un => exact Iff.rfl
      | val d => exact Iff.rfl
      | own d =>
        cases d <;> first | exact Iff.rfl | skip
        exact Wp.map
  all_goals (split <;> first | contradiction | exact Iff.rfl)
/-! ### targets, loops -/
theorem w_G {d : D} {QE : En → Prop} : WG (semG i) d ρ QE ↔ QE (ρ.set i (.val d)) := Iff.rfl
theorem w_GTup {k : Nat} {g : List D → En → Option En} {ds : List D} {QE : En → Prop} : WG (semGTup k g) (.tuple ds) ρ QE ↔ ds.length = k ∧ WGs g ds ρ QE := wp_ite
theorem w_GTupW {k : Nat} {g : List D → En → Option En} {d e : D} {QE : En → Prop} : WG (semGTup k g) (.dict [(.none, d), (.none, e)]) ρ QE ↔ 2 = k ∧ WGs g [d, e] ρ QE := wp_ite
theorem w_GNil {QE : En → Prop} : WGs semGNil [] ρ QE ↔ QE ρ := Iff.rfl
theorem w_GCons {g : D → En → Option En} {gs : List D → En → Option En} {d : D} {ds : List D} {QE : En → Prop} : WGs (semGCons g gs) (d :: ds) ρ QE ↔ WG g d ρ fun ρ1 => WGs gs ds ρ1 QE := Wp.bind
/-- a for loop over ds -/
def WF (g : D → En → Option En) (b : En → Option Fl) (ds : List D) (ρ : En) (QS : Fl → Prop) : Prop := Wp (forS g b ds ρ) QS
theorem w_for {it : En → Option (List D × En)} {g : D → En → Option En} {b : En → Option Fl} : WS (semFor it g b) ρ QS ↔ Wx it ρ fun ds ρ1 => WF g b ds ρ1 QS := wp_bnd
theorem WF.nil {g : D → En → Option En} {b : En → Option Fl} : WF g b [] ρ QS ↔ QS (.nx ρ) := Iff.rfl
/-- what follows a turn -/
def Tn (next : En → Prop) (QS : Fl → Prop) : Fl → Prop
  | .nx ρ => next ρ
  | .ct ρ => next ρ
  | .bk ρ => QS (.nx ρ)
  | .rt d ρ => QS (.rt d ρ)
theorem Tn.nx {next : En → Prop} {ρ : En} : Tn next QS (.nx ρ) ↔ next ρ := Iff.rfl
theorem Tn.ct {next : En → Prop} {ρ : En} : Tn next QS (.ct ρ) ↔ next ρ := Iff.rfl
theorem Tn.bk {next : En → Prop} {ρ : En} : Tn next QS (.bk ρ) ↔ QS (.nx ρ) := Iff.rfl
theorem Tn.rt {next : En → Prop} {ρ : En} {d : D} : Tn next QS (.rt d ρ) ↔ QS (.rt d ρ) := Iff.rfl
theorem WF.cons {g : D → En → Option En} {b : En → Option Fl} {d : D} {ds : List D} : WF g b (d :: ds) ρ QS ↔ WG g d ρ fun ρ1 => WS b ρ1 (Tn (fun ρ2 => WF g b ds ρ2 QS) QS) := by
  unfold WF WG WS
  rw [forS]
  cases g d ρ with
  | none => exact Iff.rfl
  | some r =>
    show Wp (match b r with | none => _ | some (.nx ρ2) => _ | some (.ct ρ2) => _ | some (.bk ρ2) => _ | some (.rt d' ρ2) => _) QS ↔ Wp (b r) _
    cases b r with
    | none => exact Iff.rfl
    | some f => cases f <;> exact Iff.rfl
/-- a for loop by what holds between the turns: P of the items taken -/
theorem WF.inv {g : D → En → Option En} {b : En → Option Fl} {ds : List D} (P : List D → List D → En → Prop) (h0 : P [] ds ρ) (ht : ∀ pre d post ρ, P pre (d :: post) ρ → WG g d ρ fun ρ1 => WS b ρ1 (Tn (fun ρ2 => P (pre ++ [d]) post ρ2) QS)) (hd : ∀ ρ, P ds [] ρ → QS (.nx ρ)) : WF g b ds ρ QS := by
  have go : ∀ (post pre : List D) (ρ : En), pre ++ post = ds → P pre post ρ → WF g b post ρ QS := by
    intro post
    induction post with
    | nil =>
      intro pre ρ e p
      rw [List.append_nil] at e
      subst e
      exact WF.nil.mpr (hd ρ p)
    | cons d post ih =>
      intro pre ρ e p
      refine WF.cons.mpr ((ht pre d post ρ p).mono fun r1 h1 => h1.mono fun f q => ?_)
      cases f with
      | nx r2 => exact ih (pre ++ [d]) r2 (by rw [List.append_assoc]; exact e) q
      | ct r2 => exact ih (pre ++ [d]) r2 (by rw [List.append_assoc]; exact e) q
      | bk r2 => exact q
      | rt d' r2 => exact q
  exact go ds [] ρ rfl h0
/-- a comprehension's turns over ds -/
def WLc (g : D → En → Option En) (t : En → Option (Bool × En)) (e : En → Option (D × En)) (vs : List Nat) (ds : List D) (ρ : En) (QL : List D → En → Prop) : Prop := Oq (lcS g t e vs ds ρ) QL
theorem w_lc {it : En → Option (List D × En)} {g : D → En → Option En} {vs : List Nat} : Wx (semLc it g t e vs) ρ QL ↔ Wx it ρ fun ds ρ1 => WLc g t e vs ds (wipeE ρ1 vs) fun ys ρ2 => QL ys (unwipe ρ1 ρ2 vs) := by
  unfold semLc Wx
  rw [oq_bnd]
  exact Oq.congr fun ds r => oq_bnd
theorem WLc.nil {g : D → En → Option En} {vs : List Nat} : WLc g t e vs [] ρ QL ↔ QL [] ρ := Iff.rfl
theorem WLc.cons {g : D → En → Option En} {vs : List Nat} {d : D} {ds : List D} : WLc g t e vs (d :: ds) ρ QL ↔ WG g d ρ fun ρ1 => Wx t ρ1 fun c ρ2 =>
    (c = true → Wx e ρ2 fun y ρ3 => WLc g t e vs ds (wipeE ρ3 vs) fun ys ρ4 => QL (y :: ys) ρ4) ∧ (c = false → WLc g t e vs ds (wipeE ρ2 vs) QL) := by
  unfold WLc WG Wx
  rw [lcS]
  cases g d ρ with
  | none => exact Iff.rfl
  | some r =>
    show Oq (match t r with | none => _ | some (false, ρ2) => _ | some (true, ρ2) => _) QL ↔ Oq (t r) _
    cases t r with
    | none => exact Iff.rfl
    | some p =>
      obtain ⟨c, r2⟩ := p
      cases c with
      | false => simp [Oq]
      | true =>
        simp only [Oq, forall_const, Bool.true_eq_false, false_imp_iff, and_true]
        cases e r2 with
        | none => exact Iff.rfl
        | some p2 =>
          obtain ⟨y, r3⟩ := p2
          show Oq (match lcS g t e vs ds (wipeE r3 vs) with | none => _ | some (ys, ρ4) => _) QL ↔ Oq (lcS g t e vs ds (wipeE r3 vs)) _
          cases lcS g t e vs ds (wipeE r3 vs) with
          | none => exact Iff.rfl
          | some p3 => exact Iff.rfl
theorem WLc.mono {g : D → En → Option En} {vs : List Nat} {ds : List D} {QL' : List D → En → Prop} (h : WLc g t e vs ds ρ QL) (hq : ∀ a r, QL a r → QL' a r) : WLc g t e vs ds ρ QL' := Oq.mono h hq
theorem w_V : Wx (semV a) ρ QL ↔ Wx a ρ fun d ρ1 => Wp (dWalk d) fun ds => QL ds ρ1 := by
  unfold semV Wx
  simp only [oq_bnd, oq_map]
def dR1 : D → Option (List D)
  | .int j => if -(2 ^ 62) ≤ j ∧ j ≤ sizeLine then some (rangeD 0 j.toNat) else none
  | _ => none
theorem w_R1 : Wx (semR1 a) ρ QL ↔ Wx a ρ fun d ρ1 => Wp (dR1 d) fun ds => QL ds ρ1 := by
  unfold semR1 Wx
  rw [oq_bnd]
  refine Oq.congr fun d r => ?_
  cases d <;> first | exact Iff.rfl | skip
  show Oq (if _ then _ else none) QL ↔ Wp (if _ then _ else none) _
  rw [oq_ite, wp_ite]
  exact Iff.rfl
def dR2 : D → D → Option (List D)
  | .int i, .int j => if -(2 ^ 60) ≤ i ∧ i < 2 ^ 60 ∧ -(2 ^ 60) ≤ j ∧ j < 2 ^ 60 ∧ j - i ≤ sizeLine then some (rangeD i (j - i).toNat) else none
  | _, _ => none
theorem w_R2 : Wx (semR2 a b) ρ QL ↔ Wx a ρ fun d ρ1 => Wx b ρ1 fun d' ρ2 => Wp (dR2 d d') fun ds => QL ds ρ2 := by
  unfold semR2 Wx
  simp only [oq_bnd]
  refine Oq.congr fun d r => Oq.congr fun d' r2 => ?_
  unfold dR2
  cases d <;> cases d' <;> first | exact Iff.rfl | skip
  show Oq (if _ then _ else none) QL ↔ Wp (if _ then _ else none) _
  rw [oq_ite, wp_ite]
  exact Iff.rfl
def dZip : D → D → Option (List D)
  | .list a, .list b => some ((a.zip b).map fun p => pairD p.1 p.2)
  | .tuple a, .tuple b => some ((a.zip b).map fun p => pairD p.1 p.2)
  | _, _ => none
theorem w_zip : Wx (semZip a b) ρ QL ↔ Wx a ρ fun d ρ1 => Wx b ρ1 fun d' ρ2 => Wp (dZip d d') fun ds => QL ds ρ2 := by
  unfold semZip Wx
  simp only [oq_bnd]
  refine Oq.congr fun d r => Oq.congr fun d' r2 => ?_
  unfold dZip
  cases d <;> cases d' <;> exact Iff.rfl
def dEnum : D → Option (List D)
  | .list ds => some (enumD ds)
  | .tuple ds => some (enumD ds)
  | _ => none
theorem w_enum : Wx (semEnum a) ρ QL ↔ Wx a ρ fun d ρ1 => Wp (dEnum d) fun ds => QL ds ρ1 := by
  unfold semEnum Wx
  rw [oq_bnd]
  refine Oq.congr fun d r => ?_
  cases d <;> exact Iff.rfl
theorem w_yes : Wx semYes ρ QB ↔ QB true ρ := Iff.rfl
/-- a def run -/
def Re (as : List Sl) (Q : D → List Sl → Prop) : Fl → Prop
  | .rt d ρ => Wp (outs as ρ) fun l => Q d l
  | .nx ρ => Wp (outs as ρ) fun l => Q .none l
  | _ => False
theorem Re.rt {as : List Sl} {Q : D → List Sl → Prop} {d : D} {ρ : En} : Re as Q (.rt d ρ) ↔ Wp (outs as ρ) fun l => Q d l := Iff.rfl
theorem Re.nx {as : List Sl} {Q : D → List Sl → Prop} {ρ : En} : Re as Q (.nx ρ) ↔ Wp (outs as ρ) fun l => Q .none l := Iff.rfl
theorem w_run {io : List Nat} {N : Nat} {m : En → Option Fl} {as : List Sl} {Q : D → List Sl → Prop} : WC (runD io N m) as Q ↔ ioOk io as = true ∧ WS m (as ++ List.replicate (N - as.length) .un) (Re as Q) := by
  unfold WC runD WS
  rw [wp_ite]
  refine and_congr_right fun _ => ?_
  cases m (as ++ List.replicate (N - as.length) .un) with
  | none => exact Iff.rfl
  | some f =>
    cases f with
    | rt d ρ => exact Wp.map
    | nx ρ => exact Wp.map
    | bk ρ => exact Iff.rfl
    | ct ρ => exact Iff.rfl
end
end FL
end L2
namespace L2
namespace FL
open PySem
section
variable {α : Type} {a b c d e f : α} {l : List α}
theorem ixN_lit {n : Nat} {k : Nat} (h : k < n) : ixN n (k : Int) = some k := by
  unfold ixN
  rw [if_pos (by omega), if_pos (by omega)]
  rfl
theorem atI_lit {l : List α} {k : Nat} (h : k < l.length) : atI l (k : Int) = l[k]? := by
  unfold atI
  rw [ixN_lit h]
  rfl
theorem atI_0 : atI (a :: l) 0 = some a := atI_lit (k := 0) (by simp)
theorem atI_1 : atI (a :: b :: l) 1 = some b := atI_lit (k := 1) (by simp)
theorem atI_2 : atI (a :: b :: c :: l) 2 = some c := atI_lit (k := 2) (by simp)
theorem atI_3 : atI (a :: b :: c :: d :: l) 3 = some d := atI_lit (k := 3) (by simp)
theorem atI_4 : atI (a :: b :: c :: d :: e :: l) 4 = some e := atI_lit (k := 4) (by simp)
theorem atI_5 : atI (a :: b :: c :: d :: e :: f :: l) 5 = some f := atI_lit (k := 5) (by simp)
theorem list_at_val {x : D} {i : Nat} {ρ : En} {Q : D → En → Prop} : Rdd (some (.val x)) i ρ Q ↔ Q x ρ := Iff.rfl
end
theorem ixN_0 {n : Nat} (h : 0 < n) : ixN n 0 = some 0 := ixN_lit (k := 0) h
/-- one cell lent, with values -/
def slotsNo : List Ar → Bool
  | [] => true
  | .d _ :: r => slotsNo r
  | .o _ :: _ => false
theorem slotsNo_of : ∀ {as : List Ar}, slotsNo as = true → slotsOf as = []
  | [], _ => rfl
  | .d _ :: r, h => slotsNo_of (as := r) h
  | .o _ :: _, h => nomatch h
theorem slotsNil : slotsOf [] = [] := Eq.trans rfl rfl
theorem slotsD {x : D} {as : List Ar} : slotsOf (.d x :: as) = slotsOf as := Eq.trans rfl rfl
theorem lent1 {i : Nat} {ρ : En} {as : List Ar} (h : slotsOf as = []) : lentOk ρ (.o i :: as) = isOwn ρ[i]? := by
  have e : slotsOf (.o i :: as) = i :: slotsOf as := rfl
  unfold lentOk
  rw [e, h]
  simp
theorem lent0 {ρ : En} : lentOk ρ [] = true := rfl
theorem lentD {ρ : En} {x : D} {as : List Ar} : lentOk ρ (.d x :: as) = lentOk ρ as := rfl
theorem small_mk {ds : List D} : small ds = decide (ds.length ≤ 1000) := rfl
/-! ### operations on data of known kind -/
section
variable {i j : Int} {a b : List D} {x y : Str} {c d : Bool} {z w : D}
theorem fAdd_i : fAdd (.int i) (.int j) = some (.int (i + j)) := rfl
theorem fAdd_s : fAdd (.str x) (.str y) = if x.length + y.length ≤ sizeLine then some (.str (x ++ y)) else none := rfl
theorem fAdd_t : fAdd (.tuple a) (.tuple b) = if a.length + b.length ≤ sizeLine then some (.tuple (a ++ b)) else none := rfl
theorem fAdd_l : fAdd (.list a) (.list b) = if a.length + b.length ≤ sizeLine then some (.list (a ++ b)) else none := rfl
theorem fSub_i : fSub (.int i) (.int j) = some (.int (i - j)) := rfl
theorem fMul_i : fMul (.int i) (.int j) = if i.natAbs < 2 ^ 64 ∨ j.natAbs < 2 ^ 64 then some (.int (i * j)) else none := rfl
theorem fMul_t : fMul (.tuple a) (.int j) = if a ≠ [] ∧ 2 ≤ j ∧ j ≤ 1000 ∧ a.length ≤ 1000 then some (.tuple (List.replicate j.toNat a).flatten) else none := rfl
theorem fMul_l : fMul (.list a) (.int j) = if -(2 ^ 62) ≤ j ∧ j < 2 ^ 62 ∧ a.length * j.toNat ≤ sizeLine then some (.list (List.replicate j.toNat a).flatten) else none := rfl
theorem fFdiv_i : fFdiv (.int i) (.int j) = if 0 < j ∧ j.natAbs.log2 < 9000 then some (.int (i / j)) else none := rfl
theorem fMod_i : fMod (.int i) (.int j) = if 0 < j then some (.int (i % j)) else none := rfl
theorem fPow_i : fPow (.int i) (.int j) = if 0 ≤ j ∧ j ≤ 1000000 ∧ i.natAbs < 2 ^ 64 then some (.int (i ^ j.toNat)) else none := rfl
theorem fLt_i : fLt (.int i) (.int j) = some (.bool (decide (i < j))) := rfl
theorem fLe_i : fLe (.int i) (.int j) = some (.bool (decide (i ≤ j))) := rfl
theorem fGt_i : fGt (.int i) (.int j) = some (.bool (decide (j < i))) := rfl
theorem fGe_i : fGe (.int i) (.int j) = some (.bool (decide (j ≤ i))) := rfl
theorem fLt_s : fLt (.str x) (.str y) = some (.bool (decide (x.cps.toList < y.cps.toList))) := rfl
theorem fNeg_i : fNeg (.int i) = some (.int (-i)) := rfl
theorem fIsN_mk : fIsN z .none = some (.bool (match z with | .none => true | _ => false)) := rfl
theorem fIsN_bb {a b : Bool} : fIsN (.bool a) (.bool b) = some (.bool (a == b)) := rfl
theorem fNotN_bb {a b : Bool} : fNotN (.bool a) (.bool b) = some (.bool (!(a == b))) := rfl
theorem fNotN_mk : fNotN z .none = some (.bool (match z with | .none => false | _ => true)) := rfl
theorem dLen_l : dLen (.list a) = some (.int a.length) := rfl
theorem dLen_t : dLen (.tuple a) = some (.int a.length) := rfl
theorem dLen_s : dLen (.str x) = if x.length ≤ sizeLine then some (.int x.length) else none := rfl
theorem dIdx_l : dIdx (.list a) (.int i) = atI a i := rfl
theorem dIdx_t : dIdx (.tuple a) (.int i) = atI a i := rfl
theorem dIdx_s : dIdx (.str x) (.int i) = if x.length ≤ sizeLine then (atI x.cps.toList i).map fun c => .str ⟨#[c]⟩ else none := rfl
theorem dMax2_i : dMax2 (.int i) (.int j) = some (.int (if j > i then j else i)) := rfl
theorem dMin2_i : dMin2 (.int i) (.int j) = some (.int (if j < i then j else i)) := rfl
theorem dTuple_l : dTuple (.list a) = some (.tuple a) := rfl
theorem dTuple_t : dTuple (.tuple a) = some (.tuple a) := rfl
theorem dItemsS_l : dItemsS (.list a) = some a := rfl
theorem dItemsS_t : dItemsS (.tuple a) = some a := rfl
theorem dItemsS_s : dItemsS (.dict [(.none, .list a)]) = some a := rfl
theorem dWalk_l : dWalk (.list a) = some a := rfl
theorem dWalk_t : dWalk (.tuple a) = some a := rfl
theorem dWalk_s : dWalk (.str x) = if x.length ≤ sizeLine then some (signsD x) else none := rfl
theorem dR1_i : dR1 (.int j) = if -(2 ^ 62) ≤ j ∧ j ≤ sizeLine then some (rangeD 0 j.toNat) else none := rfl
theorem dR2_i : dR2 (.int i) (.int j) = if -(2 ^ 60) ≤ i ∧ i < 2 ^ 60 ∧ -(2 ^ 60) ≤ j ∧ j < 2 ^ 60 ∧ j - i ≤ sizeLine then some (rangeD i (j - i).toNat) else none := rfl
theorem dZip_l : dZip (.list a) (.list b) = some ((a.zip b).map fun p => pairD p.1 p.2) := rfl
theorem dZip_t : dZip (.tuple a) (.tuple b) = some ((a.zip b).map fun p => pairD p.1 p.2) := rfl
theorem dEnum_l : dEnum (.list a) = some (enumD a) := rfl
theorem dEnum_t : dEnum (.tuple a) = some (enumD a) := rfl
theorem dRev_l : dRev (.list a) = some (.list a.reverse) := rfl
theorem dRev_t : dRev (.tuple a) = some (.tuple a.reverse) := rfl
theorem dRevN_l : dRevN (.list a) = some a.reverse := rfl
theorem cat2_l : cat2 (.list a) (.list b) = if a.length + b.length ≤ sizeLine then some (a ++ b) else none := rfl
theorem dCut_l {lo hi : Option Int} : dCut (.list a) lo hi = some (.list (cutL a lo hi)) := rfl
theorem dCut_t {lo hi : Option Int} : dCut (.tuple a) lo hi = some (.tuple (cutL a lo hi)) := rfl
theorem dCut_s {lo hi : Option Int} : dCut (.str x) lo hi = if x.length ≤ sizeLine then some (.str (cutS x lo hi)) else none := rfl
theorem ix30 : ixN 3 0 = some 0 := rfl
theorem ix31 : ixN 3 1 = some 1 := rfl
theorem ix32 : ixN 3 2 = some 2 := rfl
end
/-! which type a thing is of -/
section
variable {i : Int} {b : Bool} {x : Str} {a : List D}
theorem isTy_int_i : isTy "int" (.int i) = true := by rfl
theorem isTy_int_b : isTy "int" (.bool b) = true := by rfl
theorem isTy_int_s : isTy "int" (.str x) = false := by rfl
theorem isTy_int_l : isTy "int" (.list a) = false := by rfl
theorem isTy_int_t : isTy "int" (.tuple a) = false := by rfl
theorem isTy_int_n : isTy "int" .none = false := by rfl
theorem isTy_bool_i : isTy "bool" (.int i) = false := by rfl
theorem isTy_bool_b : isTy "bool" (.bool b) = true := by rfl
theorem isTy_bool_s : isTy "bool" (.str x) = false := by rfl
theorem isTy_bool_l : isTy "bool" (.list a) = false := by rfl
theorem isTy_bool_t : isTy "bool" (.tuple a) = false := by rfl
theorem isTy_bool_n : isTy "bool" .none = false := by rfl
theorem isTy_str_i : isTy "str" (.int i) = false := by rfl
theorem isTy_str_b : isTy "str" (.bool b) = false := by rfl
theorem isTy_str_s : isTy "str" (.str x) = true := by rfl
theorem isTy_str_l : isTy "str" (.list a) = false := by rfl
theorem isTy_str_t : isTy "str" (.tuple a) = false := by rfl
theorem isTy_str_n : isTy "str" .none = false := by rfl
theorem isTy_list_i : isTy "list" (.int i) = false := by rfl
theorem isTy_list_b : isTy "list" (.bool b) = false := by rfl
theorem isTy_list_s : isTy "list" (.str x) = false := by rfl
theorem isTy_list_l : isTy "list" (.list a) = true := by rfl
theorem isTy_list_t : isTy "list" (.tuple a) = false := by rfl
theorem isTy_list_n : isTy "list" .none = false := by rfl
theorem isTy_tuple_i : isTy "tuple" (.int i) = false := by rfl
theorem isTy_tuple_b : isTy "tuple" (.bool b) = false := by rfl
theorem isTy_tuple_s : isTy "tuple" (.str x) = false := by rfl
theorem isTy_tuple_l : isTy "tuple" (.list a) = false := by rfl
theorem isTy_tuple_t : isTy "tuple" (.tuple a) = true := by rfl
theorem isTy_tuple_n : isTy "tuple" .none = false := by rfl
theorem dIsi_i {f : D → Bool} : dIsi f (.int i) = some (.bool (f (.int i))) := rfl
theorem dIsi_b {f : D → Bool} : dIsi f (.bool b) = some (.bool (f (.bool b))) := rfl
theorem dIsi_s {f : D → Bool} : dIsi f (.str x) = some (.bool (f (.str x))) := rfl
theorem dIsi_l {f : D → Bool} : dIsi f (.list a) = some (.bool (f (.list a))) := rfl
theorem dIsi_t {f : D → Bool} : dIsi f (.tuple a) = some (.bool (f (.tuple a))) := rfl
theorem dIsi_n {f : D → Bool} : dIsi f .none = some (.bool (f .none)) := rfl
theorem notDict_i : notDict (.int i) = true := Eq.trans rfl rfl
theorem notDict_b : notDict (.bool b) = true := Eq.trans rfl rfl
theorem notDict_s : notDict (.str x) = true := Eq.trans rfl rfl
theorem notDict_l : notDict (.list a) = true := Eq.trans rfl rfl
theorem notDict_t : notDict (.tuple a) = true := Eq.trans rfl rfl
theorem notDict_n : notDict .none = true := Eq.trans rfl rfl
end
end FL
end L2

/-! M0d: rules for simp: dicts -/
namespace L2
namespace FL
open PySem
section
variable {ρ : En} {Q : D → En → Prop} {QS : Fl → Prop} {a k x e : En → Option (D × En)} {i : Nat}
theorem w_get2 : Wx (semGet2 a k x) ρ Q ↔ Wx a ρ fun d ρ1 => isDict d = true ∧ Wx k ρ1 fun y ρ2 => Wx x ρ2 fun z ρ3 => Wp (dGet d y z) fun r => Q r ρ3 := by
  unfold semGet2 Wx
  simp only [oq_bnd, oq_ite, oq_map]
theorem w_get1 : Wx (semGet1 a k) ρ Q ↔ Wx a ρ fun d ρ1 => isDict d = true ∧ Wx k ρ1 fun y ρ2 => Wp (dGet d y .none) fun r => Q r ρ2 := by
  unfold semGet1 Wx
  simp only [oq_bnd, oq_ite, oq_map]
theorem w_asgM : WS (semAsgM i e) ρ QS ↔ Wx e ρ fun d ρ1 => QS (.nx (ρ1.set i (.own d))) := by
  unfold semAsgM WS
  rw [wp_bnd]; exact Iff.rfl
theorem w_emptyD : Wx semEmptyD ρ Q ↔ Q (.dict []) ρ := Iff.rfl
variable {QP : List (Key × D) → En → Prop} {r : En → Option (List (Key × D) × En)}
theorem w_PNil : Wx semPNil ρ QP ↔ QP [] ρ := Iff.rfl
theorem w_PCons : Wx (semPCons k e r) ρ QP ↔ Wx k ρ fun y ρ1 => Wx e ρ1 fun d ρ2 => Wx r ρ2 fun ps ρ3 => Wp (keyOf y) fun c => QP ((c, d) :: ps) ρ3 := by
  unfold semPCons Wx
  simp only [oq_bnd, oq_map]
theorem w_disp : Wx (semDisp r) ρ Q ↔ Wx r ρ fun ps ρ1 => ps.length ≤ 15 ∧ Q (.dict (mergeD [] ps)) ρ1 := by
  unfold semDisp Wx
  simp only [oq_bnd, oq_ite, oq_so]
def OwnD (x : Option Sl) (P : List (D × D) → Prop) : Prop := match x with
  | some (.own (.dict kvs)) => P kvs
  | _ => False
theorem OwnD.mk {kvs : List (D × D)} {P : List (D × D) → Prop} : OwnD (.some (.own (.dict kvs))) P ↔ P kvs := Iff.rfl
theorem w_odidx : Wx (semODIdx i e) ρ Q ↔ isOwn ρ[i]? = true ∧ Wx e ρ fun y ρ1 => OwnD ρ1[i]? fun kvs => Wp (keyOf y) fun k => okK kvs = true ∧ Wp (lookK kvs k) fun d => Q d ρ1 := by
  unfold semODIdx Wx
  rw [oq_ite]
  refine and_congr_right fun _ => ?_
  rw [oq_bnd]
  refine Oq.congr fun y r => ?_
  unfold OwnD
  cases ho : r[i]? with
  | none => exact Iff.rfl
  | some z =>
    cases z with
    | un => exact Iff.rfl
    | val d => exact Iff.rfl
    | own d =>
      cases d <;> first | exact Iff.rfl | skip
      cases hk : keyOf y with
      | none => exact Iff.rfl
      | some c =>
        show Oq (if _ then _ else none) Q ↔ _
        rw [oq_ite, oq_map]
        exact Iff.rfl
theorem w_dput : WS (semDPut i k e) ρ QS ↔ Wx e ρ fun d ρ1 => isOwn ρ1[i]? = true ∧ Wx k ρ1 fun y ρ2 => OwnD ρ2[i]? fun kvs => Wp (keyOf y) fun c => (okK kvs = true ∧ kvs.length < sizeLine) ∧ QS (.nx (ρ2.set i (.own (.dict (putD kvs c d))))) := by
  unfold semDPut WS
  rw [wp_bnd]
  refine Oq.congr fun d r => ?_
  rw [wp_ite]
  refine and_congr_right fun _ => ?_
  rw [wp_bnd]
  refine Oq.congr fun y r2 => ?_
  unfold OwnD
  cases ho : r2[i]? with
  | none => exact Iff.rfl
  | some z =>
    cases z with
    | un => exact Iff.rfl
    | val d => exact Iff.rfl
    | own d =>
      cases d <;> first | exact Iff.rfl | skip
      cases hk : keyOf y with
      | none => exact Iff.rfl
      | some c =>
        show Wp (if _ then _ else none) QS ↔ _
        rw [wp_ite]
        exact Iff.rfl
theorem w_daug {f : D → D → Option D} : WS (semDAug f i k e) ρ QS ↔ isOwn ρ[i]? = true ∧ Wx k ρ fun y ρ1 => OwnD ρ1[i]? fun kvs => Wp (keyOf y) fun c => (okK kvs = true ∧ kvs.length < sizeLine) ∧ Wp (lookK kvs c) fun d0 => Wx e ρ1 fun d ρ2 =>
    OwnD ρ2[i]? fun kvs' => (okK kvs' = true ∧ kvs'.length < sizeLine) ∧ Wp (f d0 d) fun z => QS (.nx (ρ2.set i (.own (.dict (putD kvs' c z))))) := by
  unfold semDAug WS
  rw [wp_ite]
  refine and_congr_right fun _ => ?_
  rw [wp_bnd]
  refine Oq.congr fun y r => ?_
  unfold OwnD
  cases ho : r[i]? with
  | none => exact Iff.rfl
  | some z =>
    cases z with
    | un => exact Iff.rfl
    | val d => exact Iff.rfl
    | own d =>
      cases d <;> first | exact Iff.rfl | skip
      cases hk : keyOf y with
      | none => exact Iff.rfl
      | some c =>
        show Wp (if _ then _ else none) QS ↔ _
        rw [wp_ite]
        refine and_congr_right fun _ => ?_
        cases hl : lookK _ c with
        | none => exact Iff.rfl
        | some d0 =>
          show Wp (bnd (e r) _) QS ↔ _
          rw [wp_bnd]
          refine Oq.congr fun d r2 => ?_
          cases ho2 : r2[i]? with
          | none => exact Iff.rfl
          | some z =>
            cases z with
            | un => exact Iff.rfl
            | val d => exact Iff.rfl
            | own d =>
              cases d <;> first | exact Iff.rfl | skip
              show Wp (if _ then _ else none) QS ↔ _
              rw [wp_ite, Wp.map]
theorem w_getG {d : D} : Wx (semGetG d k x) ρ Q ↔ Wx k ρ fun y ρ1 => Wx x ρ1 fun z ρ2 => isStrD y = true ∧ Wp (dGet d y z) fun r => Q r ρ2 := by
  unfold semGetG Wx
  simp only [oq_bnd, oq_ite, oq_map]
theorem w_BN {n : En → Option (List D × En)} {QL : List D → En → Prop} : Wx (semBN n) ρ QL ↔ Wx n (ρ.map thawS) fun ds _ => ds.all flatD = true ∧ QL ds ρ := by
  unfold semBN Wx
  rw [oq_bnd]
  exact Oq.congr fun d r => oq_ite
theorem w_apd {as : En → Option (List Ar × En)} {QA : List Ar → En → Prop} : Wx (semApd as e) ρ QA ↔ Wx as ρ fun l ρ1 => Wx e ρ1 fun d ρ2 => QA (l ++ [.d d]) ρ2 := by
  unfold semApd Wx
  simp only [oq_bnd, oq_so]
theorem w_emptyK : Wx semEmptyK ρ Q ↔ Q (.dict [(.bool true, .none)]) ρ := Iff.rfl
/-- a keyed dict of one's own -/
def OwnK (x : Option Sl) (P : List (D × D) → Prop) : Prop := match x with
  | some (.own (.dict ((.bool true, .none) :: kvs))) => P kvs
  | _ => False
theorem OwnK.mk {kvs : List (D × D)} {P : List (D × D) → Prop} : OwnK (.some (.own (.dict ((.bool true, .none) :: kvs)))) P ↔ P kvs := Iff.rfl
theorem ownK_ex {x : Option Sl} {P : List (D × D) → Prop} : OwnK x P ↔ ∃ kvs, x = some (.own (.dict ((.bool true, .none) :: kvs))) ∧ P kvs := by
  constructor
  · intro h
    unfold OwnK at h
    split at h
    · exact ⟨_, rfl, h⟩
    · exact h.elim
  · rintro ⟨kvs, rfl, h⟩
    exact h
theorem w_okidx : Wx (semOKIdx i e) ρ Q ↔ isOwn ρ[i]? = true ∧ Wx e ρ fun y ρ1 => OwnK ρ1[i]? fun kvs => Wp (nkT y) fun k => Wp (lookN kvs k) fun d => Q d ρ1 := by
  unfold semOKIdx Wx
  rw [oq_ite]
  refine and_congr_right fun _ => ?_
  rw [oq_bnd]
  refine Oq.congr fun y r => ?_
  rw [ownK_ex]
  constructor
  · intro h
    split at h
    · rename_i kvs k hc hk
      refine ⟨kvs, hc, ?_⟩
      rw [hk]
      rw [oq_map] at h
      exact h
    · exact h.elim
  · rintro ⟨kvs, hc, h⟩
    obtain ⟨k, hk, h⟩ := Wp.ex.mp h
    rw [hc, hk]
    show Oq ((lookN kvs k).map fun d => (d, r)) Q
    rw [oq_map]
    exact h
theorem w_kput : WS (semKPut i k e) ρ QS ↔ Wx e ρ fun d ρ1 => isOwn ρ1[i]? = true ∧ Wx k ρ1 fun y ρ2 => OwnK ρ2[i]? fun kvs => Wp (nkT y) fun c => kvs.length < sizeLine ∧ QS (.nx (ρ2.set i (.own (.dict ((.bool true, .none) :: putN kvs y c d))))) := by
  unfold semKPut WS
  rw [wp_bnd]
  refine Oq.congr fun d r => ?_
  rw [wp_ite]
  refine and_congr_right fun _ => ?_
  rw [wp_bnd]
  refine Oq.congr fun y r2 => ?_
  rw [ownK_ex]
  constructor
  · intro h
    split at h
    · rename_i kvs c hc hk
      refine ⟨kvs, hc, ?_⟩
      rw [hk]
      rw [wp_ite] at h
      exact h
    · exact h.elim
  · rintro ⟨kvs, hc, h⟩
    obtain ⟨c, hk, h⟩ := Wp.ex.mp h
    rw [hc, hk]
    show Wp (if _ then _ else none) QS
    rw [wp_ite]
    exact h
theorem w_callE {p : Prom} {as : En → Option (List Ar × En)} : Wx (semCallE p as) ρ Q ↔ Wx as ρ fun l ρ1 => (lentOk ρ1 l = true ∧ l.length + 1 = p.ps.length) ∧ WC p.sem (l.map (toSl ρ1) ++ [.own (.dict [(.bool true, .none)])]) fun d os => Wp (pbE ρ1 l os) fun ρ2 => Q d ρ2 := by
  unfold semCallE Wx
  simp only [oq_bnd]
  refine Oq.congr fun x r => ?_
  rw [oq_ite]
  refine and_congr_right fun _ => ?_
  unfold WC
  cases p.sem (x.map (toSl r) ++ [.own (.dict [(.bool true, .none)])]) with
  | none => exact Iff.rfl
  | some q =>
    obtain ⟨d, os⟩ := q
    show Oq ((pbE r x os).map fun ρ2 => (d, ρ2)) Q ↔ Wp (pbE r x os) fun ρ2 => Q d ρ2
    cases pbE r x os <;> exact Iff.rfl
theorem isOwnD_mk {kvs : List (D × D)} : isOwnD (some (.own (.dict kvs))) = okK kvs := rfl
def UpdD (x : Option Sl) (d : D) (P : List (D × D) → List (D × D) → Prop) : Prop := match x, d with
  | some (.own (.dict kvs)), .dict ms => P kvs ms
  | _, _ => False
theorem UpdD.mk {kvs ms : List (D × D)} {P : List (D × D) → List (D × D) → Prop} : UpdD (.some (.own (.dict kvs))) (.dict ms) P ↔ P kvs ms := Iff.rfl
theorem oq_mapS {α β : Type} {o : Option β} {x : α} {f : β → En} {Q : α → En → Prop} : Oq (o.map fun b => (x, f b)) Q ↔ Wp o fun b => Q x (f b) := by cases o <;> exact Iff.rfl
theorem w_upd {m : En → Option (D × En)} : Wx (semUpd i m) ρ Q ↔ isOwnD ρ[i]? = true ∧ Wx m ρ fun d ρ1 => UpdD ρ1[i]? d fun kvs ms => (okK kvs = true ∧ okK ms = true ∧ kvs.length + ms.length ≤ sizeLine) ∧ Wp (unD ms) fun ps => Q .none (ρ1.set i (.own (.dict (mergeD kvs ps)))) := by
  unfold semUpd Wx
  rw [oq_ite]
  refine and_congr_right fun _ => ?_
  rw [oq_bnd]
  refine Oq.congr fun d r => ?_
  unfold UpdD
  constructor
  · intro h
    split at h
    · rename_i kvs ms hc
      try rw [hc]
      try dsimp only
      rw [oq_ite, oq_mapS] at h
      exact h
    · exact h.elim
  · intro h
    split at h
    · rename_i kvs ms hc
      try rw [hc]
      try dsimp only
      rw [oq_ite, oq_mapS]
      exact h
    · exact h.elim
def WDc (g : D → En → Option En) (t : En → Option (Bool × En)) (k e : En → Option (D × En)) (vs : List Nat) (ds : List D) (ρ : En) (QP : List (Key × D) → En → Prop) : Prop := Oq (dcS g t k e vs ds ρ) QP
theorem w_dc {it : En → Option (List D × En)} {g : D → En → Option En} {t : En → Option (Bool × En)} {vs : List Nat} : Wx (semDc it g t k e vs) ρ Q ↔ Wx it ρ fun ds ρ1 => WDc g t k e vs ds (wipeE ρ1 vs) fun ps ρ2 => Q (.dict (mergeD [] ps)) (unwipe ρ1 ρ2 vs) := by
  unfold semDc Wx WDc
  simp only [oq_bnd, oq_so]
theorem WDc.nil {g : D → En → Option En} {t : En → Option (Bool × En)} {vs : List Nat} : WDc g t k e vs [] ρ QP ↔ QP [] ρ := Iff.rfl
theorem WDc.consY {g : D → En → Option En} {vs : List Nat} {d : D} {ds : List D} : WDc g semYes k e vs (d :: ds) ρ QP ↔ WG g d ρ fun ρ1 => Wx k ρ1 fun y ρ2 => Wx e ρ2 fun z ρ3 => Wp (keyOf y) fun c => WDc g semYes k e vs ds (wipeE ρ3 vs) fun ps ρ4 => QP ((c, z) :: ps) ρ4 := by
  unfold WDc WG Wx
  rw [dcS]
  cases h1 : g d ρ with
  | none => exact Iff.rfl
  | some ρ1 =>
    show Oq (match k ρ1 with | none => none | some (y, ρ3) => _) QP ↔ Oq (k ρ1) _
    cases h2 : k ρ1 with
    | none => exact Iff.rfl
    | some p =>
      obtain ⟨y, ρ2⟩ := p
      show Oq (match e ρ2 with | none => none | some (z, ρ4) => _) QP ↔ Oq (e ρ2) _
      cases h3 : e ρ2 with
      | none => exact Iff.rfl
      | some p =>
        obtain ⟨z, ρ3⟩ := p
        show Oq (match keyOf y, dcS g semYes k e vs ds (wipeE ρ3 vs) with | some c, some (ps, ρ5) => _ | _, _ => none) QP ↔ Wp (keyOf y) _
        cases h4 : keyOf y with
        | none => exact Iff.rfl
        | some c =>
          show _ ↔ Oq (dcS g semYes k e vs ds (wipeE ρ3 vs)) _
          cases h5 : dcS g semYes k e vs ds (wipeE ρ3 vs) with
          | none => exact Iff.rfl
          | some p => exact Iff.rfl
theorem WDc.mapT {α : Type} {g : D → En → Option En} {vs : List Nat} {l : List α} {enc : α → D} (kf : α → Key) (f : α → D) (h : ∀ a ∈ l, WG g (enc a) ρ fun ρ1 => Wx k ρ1 fun y ρ2 => Wx e ρ2 fun z ρ3 => y = keyD (kf a) ∧ z = f a ∧ wipeE ρ3 vs = ρ) (hq : QP (l.map fun a => (kf a, f a)) ρ) : WDc g semYes k e vs (l.map enc) ρ QP := by
  induction l generalizing QP with
  | nil => exact WDc.nil.mpr hq
  | cons a l ih =>
    refine WDc.consY.mpr (Wp.mono (h a List.mem_cons_self) fun ρ1 h1 => Wx.mono h1 fun y ρ2 h2 => Wx.mono h2 fun z ρ3 h3 => ?_)
    obtain ⟨rfl, rfl, h4⟩ := h3
    rw [keyOf_keyD, h4]
    exact ih (fun b hb => h b (List.mem_cons_of_mem _ hb)) hq
theorem w_keysO {QL : List D → En → Prop} : Wx (semKeysO i) ρ QL ↔ OwnD ρ[i]? fun kvs => okK kvs = true ∧ QL (kvs.map (·.1)) (ρ.set i (.val (.dict kvs))) := by
  unfold semKeysO Wx OwnD
  dsimp only
  generalize ρ[i]? = x
  cases x with
  | none => exact Iff.rfl
  | some z =>
    cases z with
    | un => exact Iff.rfl
    | val d => exact Iff.rfl
    | own d =>
      cases d <;> first | exact Iff.rfl | skip
      show Oq (if _ then _ else none) QL ↔ _
      rw [oq_ite]
      exact Iff.rfl
theorem w_index {b : En → Option (D × En)} : Wx (semIndex a b) ρ Q ↔ Wx a ρ fun x ρ1 => isL x = true ∧ Wx b ρ1 fun y ρ2 => Wp (dIndex x y) fun d => Q d ρ2 := by
  unfold semIndex Wx
  simp only [oq_bnd, oq_ite, oq_map]
theorem isL_l {ds : List D} : isL (.list ds) = true := Eq.trans rfl rfl
theorem isStrD_s {x : Str} : isStrD (.str x) = true := Eq.trans rfl rfl
theorem keyOf_s {x : Str} : keyOf (.str x) = some (.inr x) := rfl
theorem keyOf_i {x : Int} : keyOf (.int x) = some (.inl x) := rfl
theorem fAddII_i {i j : Int} : fAddII (.int i) (.int j) = some (.int (i + j)) := rfl
end
end FL
end L2

/-! M0e: all the rules of a step in one -/
namespace L2
namespace FL
open PySem
def evS := And.intro (And.intro (And.intro (And.intro (And.intro (And.intro (And.intro (@w_cst) (And.intro (@w_rd) (@w_bin))) (And.intro (And.intro (@w_un) (@w_n1)) (And.intro (@w_T) (@w_frz)))) (And.intro (And.intro (And.intro (@w_and) (@w_or)) (And.intro (@w_not) (@w_andV))) (And.intro (And.intro (@w_orV) (@w_notV)) (And.intro (@w_if) (@w_chain))))) (And.intro (And.intro (And.intro (And.intro (@w_tup) (@w_lst)) (And.intro (@w_nil) (@w_cons))) (And.intro (And.intro (@w_lend) (@w_call)) (And.intro (@w_oidx) (@w_BF)))) (And.intro (And.intro (And.intro (@w_BT) (@w_oNone)) (And.intro (@w_oSome) (@w_cut))) (And.intro (And.intro (@w_catN) (@w_app)) (And.intro (@w_pop) (@w_ins)))))) (And.intro (And.intro (And.intro (And.intro (And.intro (@w_asg) (@w_asgN)) (And.intro (@w_asgG) (@w_drop))) (And.intro (And.intro (@w_ret) (@w_ifS)) (And.intro (@w_next) (@w_seq)))) (And.intro (And.intro (And.intro (@w_set) (@w_G)) (And.intro (@w_GTup) (@w_GTupW))) (And.intro (And.intro (@w_par) (@w_GNil)) (And.intro (@w_GCons) (@w_for))))) (And.intro (And.intro (And.intro (And.intro (@w_lc) (@w_V)) (And.intro (@w_R1) (@w_R2))) (And.intro (And.intro (@w_zip) (@w_enum)) (And.intro (@w_yes) (@w_get2)))) (And.intro (And.intro (And.intro (@w_get1) (@w_getG)) (And.intro (@isStrD_s) (@dGet_tbl))) (And.intro (And.intro (@w_BN) (@dEnum_t)) (And.intro (@w_asgM) (@w_emptyD))))))) (And.intro (And.intro (And.intro (And.intro (And.intro (@w_PNil) (And.intro (@w_PCons) (@w_disp))) (And.intro (And.intro (@w_odidx) (@w_dput)) (And.intro (@w_daug) (@w_upd)))) (And.intro (And.intro (And.intro (@UpdD.mk) (@isOwnD_mk)) (And.intro (@w_dc) (@w_keysO))) (And.intro (And.intro (@w_index) (@isL_l)) (And.intro (@w_callE) (@w_apd))))) (And.intro (And.intro (And.intro (And.intro (@w_emptyK) (@w_okidx)) (And.intro (@w_kput) (@OwnK.mk))) (And.intro (And.intro (@OwnD.mk) (@keyOf_s)) (And.intro (@keyOf_i) (@fAddII_i)))) (And.intro (And.intro (And.intro (@Rdd.val) (@Rdd.own)) (And.intro (@Lnd.own) (@Own1.mk))) (And.intro (And.intro (@Sq.rt) (@Tn.nx)) (And.intro (@Tn.rt) (@Re.rt)))))) (And.intro (And.intro (And.intro (And.intro (And.intro (@Re.nx) (@Wp.so)) (And.intro (@Wp.no) (@Wp.ite))) (And.intro (And.intro (@Wp.map) (@slotsNil)) (And.intro (@slotsD) (@fAdd_i)))) (And.intro (And.intro (And.intro (@fAdd_s) (@fAdd_t)) (And.intro (@fAdd_l) (@fSub_i))) (And.intro (And.intro (@fMul_i) (@fMul_t)) (And.intro (@fMul_l) (@fFdiv_i))))) (And.intro (And.intro (And.intro (And.intro (@fMod_i) (@fPow_i)) (And.intro (@fLt_i) (@fLe_i))) (And.intro (And.intro (@fGt_i) (@fGe_i)) (And.intro (@fLt_s) (@fNeg_i)))) (And.intro (And.intro (And.intro (@fIsN_mk) (@fNotN_mk)) (And.intro (@fIsN_bb) (@fNotN_bb))) (And.intro (And.intro (@dLen_l) (@dLen_t)) (And.intro (@dLen_s) (@dIdx_l)))))))) (And.intro (And.intro (And.intro (And.intro (And.intro (And.intro (@dIdx_t) (And.intro (@dIdx_s) (@dMax2_i))) (And.intro (And.intro (@dMin2_i) (@dTuple_l)) (And.intro (@dTuple_t) (@dItemsS_l)))) (And.intro (And.intro (And.intro (@dItemsS_t) (@dItemsS_s)) (And.intro (@dWalk_l) (@dWalk_t))) (And.intro (And.intro (@dWalk_s) (@dR1_i)) (And.intro (@dR2_i) (@dZip_l))))) (And.intro (And.intro (And.intro (And.intro (@dZip_t) (@dEnum_l)) (And.intro (@dRev_l) (@dRev_t))) (And.intro (And.intro (@dRevN_l) (@cat2_l)) (And.intro (@dCut_l) (@dCut_t)))) (And.intro (And.intro (And.intro (@dCut_s) (@ix30)) (And.intro (@ix31) (@ix32))) (And.intro (And.intro (@atI_0) (@atI_1)) (And.intro (@atI_2) (@atI_3)))))) (And.intro (And.intro (And.intro (And.intro (And.intro (@atI_4) (@atI_5)) (And.intro (@list_at_val) (@List.set_cons_succ.{0}))) (And.intro (And.intro (@List.set_cons_zero.{0}) (@List.getElem?_cons_zero.{0})) (And.intro (@List.getElem?_cons_succ.{0}) (@List.map_cons.{0,0})))) (And.intro (And.intro (And.intro (@List.map_nil.{0,0}) (@List.length_cons.{0})) (And.intro (@List.length_nil.{0}) (@List.cons_append.{0}))) (And.intro (And.intro (@List.nil_append.{0}) (@Option.getD_some.{0})) (And.intro (@Option.map_some.{0,0}) (@Option.bind_some.{0,0}))))) (And.intro (And.intro (And.intro (And.intro (@true_and) (@and_true)) (And.intro (@forall_const.{0}) (@forall_const.{1}))) (And.intro (And.intro (@true_imp_iff) (@false_imp_iff)) (And.intro (@Bool.true_eq_false) (@Bool.false_eq_true)))) (And.intro (And.intro (And.intro (@decide_eq_true_eq) (@decide_eq_false_iff_not)) (And.intro (@Bool.not_true) (@Bool.not_false))) (And.intro (And.intro (@Bool.and_true) (@Bool.and_false)) (And.intro (@Bool.true_and) (@Bool.false_and))))))) (And.intro (And.intro (And.intro (And.intro (And.intro (@if_true.{1}) (And.intro (@if_false.{1}) (@ite_true.{1}))) (And.intro (And.intro (@ite_false.{1}) (@and_self)) (And.intro (@imp_self) (@implies_true.{0})))) (And.intro (And.intro (And.intro (@implies_true.{1}) (@Bool.not_eq_true')) (And.intro (@Bool.not_eq_false') (@not_true_eq_false))) (And.intro (And.intro (@not_false_eq_true) (@lent1)) (And.intro (@small_mk) (@Nat.zero_add))))) (And.intro (And.intro (And.intro (And.intro (@lent0) (@lentD)) (And.intro (@Bool.or_true) (@Bool.true_or))) (And.intro (And.intro (@Bool.or_false) (@Bool.false_or)) (And.intro (@isTy_int_i) (@isTy_int_b)))) (And.intro (And.intro (And.intro (@isTy_int_s) (@isTy_int_l)) (And.intro (@isTy_int_t) (@isTy_int_n))) (And.intro (And.intro (@isTy_bool_i) (@isTy_bool_b)) (And.intro (@isTy_bool_s) (@isTy_bool_l)))))) (And.intro (And.intro (And.intro (And.intro (And.intro (@isTy_bool_t) (@isTy_bool_n)) (And.intro (@isTy_str_i) (@isTy_str_b))) (And.intro (And.intro (@isTy_str_s) (@isTy_str_l)) (And.intro (@isTy_str_t) (@isTy_str_n)))) (And.intro (And.intro (And.intro (@isTy_list_i) (@isTy_list_b)) (And.intro (@isTy_list_s) (@isTy_list_l))) (And.intro (And.intro (@isTy_list_t) (@isTy_list_n)) (And.intro (@isTy_tuple_i) (@isTy_tuple_b))))) (And.intro (And.intro (And.intro (And.intro (@isTy_tuple_s) (@isTy_tuple_l)) (And.intro (@isTy_tuple_t) (@isTy_tuple_n))) (And.intro (And.intro (@dIsi_i) (@dIsi_b)) (And.intro (@dIsi_s) (@dIsi_l)))) (And.intro (And.intro (And.intro (@dIsi_t) (@dIsi_n)) (And.intro (@notDict_i) (@notDict_b))) (And.intro (And.intro (@notDict_s) (@notDict_l)) (And.intro (@notDict_t) (@notDict_n))))))))
end FL
end L2

/-! M1: pure parts, good things -/
namespace L2
namespace FL
open PySem
section
variable {α β : Type} {ρ : En}
theorem WC.iff_of {f : List Sl → Option (D × List Sl)} {as : List Sl} {X : D} {Y : List Sl} (h : WC f as fun d os => d = X ∧ os = Y) {Q : D → List Sl → Prop} : WC f as Q ↔ Q X Y := by
  obtain ⟨p, e, h1, h2⟩ := Wp.ex.mp h
  unfold WC
  rw [e]
  show Q p.1 p.2 ↔ _
  rw [h1, h2]
theorem WC.ex {f : List Sl → Option (D × List Sl)} {as : List Sl} {X : D} (h : WC f as fun d _ => d = X) : ∃ os, f as = some (X, os) := by
  obtain ⟨p, e, h1⟩ := Wp.ex.mp h
  exact ⟨p.2, by rw [e, ← h1]⟩
/-- a comprehension without effect and condition -/
theorem WLc.mapY {g : D → En → Option En} {e : En → Option (D × En)} {vs : List Nat} {QL : List D → En → Prop} {ds : List D} (f : D → D) (h : ∀ d ∈ ds, WG g d ρ fun ρ1 => Wx e ρ1 fun y ρ3 => y = f d ∧ wipeE ρ3 vs = ρ) (hq : QL (ds.map f) ρ) : WLc g semYes e vs ds ρ QL := by
  induction ds generalizing QL with
  | nil => exact WLc.nil.mpr hq
  | cons d ds ih =>
    refine WLc.cons.mpr ((h d (List.mem_cons_self)).mono fun r1 h1 => ?_)
    refine w_yes.mpr ⟨fun _ => h1.mono fun y r3 h3 => ?_, fun z => nomatch z⟩
    rw [h3.2, h3.1]
    exact ih (fun x hx => h x (List.mem_cons_of_mem _ hx)) hq
/-- a comprehension without effect -/
theorem WLc.filt {g : D → En → Option En} {t : En → Option (Bool × En)} {e : En → Option (D × En)} {vs : List Nat} {QL : List D → En → Prop} {ds : List D} (p : D → Bool) (f : D → D) (h : ∀ d ∈ ds, WG g d ρ fun ρ1 => Wx t ρ1 fun c ρ2 => c = p d ∧ (c = true → Wx e ρ2 fun y ρ3 => y = f d ∧ wipeE ρ3 vs = ρ) ∧ (c = false → wipeE ρ2 vs = ρ)) (hq : QL ((ds.filter p).map f) ρ) : WLc g t e vs ds ρ QL := by
  induction ds generalizing QL with
  | nil => exact WLc.nil.mpr hq
  | cons d ds ih =>
    refine WLc.cons.mpr ((h d (List.mem_cons_self)).mono fun r1 h1 => h1.mono fun c r2 h2 => ?_)
    obtain ⟨hp, ht, hf⟩ := h2
    refine ⟨fun hc => (ht hc).mono fun y r3 h3 => ?_, fun hc => ?_⟩
    · rw [h3.2, h3.1]
      refine ih (fun x hx => h x (List.mem_cons_of_mem _ hx)) ?_
      rw [List.filter_cons, ← hp, hc] at hq
      exact hq
    · rw [hf hc]
      refine ih (fun x hx => h x (List.mem_cons_of_mem _ hx)) ?_
      rw [List.filter_cons, ← hp, hc] at hq
      exact hq
/-- a comprehension with effect: what holds between the turns, behind wiping -/
theorem WLc.inv {g : D → En → Option En} {e : En → Option (D × En)} {vs : List Nat} {QL : List D → En → Prop} {ds : List D} (P : List D → List D → List D → En → Prop) (h0 : P [] ds [] ρ)
    (ht : ∀ pre d post ys ρ, P pre (d :: post) ys ρ → WG g d ρ fun ρ1 => Wx e ρ1 fun y ρ3 => P (pre ++ [d]) post (ys ++ [y]) (wipeE ρ3 vs)) (hd : ∀ ys ρ, P ds [] ys ρ → QL ys ρ) : WLc g semYes e vs ds ρ QL := by
  have go : ∀ (post pre ys : List D) (ρ : En), pre ++ post = ds → P pre post ys ρ → WLc g semYes e vs post ρ fun zs r => QL (ys ++ zs) r := by
    intro post
    induction post with
    | nil =>
      intro pre ys ρ e p
      rw [List.append_nil] at e
      subst e
      refine WLc.nil.mpr ?_
      rw [List.append_nil]
      exact hd ys ρ p
    | cons d post ih =>
      intro pre ys ρ e p
      refine WLc.cons.mpr ((ht pre d post ys ρ p).mono fun r1 h1 => w_yes.mpr ⟨fun _ => h1.mono fun y r3 h3 => ?_, fun z => nomatch z⟩)
      refine (ih (pre ++ [d]) (ys ++ [y]) _ (by rw [List.append_assoc]; exact e) h3).mono fun zs r hz => ?_
      rw [List.append_assoc] at hz
      exact hz
  exact go ds [] [] ρ rfl h0
theorem dAll_map {ds : List α} {f : α → Bool} : dAll (.list (ds.map fun d => .bool (f d))) = some (.bool (ds.all f)) := by
  show ((ds.map fun d => PyData.bool (f d)).mapM asB).map _ = _
  have : (ds.map fun d => PyData.bool (f d)).mapM asB = some (ds.map f) := by
    induction ds with
    | nil => rfl
    | cons d ds ih => rw [List.map_cons, List.mapM_cons, ih]; rfl
  rw [this]
  simp [List.all_map]
theorem dAny_map {ds : List α} {f : α → Bool} : dAny (.list (ds.map fun d => .bool (f d))) = some (.bool (ds.any f)) := by
  show ((ds.map fun d => PyData.bool (f d)).mapM asB).map _ = _
  have : (ds.map fun d => PyData.bool (f d)).mapM asB = some (ds.map f) := by
    induction ds with
    | nil => rfl
    | cons d ds ih => rw [List.map_cons, List.mapM_cons, ih]; rfl
  rw [this]
  simp [List.any_map]
end
/-! good things: no dict within, texts and rows short -/
def Th (w : Nat) : Nat → D → Prop
  | _, .none => True
  | _, .bool _ => True
  | _, .int _ => True
  | _, .str x => x.length ≤ w ∧ PyData.strOk x = true
  | n + 1, .list ds => ds.length ≤ w ∧ ∀ d ∈ ds, Th w n d
  | n + 1, .tuple ds => ds.length ≤ w ∧ ∀ d ∈ ds, Th w n d
  | 0, .list _ => False
  | 0, .tuple _ => False
  | _, .dict _ => False
section
variable {w w' n m : Nat} {d : D} {ds : List D} {x : Str}
theorem Th.str (h : x.length ≤ w) (h' : PyData.strOk x = true) : Th w n (.str x) := by cases n <;> exact ⟨h, h'⟩
theorem Th.ofStr (h : Th w n (.str x)) : x.length ≤ w ∧ PyData.strOk x = true := by cases n <;> exact h
theorem Th.int {i : Int} : Th w n (.int i) := by cases n <;> trivial
theorem Th.bool {i : Bool} : Th w n (.bool i) := by cases n <;> trivial
theorem Th.none : Th w n .none := by cases n <;> trivial
theorem Th.list (h : ds.length ≤ w) (h' : ∀ d ∈ ds, Th w n d) : Th w (n + 1) (.list ds) := ⟨h, h'⟩
theorem Th.tuple (h : ds.length ≤ w) (h' : ∀ d ∈ ds, Th w n d) : Th w (n + 1) (.tuple ds) := ⟨h, h'⟩
theorem Th.ofList (h : Th w n (.list ds)) : ds.length ≤ w ∧ ∃ m, n = m + 1 ∧ ∀ d ∈ ds, Th w m d := by
  cases n with
  | zero => exact h.elim
  | succ n => exact ⟨h.1, n, rfl, h.2⟩
theorem Th.ofTuple (h : Th w n (.tuple ds)) : ds.length ≤ w ∧ ∃ m, n = m + 1 ∧ ∀ d ∈ ds, Th w m d := by
  cases n with
  | zero => exact h.elim
  | succ n => exact ⟨h.1, n, rfl, h.2⟩
theorem Th.notDict (h : Th w n d) : notDict d = true := by
  cases d <;> first | rfl | (cases n <;> exact h.elim)
theorem Th.up (hw : w ≤ w') : ∀ {n m : Nat} {d : D}, n ≤ m → Th w n d → Th w' m d := by
  intro n
  induction n with
  | zero =>
    intro m d hn h
    cases d with
    | none => exact Th.none
    | bool b => exact Th.bool
    | int i => exact Th.int
    | str x => exact Th.str (Nat.le_trans h.1 hw) h.2
    | _ => exact h.elim
  | succ n ih =>
    intro m d hn h
    obtain ⟨m, rfl⟩ : ∃ k, m = k + 1 := ⟨m - 1, by omega⟩
    cases d with
    | none => exact Th.none
    | bool b => exact Th.bool
    | int i => exact Th.int
    | str x => exact Th.str (Nat.le_trans h.1 hw) h.2
    | list ds => exact ⟨Nat.le_trans h.1 hw, fun d hd => ih (by omega) (h.2 d hd)⟩
    | tuple ds => exact ⟨Nat.le_trans h.1 hw, fun d hd => ih (by omega) (h.2 d hd)⟩
    | dict _ => exact h.elim
theorem lay_all {n : Nat} : ∀ {ds : List D}, (∀ d ∈ ds, d.canLay0 = true ∧ d.depth ≤ n) → PyData.canLayAll0 ds = true ∧ PyData.depthAll ds ≤ n
  | [], _ => ⟨rfl, Nat.zero_le _⟩
  | d :: ds, h => by
    have h1 := h d List.mem_cons_self
    have h2 := lay_all fun x hx => h x (List.mem_cons_of_mem _ hx)
    rw [PyData.canLayAll0, PyData.depthAll, h1.1, h2.1]
    exact ⟨rfl, Nat.max_le.mpr ⟨h1.2, h2.2⟩⟩
theorem Th.lay : ∀ {n : Nat} {d : D}, Th w n d → d.canLay0 = true ∧ d.depth ≤ n := by
  intro n
  induction n with
  | zero =>
    intro d h
    cases d with
    | str x => exact ⟨h.2, Nat.le_refl _⟩
    | list _ => exact h.elim
    | tuple _ => exact h.elim
    | dict _ => exact h.elim
    | _ => exact ⟨rfl, Nat.le_refl _⟩
  | succ n ih =>
    intro d h
    cases d with
    | str x => exact ⟨h.2, Nat.zero_le _⟩
    | list ds =>
      obtain ⟨h1, h2⟩ := lay_all fun d hd => ih (h.2 d hd)
      rw [PyData.canLay0, PyData.depth]
      exact ⟨h1, by omega⟩
    | tuple ds =>
      obtain ⟨h1, h2⟩ := lay_all fun d hd => ih (h.2 d hd)
      rw [PyData.canLay0, PyData.depth]
      exact ⟨h1, by omega⟩
    | dict _ => exact h.elim
    | _ => exact ⟨rfl, Nat.zero_le _⟩
theorem Th.shaped (h : Th w n d) (hn : n ≤ 64) : SeqAt.shaped d = true := by
  obtain ⟨h1, h2⟩ := h.lay
  unfold SeqAt.shaped
  rw [h1]
  exact decide_eq_true (by omega)
theorem fEq_nil (h : Th w n (.list ds)) (hn : n ≤ 64) : fEq (.list ds) (.list []) = some (.bool ds.isEmpty) := by
  unfold fEq
  rw [if_pos ⟨h.shaped hn, rfl⟩]
  cases ds <;> rfl
theorem fEq_i {i j : Int} : fEq (.int i) (.int j) = some (.bool (decide (i = j))) := by
  unfold fEq
  rw [if_pos ⟨rfl, rfl⟩, PyData.eqv]
  rfl
theorem fNe_i {i j : Int} : fNe (.int i) (.int j) = some (.bool (!decide (i = j))) := by
  unfold fNe
  rw [if_pos ⟨rfl, rfl⟩, PyData.eqv]
  rfl
theorem fEq_b {i j : Bool} : fEq (.bool i) (.bool j) = some (.bool (i == j)) := by cases i <;> cases j <;> rfl
theorem fNe_b {i j : Bool} : fNe (.bool i) (.bool j) = some (.bool (i != j)) := by cases i <;> cases j <;> rfl
end
/-- the letters of a text -/
theorem signs_th {x : Str} (h : PyData.strOk x = true) : ∀ d ∈ signsD x, Th 1 0 d := by
  intro d hd
  unfold signsD at hd
  obtain ⟨c, hc, rfl⟩ := List.mem_map.mp hd
  refine ⟨Nat.le_refl _, ?_⟩
  unfold PyData.strOk at h ⊢
  rw [Array.all_eq_true_iff_forall_mem] at h
  simp only [List.all_toArray, List.all_cons, List.all_nil, Bool.and_true]
  exact h c (Array.mem_def.mpr hc)
theorem rest_cut {α : Type} {ds : List α} : cutL ds (some 1) none = ds.tail := by
  unfold cutL
  have h1 : HT.sIx ds.length 0 (some 1) = min 1 ds.length := by
    exact HT.sIx_nat _ _ 1
  have h2 : HT.sIx ds.length ds.length none = ds.length := rfl
  rw [h1, h2]
  cases ds with
  | nil => rfl
  | cons a ds => simp
end FL
end L2

/-! M2: dicts of rows, typed rows, the greatest of pairs -/
namespace L2
namespace FL
open PySem
theorem mergeD_nodup : ∀ {ps : List (Key × D)} {kvs : List (D × D)}, (ps.map (·.1)).Nodup → (∀ p ∈ ps, ∀ q ∈ kvs, keyOf q.1 ≠ some p.1) → mergeD kvs ps = kvs ++ ps.map fun p => (keyD p.1, p.2)
  | [], kvs, _, _ => by simp [mergeD]
  | p :: ps, kvs, hn, hd => by
    have hn' := List.nodup_cons.mp (by simpa using hn : (p.1 :: ps.map (·.1)).Nodup)
    have e : putD kvs p.1 p.2 = kvs ++ [(keyD p.1, p.2)] := by
      unfold putD
      rw [if_neg]
      intro h
      obtain ⟨q, hq, h2⟩ := List.any_eq_true.mp h
      exact hd p List.mem_cons_self q hq (of_decide_eq_true h2)
    show mergeD (putD kvs p.1 p.2) ps = _
    rw [e, mergeD_nodup hn'.2 fun p' hp' q hq => ?_]
    · simp
    · rcases List.mem_append.mp hq with h | h
      · exact hd p' (List.mem_cons_of_mem _ hp') q h
      · obtain rfl := List.mem_singleton.mp h
        intro e2
        rw [keyOf_keyD] at e2
        injection e2 with e2
        exact hn'.1 (List.mem_map.mpr ⟨p', hp', e2.symm⟩)
/-! ### rows: a text and a number -/
abbrev Row := Str × Int
def fstR : D → D
  | .tuple (a :: _) => a
  | _ => .none
def encP (p : Row) : D := .tuple [.str p.1, .int p.2]
def encS (s : List Row) : D := .tuple (s.map encP)
def dicS (s : List Row) : D := .dict (s.map fun p => (.str p.1, .int p.2))
def lk (s : List Row) (x : Str) : Option Int := (s.find? fun p => decide (p.1 = x)).map (·.2)
theorem pairsK_rows : ∀ s : List Row, pairsK (s.map encP) = some (s.map fun p => (.inr p.1, .int p.2))
  | [] => rfl
  | p :: s => by
    show (match pairK (encP p), pairsK (s.map encP) with
      | some p, some ps => some (p :: ps)
      | _, _ => none) = _
    rw [pairsK_rows s]
    rfl
theorem dDict_rows {s : List Row} (h : (s.map (·.1)).Nodup) : dDict (encS s) = some (dicS s) := by
  show (pairsK (s.map encP)).map _ = _
  rw [pairsK_rows, Option.map_some, mergeD_nodup]
  · unfold dicS
    simp [List.map_map, Function.comp_def]
    intro a b _
    rfl
  · rw [List.map_map]
    have : ((fun p : Key × D => p.1) ∘ fun p : Row => ((.inr p.1 : Key), (.int p.2 : D))) = fun p : Row => (.inr p.1 : Key) := rfl
    rw [this]
    have h2 : (s.map fun p : Row => (.inr p.1 : Key)) = (s.map (·.1)).map .inr := by rw [List.map_map]; rfl
    rw [h2]
    exact List.Pairwise.map _ (fun a b hab e => hab (Sum.inr.inj e)) h
  · intro p _ q hq
    cases hq
theorem okK_rows (s : List Row) : okK (s.map fun p => ((.str p.1 : D), (.int p.2 : D))) = true := by
  unfold okK
  rw [List.all_map]
  exact List.all_eq_true.mpr fun p _ => rfl
theorem lookK_rows (x : Str) : ∀ s : List Row, lookK (s.map fun p => ((.str p.1 : D), (.int p.2 : D))) (.inr x) = (lk s x).map .int
  | [] => rfl
  | p :: s => by
    have ih := lookK_rows x s
    unfold lookK lk at ih ⊢
    rw [List.map_cons, List.find?_cons, List.find?_cons]
    by_cases e : p.1 = x
    · have h1 : decide (keyOf (.str p.1) = some (.inr x)) = true := decide_eq_true (by rw [e]; rfl)
      rw [h1, decide_eq_true e]
      rfl
    · have h1 : decide (keyOf (.str p.1) = some (.inr x)) = false := decide_eq_false (fun h => e (by injection h with h; injection h))
      rw [h1, decide_eq_false e]
      exact ih
theorem dIdx_rows {s : List Row} {x : Str} : dIdx (dicS s) (.str x) = (lk s x).map .int := by
  unfold dicS
  show (if okK _ = true then lookK _ _ else none) = _
  rw [if_pos (okK_rows s), lookK_rows]
theorem eqv_str {x y : Str} : PyData.eqv (.str x) (.str y) = decide (x = y) := by
  rw [PyData.eqv]
  rfl
theorem in_rows {s : List Row} {x : Str} : (s.map fun p => (.str p.1 : D)).any (fun z => PyData.eqv z (.str x)) = (lk s x).isSome := by
  induction s with
  | nil => rfl
  | cons p s ih =>
    rw [List.map_cons, List.any_cons, ih, eqv_str]
    unfold lk
    rw [List.find?_cons]
    by_cases e : p.1 = x
    · rw [decide_eq_true e]; rfl
    · rw [decide_eq_false e]; rfl
theorem lk_none {s : List Row} {x : Str} : lk s x = none ↔ x ∉ s.map (·.1) := by
  unfold lk
  rw [Option.map_eq_none_iff, List.find?_eq_none]
  simp only [decide_eq_true_eq, List.mem_map, not_exists, not_and]
theorem fst_rows (s : List Row) : (s.map encP).map fstR = s.map fun p => (.str p.1 : D) := by
  rw [List.map_map]
  rfl
end FL
end L2

/-! M3: what the laws have in common: validators' and drawers' facts, no program in sight -/
namespace L2
namespace FL
open PySem
/-- the tape of drawn numbers -/
def Tape (d : D) : Prop := ∃ (ns : List Int) (c v : Int), d = .list [.list (ns.map .int), .int c, .int v] ∧ 0 ≤ c ∧ 0 ≤ v
theorem ints_at {ns : List Int} {k : Int} (h0 : 0 ≤ k) (h : k < ((ns.map PyData.int).length : Int)) : ∃ z, atI (ns.map PyData.int) k = some (.int z) := by
  obtain ⟨j, rfl⟩ : ∃ j : Nat, k = (j : Int) := ⟨k.toNat, by omega⟩
  have hj : j < (ns.map PyData.int).length := by omega
  rw [atI_lit hj, List.getElem?_eq_getElem hj, List.getElem_map]
  exact ⟨_, rfl⟩
/-! what is lamps, a scene, layers -/
def intB (lo hi : Int) : D → Bool
  | .int i => decide (lo ≤ i) && decide (i ≤ hi)
  | _ => false
def letB (s : D) : Bool := match inD s (.str "abcdefghijklmnopqrstuvwxyz") with
  | some b => b
  | none => false
theorem fIn_let {x : Str} {s : D} (h : s ∈ signsD x) : fIn s (.str "abcdefghijklmnopqrstuvwxyz") = some (.bool (letB s)) := by
  unfold signsD at h
  obtain ⟨c, _, rfl⟩ := List.mem_map.mp h
  rfl
theorem fNotIn_let {x : Str} {s : D} (h : s ∈ signsD x) : fNotIn s (.str "abcdefghijklmnopqrstuvwxyz") = some (.bool (!letB s)) := by
  unfold signsD at h
  obtain ⟨c, _, rfl⟩ := List.mem_map.mp h
  rfl
def nameB : D → Bool
  | .str x => decide (1 ≤ x.length) && (decide (x.length ≤ 8) && (signsD x).all letB)
  | _ => false
theorem isEmpty_filter {α : Type} {f : α → Bool} {l : List α} : (l.filter fun a => !f a).isEmpty = l.all f := by
  induction l with
  | nil => rfl
  | cons a l ih =>
    rw [List.filter_cons, List.all_cons, ← ih]
    cases f a <;> simp
/-! rows that rise, pairs -/
def Strs (ds : List D) : Prop := ∀ d ∈ ds, ∃ x, d = .str x
def ltB (a b : D) : Bool := match fLt a b with
  | some (.bool c) => c
  | _ => false
theorem fLt_B {a b : D} (ha : ∃ x, a = .str x) (hb : ∃ x, b = .str x) : fLt a b = some (.bool (ltB a b)) := by
  obtain ⟨x, rfl⟩ := ha
  obtain ⟨y, rfl⟩ := hb
  rfl
def riseB : List D → Bool
  | a :: b :: r => ltB a b && riseB (b :: r)
  | _ => true
theorem rise_zip : ∀ ds : List D, (ds.zip ds.tail).all (fun p => ltB p.1 p.2) = riseB ds
  | [] => rfl
  | [_] => rfl
  | a :: b :: r => by
    have ih := rise_zip (b :: r)
    rw [riseB, ← ih]
    rfl
def pairLt : D → D
  | .tuple [a, b] => .bool (ltB a b)
  | _ => .none
def rowLt (ds : List D) : D → Bool
  | .int k => match atI ds (k - 1), atI ds k with
    | some a, some b => ltB a b
    | _, _ => false
  | _ => false
theorem all_cong {α : Type} {f g : α → Bool} : ∀ {l : List α}, (∀ a ∈ l, f a = g a) → l.all f = l.all g
  | [], _ => rfl
  | a :: l, h => by rw [List.all_cons, List.all_cons, h a List.mem_cons_self, all_cong fun x hx => h x (List.mem_cons_of_mem _ hx)]
theorem rise_range (ds : List D) : (rangeD 1 (ds.length - 1)).all (rowLt ds) = riseB ds := by
  have go : ∀ r : List D, ((List.range (r.length - 1)).all fun i => match r[i]?, r[i + 1]? with
      | some a, some b => ltB a b
      | _, _ => false) = riseB r := by
    intro r
    induction r with
    | nil => rfl
    | cons a r ih =>
      cases r with
      | nil => rfl
      | cons b r =>
        rw [riseB, ← ih]
        simp only [List.length_cons, Nat.add_sub_cancel, List.range_succ_eq_map, List.all_cons, List.all_map]
        rfl
  rw [← go ds]
  unfold rangeD
  rw [List.all_map]
  refine all_cong fun i hi => ?_
  have hi' := List.mem_range.mp hi
  show (match atI ds (1 + (i : Int) - 1), atI ds (1 + (i : Int)) with
    | some a, some b => ltB a b
    | _, _ => false) = _
  rw [show (1 + (i : Int) - 1) = (i : Int) by omega, show (1 + (i : Int)) = ((i + 1 : Nat) : Int) by omega, atI_lit (by omega), atI_lit (by omega)]
def pairB : D → Bool
  | .tuple [_, _] => true
  | _ => false
def pairsB : D → Bool
  | .tuple ds => ds.all pairB
  | _ => false
theorem pairB_of {d : D} (h : pairB d = true) : ∃ a b, d = .tuple [a, b] := by
  unfold pairB at h
  split at h
  · exact ⟨_, _, rfl⟩
  · cases h
def fstD : D → D
  | .tuple (a :: _) => a
  | _ => .none
/-! lamps, scenes, layers -/
/-- how a checking turn ends -/
def Ck (pd : Bool) (P : En → Prop) (R : D → En → Prop) : Fl → Prop
  | .nx ρ => pd = true ∧ P ρ
  | .rt d ρ => pd = false ∧ R d ρ
  | _ => False
theorem Ck.nx {pd : Bool} {P : En → Prop} {R : D → En → Prop} {ρ : En} : Ck pd P R (.nx ρ) ↔ pd = true ∧ P ρ := Iff.rfl
theorem Ck.rt {pd : Bool} {P : En → Prop} {R : D → En → Prop} {d : D} {ρ : En} : Ck pd P R (.rt d ρ) ↔ pd = false ∧ R d ρ := Iff.rfl
theorem WF.check {g : D → En → Option En} {b : En → Option Fl} {QS : Fl → Prop} (p : D → Bool) (P : En → Prop) (R : D → En → Prop) : ∀ {ds : List D} {ρ : En}, P ρ → (∀ d ∈ ds, ∀ ρ, P ρ → WG g d ρ fun ρ1 => WS b ρ1 (Ck (p d) P R)) →
    (ds.all p = true → ∀ ρ, P ρ → QS (.nx ρ)) → (ds.all p = false → ∀ d ρ, R d ρ → QS (.rt d ρ)) → WF g b ds ρ QS
  | [], ρ, h0, _, hn, _ => WF.nil.mpr (hn rfl ρ h0)
  | d :: ds, ρ, h0, ht, hn, hr => by
    refine WF.cons.mpr ((ht d List.mem_cons_self ρ h0).mono fun r1 h1 => h1.mono fun f q => ?_)
    cases f with
    | nx r2 =>
      have q' := Ck.nx.mp q
      refine WF.check p P R q'.2 (fun x hx => ht x (List.mem_cons_of_mem _ hx)) (fun h => hn ?_) (fun h => hr ?_)
      · rw [List.all_cons, q'.1, h]; rfl
      · rw [List.all_cons, q'.1, h]; rfl
    | rt d' r2 =>
      have q' := Ck.rt.mp q
      exact hr (by rw [List.all_cons, q'.1]; rfl) d' r2 q'.2
    | bk r2 => exact q.elim
    | ct r2 => exact q.elim
def rowL : D → Bool
  | .tuple [a, b] => nameB a && intB 1 200 b
  | _ => false
def lampsB : D → Bool
  | .tuple ds => decide (1 ≤ ds.length) && (decide (ds.length ≤ 8) && (ds.all rowL && riseB (ds.map fstD)))
  | _ => false
theorem rowL_pair {d : D} (h : rowL d = true) : ∃ a b, d = .tuple [a, b] ∧ nameB a = true ∧ intB 1 200 b = true := by
  unfold rowL at h
  split at h
  · obtain ⟨h1, h2⟩ := Bool.and_eq_true_iff.mp h
    exact ⟨_, _, rfl, h1, h2⟩
  · cases h
theorem nameB_str {d : D} (h : nameB d = true) : ∃ x, d = .str x := by
  unfold nameB at h
  split at h
  · exact ⟨_, rfl⟩
  · cases h
theorem rowL_all_pair {ds : List D} (h : ds.all rowL = true) : ds.all pairB = true := List.all_eq_true.mpr fun d hd => by
  obtain ⟨a, b, rfl, _⟩ := rowL_pair (List.all_eq_true.mp h d hd)
  rfl
theorem rowL_strs {ds : List D} (h : ds.all rowL = true) : Strs (ds.map fstD) := fun x hx => by
  obtain ⟨d, hd, rfl⟩ := List.mem_map.mp hx
  obtain ⟨a, b, rfl, h1, _⟩ := rowL_pair (List.all_eq_true.mp h d hd)
  exact nameB_str h1
theorem all_false_of {ds : List D} {p q : D → Bool} (hpq : ∀ d ∈ ds, q d = true → p d = true) (h : ds.all p = false) : ds.all q = false := by
  cases e : ds.all q with
  | false => rfl
  | true =>
    rw [List.all_eq_true.mpr fun d hd => hpq d hd (List.all_eq_true.mp e d hd)] at h
    cases h
theorem pair_th {w n : Nat} {a b : D} (h : Th w (n + 1) (.tuple [a, b])) : Th w n a ∧ Th w n b := ⟨h.2 a (by simp), h.2 b (by simp)⟩
theorem pair_th' {w n : Nat} {a b : D} (h : Th w n (.tuple [a, b])) : Th w n a ∧ Th w n b := by
  obtain ⟨_, m, rfl, h2⟩ := h.ofTuple
  exact ⟨(h2 a (by simp)).up (Nat.le_refl _) (by omega), (h2 b (by simp)).up (Nat.le_refl _) (by omega)⟩
theorem rows_str {ds : List D} {p : D → Bool} (hp : ∀ d, p d = true → ∃ x b, d = .tuple [.str x, b]) (h : ds.all p = true) : Strs (ds.map fstD) := fun x hx => by
  obtain ⟨d, hd, rfl⟩ := List.mem_map.mp hx
  obtain ⟨a, b, rfl⟩ := hp _ (List.all_eq_true.mp h d hd)
  exact ⟨_, rfl⟩
theorem idx_len {rs : List D} {n : Nat} (h : rs.length = 2) : ∃ a b, rs = [a, b] := by
  match rs, h with
  | [a, b], _ => exact ⟨a, b, rfl⟩
theorem not_pair {p : D → Bool} (hp : ∀ d, p d = true → pairB d = true) {rs : List D} (h : ¬ rs.length = 2) : p (.tuple rs) = false := by
  cases e : p (.tuple rs) with
  | false => rfl
  | true =>
    obtain ⟨a, b, e'⟩ := pairB_of (hp _ e)
    cases e'
    exact absurd rfl h
/-- among names -/
def inB (a : D) (ns : List D) : Bool := ns.any fun z => PyData.eqv z a
theorem fNotIn_L {a : D} {ns : List D} {w n m : Nat} (ha : Th w n a) (hs : Th w m (.list ns)) (hn : n ≤ 64) (hm : m ≤ 64) : fNotIn a (.list ns) = some (.bool (!inB a ns)) := by
  have e : inD a (.list ns) = if SeqAt.shaped a = true ∧ SeqAt.shaped (.list ns) = true then some (ns.any fun z => PyData.eqv z a) else none := rfl
  unfold fNotIn
  rw [e, if_pos ⟨ha.shaped hn, hs.shaped hm⟩]
  rfl
def strB : D → Bool
  | .str _ => true
  | _ => false
def rowS (ns : List D) : D → Bool
  | .tuple [a, b] => strB a && (inB a ns && intB 0 100 b)
  | _ => false
theorem strB_str {d : D} (h : strB d = true) : ∃ x, d = .str x := by
  unfold strB at h
  split at h
  · exact ⟨_, rfl⟩
  · cases h
theorem rowS_pair {ns : List D} {d : D} (h : rowS ns d = true) : ∃ x b, d = .tuple [.str x, b] := by
  unfold rowS at h
  split at h
  · obtain ⟨h1, h2⟩ := Bool.and_eq_true_iff.mp h
    obtain ⟨x, rfl⟩ := strB_str h1
    exact ⟨_, _, rfl⟩
  · cases h
theorem rowS_pairB {ns : List D} {d : D} (h : rowS ns d = true) : pairB d = true := by
  obtain ⟨x, b, rfl⟩ := rowS_pair h
  rfl
def sceneB (ns : List D) : D → Bool
  | .tuple ds => ds.all (rowS ns) && riseB (ds.map fstD)
  | _ => false
/-- the names of the lamps at hand -/
structure Lp (w : Nat) (L : List D) : Prop where
  pair : L.all pairB = true
  th : Th w 1 (.list (L.map fstD))
def rowY (ns : List D) : D → Bool
  | .tuple [a, b] => intB 0 9 a && sceneB ns b
  | _ => false
theorem rowY_pairB {ns : List D} {d : D} (h : rowY ns d = true) : pairB d = true := by
  unfold rowY at h
  split at h
  · rfl
  · cases h
def layersB (ns : List D) : D → Bool
  | .list ds => decide (ds.length ≤ 20) && ds.all (rowY ns)
  | _ => false
theorem th_tuple {w n : Nat} {ds : List D} (h : Th w n (.list ds)) : Th w n (.tuple ds) := by
  cases n with
  | zero => exact h.elim
  | succ n => exact h
theorem th_list {w n : Nat} {ds : List D} (h : Th w n (.tuple ds)) : Th w n (.list ds) := by
  cases n with
  | zero => exact h.elim
  | succ n => exact h
/-! drawn things -/
theorem atI_mem {α : Type} {l : List α} {n : Int} (h0 : 0 ≤ n) (h1 : n < l.length) : ∃ x, atI l n = some x ∧ x ∈ l := by
  obtain ⟨j, rfl⟩ : ∃ j : Nat, n = (j : Int) := ⟨n.toNat, by omega⟩
  have hj : j < l.length := by omega
  rw [atI_lit hj, List.getElem?_eq_getElem hj]
  exact ⟨_, rfl, List.getElem_mem _⟩
theorem cut_take {α : Type} {l : List α} {n : Int} (h0 : 0 ≤ n) : cutL l none (some n) = l.take n.toNat := by
  obtain ⟨j, rfl⟩ : ∃ j : Nat, n = (j : Int) := ⟨n.toNat, by omega⟩
  unfold cutL
  rw [HT.sIx_none, HT.sIx_nat]
  simp
theorem strOk_mk {x : Str} : PyData.strOk x = true ↔ ∀ c ∈ x.cps.toList, c < 0x110000 := by
  unfold PyData.strOk
  rw [Array.all_eq_true_iff_forall_mem]
  simp only [Array.mem_def, decide_eq_true_eq]
theorem strOk_app {x y : Str} (hx : PyData.strOk x = true) (hy : PyData.strOk y = true) : PyData.strOk (x ++ y) = true := by
  rw [strOk_mk] at hx hy ⊢
  intro c hc
  rw [Str.cps_append, Array.toList_append, List.mem_append] at hc
  rcases hc with h | h
  · exact hx c h
  · exact hy c h
theorem strOk_cut {x : Str} {lo hi : Option Int} (hx : PyData.strOk x = true) : PyData.strOk (cutS x lo hi) = true := by
  rw [strOk_mk] at hx ⊢
  intro c hc
  unfold cutS at hc
  exact hx c (List.mem_of_mem_drop (List.mem_of_mem_take hc))
/-- drawn lamps -/
def namesK : List D := [.str "ann", .str "bo", .str "cy", .str "dot", .str "eve", .str "fay", .str "gus", .str "zzzzzzzz"]
structure LampsD (m : Int) (L : List D) : Prop where
  names : ∃ k : Nat, 1 ≤ k ∧ (k : Int) ≤ m ∧ L.map fstD = namesK.take k
  rows : ∀ r ∈ L, ∃ x p, r = .tuple [.str x, .int p] ∧ 1 ≤ p ∧ p ≤ 200
theorem namesK_th : ∀ d ∈ namesK, Th 8 0 d := by
  intro d hd
  simp only [namesK, List.mem_cons, List.not_mem_nil, or_false] at hd
  rcases hd with rfl | rfl | rfl | rfl | rfl | rfl | rfl | rfl <;> exact ⟨by decide, by decide +kernel⟩
theorem LampsD.len {m : Int} {L : List D} (h : LampsD m L) : 1 ≤ L.length ∧ L.length ≤ 8 := by
  obtain ⟨k, h1, _, h2⟩ := h.names
  have h3 := congrArg List.length h2
  rw [List.length_map, List.length_take] at h3
  have : namesK.length = 8 := rfl
  omega
theorem LampsD.fst_th {m : Int} {L : List D} (h : LampsD m L) : ∀ d ∈ L.map fstD, Th 8 0 d := by
  obtain ⟨k, h1, _, h2⟩ := h.names
  rw [h2]
  exact fun d hd => namesK_th d (List.mem_of_mem_take hd)
theorem LampsD.lp {m : Int} {L : List D} (h : LampsD m L) : Lp 8 L := by
  refine ⟨List.all_eq_true.mpr fun r hr => ?_, ⟨?_, h.fst_th⟩⟩
  · obtain ⟨x, p, rfl, _⟩ := h.rows r hr
    rfl
  · rw [List.length_map]
    exact h.len.2
theorem LampsD.th {m : Int} {L : List D} (h : LampsD m L) : Th 8 2 (.tuple L) := by
  refine ⟨h.len.2, fun r hr => ?_⟩
  have h1 := h.fst_th (fstD r) (List.mem_map_of_mem hr)
  obtain ⟨x, p, rfl, _⟩ := h.rows r hr
  refine ⟨Nat.le_of_ble_eq_true rfl, fun d hd => ?_⟩
  simp only [List.mem_cons, List.not_mem_nil, or_false] at hd
  rcases hd with rfl | rfl
  · exact h1
  · exact Th.int
/-- drawn scenes -/
structure SceneD (L S : List D) : Prop where
  sub : (S.map fstD).Sublist (L.map fstD)
  rows : ∀ r ∈ S, ∃ x v, r = .tuple [.str x, .int v] ∧ 0 ≤ v ∧ v ≤ 100
theorem SceneD.fst_th {m : Int} {L S : List D} (hL : LampsD m L) (h : SceneD L S) : ∀ d ∈ S.map fstD, Th 8 0 d := fun d hd => hL.fst_th d (h.sub.subset hd)
theorem SceneD.len {m : Int} {L S : List D} (hL : LampsD m L) (h : SceneD L S) : S.length ≤ 8 := by
  have h1 := h.sub.length_le
  rw [List.length_map, List.length_map] at h1
  exact Nat.le_trans h1 hL.len.2
theorem SceneD.th {m : Int} {L S : List D} (hL : LampsD m L) (h : SceneD L S) : Th 8 2 (.tuple S) := by
  refine ⟨h.len hL, fun r hr => ?_⟩
  have h1 := h.fst_th hL (fstD r) (List.mem_map_of_mem hr)
  obtain ⟨x, p, rfl, _⟩ := h.rows r hr
  refine ⟨Nat.le_of_ble_eq_true rfl, fun d hd => ?_⟩
  simp only [List.mem_cons, List.not_mem_nil, or_false] at hd
  rcases hd with rfl | rfl
  · exact h1
  · exact Th.int
/-- anything -/
def anyK : List D := [.str "", .str " ", .str "a", .str "ann", .str "hours", .str "press", .str "sense", .str "all", .str "0", .str "lamp", .str "group", .str "A", .str "go", .str "a\nb", .str "heal"]
theorem anyK_th : ∀ d ∈ anyK, Th 8 0 d := by
  intro d hd
  simp only [anyK, List.mem_cons, List.not_mem_nil, or_false] at hd
  rcases hd with rfl | rfl | rfl | rfl | rfl | rfl | rfl | rfl | rfl | rfl | rfl | rfl | rfl | rfl | rfl <;> exact ⟨by decide, by decide +kernel⟩
/-- a spoilt thing -/
def spK : List D := [.str " ", .str "z", .str "A", .str "|", .str "abcdefgh", .str ""]
theorem spK_str : ∀ d ∈ spK, ∃ y, d = .str y ∧ y.length ≤ 8 ∧ PyData.strOk y = true := by
  intro d hd
  simp only [spK, List.mem_cons, List.not_mem_nil, or_false] at hd
  rcases hd with rfl | rfl | rfl | rfl | rfl | rfl <;> exact ⟨_, rfl, by decide, by decide +kernel⟩
theorem ixN_int {n : Nat} {k : Int} (h0 : 0 ≤ k) (h1 : k < n) : ixN n k = some k.toNat := by
  obtain ⟨j, rfl⟩ : ∃ j : Nat, k = (j : Int) := ⟨k.toNat, by omega⟩
  exact ixN_lit (by omega)
theorem LampsD.th3 {m : Int} {L : List D} (h : LampsD m L) : Th 24 8 (.tuple L) := h.th.up (by decide) (by decide)
theorem many_th {k : Int} (h0 : 0 ≤ k) (h1 : k < 10) : ∃ x, dIdx (.str "abcdefghij") (.int k) = some (.str x) ∧ Th 24 0 (.str x) := by
  obtain ⟨c, hc, hm⟩ := atI_mem (l := ("abcdefghij" : Str).cps.toList) h0 h1
  refine ⟨⟨#[c]⟩, ?_, ?_⟩
  · rw [dIdx_s, if_pos (by decide), hc]; rfl
  · refine Th.str (by decide : 1 ≤ 24) ?_
    have hs : PyData.strOk ("abcdefghij" : Str) = true := by decide +kernel
    rw [strOk_mk] at hs ⊢
    intro c' hc'
    obtain rfl := List.mem_singleton.mp hc'
    exact hs _ hm
end FL
end L2

/-! M4: lamps, scenes, layers as typed rows; who says what a lamp is -/
namespace L2
namespace FL
open PySem
section
variable {α : Type} {ρ : En} {g : D → En → Option En} {b : En → Option Fl} {t : En → Option (Bool × En)} {e : En → Option (D × En)} {vs : List Nat} {QL : List D → En → Prop} {QS : Fl → Prop}
/-- comprehensions and loops over typed things -/
theorem WLc.mapT {l : List α} {enc : α → D} (f : α → D) (h : ∀ a ∈ l, WG g (enc a) ρ fun ρ1 => Wx e ρ1 fun y ρ3 => y = f a ∧ wipeE ρ3 vs = ρ) (hq : QL (l.map f) ρ) : WLc g semYes e vs (l.map enc) ρ QL := by
  induction l generalizing QL with
  | nil => exact WLc.nil.mpr hq
  | cons d ds ih =>
    refine WLc.cons.mpr ((h d (List.mem_cons_self)).mono fun r1 h1 => ?_)
    refine w_yes.mpr ⟨fun _ => h1.mono fun y r3 h3 => ?_, fun z => nomatch z⟩
    rw [h3.2, h3.1]
    exact ih (fun x hx => h x (List.mem_cons_of_mem _ hx)) hq
theorem WLc.filtT {l : List α} {enc : α → D} (p : α → Bool) (f : α → D) (h : ∀ d ∈ l, WG g (enc d) ρ fun ρ1 => Wx t ρ1 fun c ρ2 => c = p d ∧ (c = true → Wx e ρ2 fun y ρ3 => y = f d ∧ wipeE ρ3 vs = ρ) ∧ (c = false → wipeE ρ2 vs = ρ)) (hq : QL ((l.filter p).map f) ρ) : WLc g t e vs (l.map enc) ρ QL := by
  induction l generalizing QL with
  | nil => exact WLc.nil.mpr hq
  | cons d ds ih =>
    refine WLc.cons.mpr ((h d (List.mem_cons_self)).mono fun r1 h1 => h1.mono fun c r2 h2 => ?_)
    obtain ⟨hp, ht, hf⟩ := h2
    refine ⟨fun hc => (ht hc).mono fun y r3 h3 => ?_, fun hc => ?_⟩
    · rw [h3.2, h3.1]
      refine ih (fun x hx => h x (List.mem_cons_of_mem _ hx)) ?_
      rw [List.filter_cons, ← hp, hc] at hq
      exact hq
    · rw [hf hc]
      refine ih (fun x hx => h x (List.mem_cons_of_mem _ hx)) ?_
      rw [List.filter_cons, ← hp, hc] at hq
      exact hq
/-- with effect: P of the items taken, of what is made -/
theorem WLc.invT {l : List α} {enc : α → D} (P : List α → List D → En → Prop) (h0 : P [] [] ρ)
    (ht : ∀ pre a post ys ρ, l = pre ++ a :: post → P pre ys ρ → WG g (enc a) ρ fun ρ1 => Wx e ρ1 fun y ρ3 => P (pre ++ [a]) (ys ++ [y]) (wipeE ρ3 vs)) (hd : ∀ ys ρ, P l ys ρ → QL ys ρ) : WLc g semYes e vs (l.map enc) ρ QL := by
  have go : ∀ (post pre : List α) (ys : List D) (ρ : En), pre ++ post = l → P pre ys ρ → WLc g semYes e vs (post.map enc) ρ fun zs r => QL (ys ++ zs) r := by
    intro post
    induction post with
    | nil =>
      intro pre ys ρ e p
      rw [List.append_nil] at e
      subst e
      refine WLc.nil.mpr ?_
      rw [List.append_nil]
      exact hd ys ρ p
    | cons d post ih =>
      intro pre ys ρ e p
      refine WLc.cons.mpr ((ht pre d post ys ρ e.symm p).mono fun r1 h1 => w_yes.mpr ⟨fun _ => h1.mono fun y r3 h3 => ?_, fun z => nomatch z⟩)
      refine (ih (pre ++ [d]) (ys ++ [y]) _ (by rw [List.append_assoc]; exact e) h3).mono fun zs r hz => ?_
      rw [List.append_assoc] at hz
      exact hz
  exact go l [] [] ρ rfl h0
theorem WF.invT {l : List α} {enc : α → D} (P : List α → En → Prop) (h0 : P [] ρ) (ht : ∀ pre a post ρ, l = pre ++ a :: post → P pre ρ → WG g (enc a) ρ fun ρ1 => WS b ρ1 (Tn (fun ρ2 => P (pre ++ [a]) ρ2) QS)) (hd : ∀ ρ, P l ρ → QS (.nx ρ)) : WF g b (l.map enc) ρ QS := by
  have go : ∀ (post pre : List α) (ρ : En), pre ++ post = l → P pre ρ → WF g b (post.map enc) ρ QS := by
    intro post
    induction post with
    | nil =>
      intro pre ρ e p
      rw [List.append_nil] at e
      subst e
      exact WF.nil.mpr (hd ρ p)
    | cons d post ih =>
      intro pre ρ e p
      refine WF.cons.mpr ((ht pre d post ρ e.symm p).mono fun r1 h1 => h1.mono fun f q => ?_)
      cases f with
      | nx r2 => exact ih (pre ++ [d]) r2 (by rw [List.append_assoc]; exact e) q
      | ct r2 => exact ih (pre ++ [d]) r2 (by rw [List.append_assoc]; exact e) q
      | bk r2 => exact q
      | rt d' r2 => exact q
  exact go l [] ρ rfl h0
theorem typed {enc : α → D} {P : α → Prop} : ∀ {L : List D}, (∀ r ∈ L, ∃ a, r = enc a ∧ P a) → ∃ l : List α, L = l.map enc ∧ ∀ a ∈ l, P a
  | [], _ => ⟨[], rfl, fun _ h => nomatch h⟩
  | r :: L, h => by
    obtain ⟨a, rfl, ha⟩ := h r List.mem_cons_self
    obtain ⟨l, rfl, hl⟩ := typed (enc := enc) (P := P) fun x hx => h x (List.mem_cons_of_mem _ hx)
    refine ⟨a :: l, rfl, fun x hx => ?_⟩
    rcases List.mem_cons.mp hx with rfl | hx
    · exact ha
    · exact hl x hx
theorem rangeD_map (lo : Int) (n : Nat) : rangeD lo n = (List.range n).map fun i : Nat => (.int (lo + (i : Int)) : D) := rfl
theorem rangeD_0 (n : Nat) : rangeD 0 n = (List.range n).map fun i : Nat => (.int (i : Int) : D) := by
  unfold rangeD
  refine List.map_congr_left fun i _ => ?_
  rw [Int.zero_add]
theorem enum_typed {enc : α → D} (l : List α) : enumD (l.map enc) = l.zipIdx.map fun q => pairD (.int (q.2 : Int)) (enc q.1) := by
  have go : ∀ (l : List α) (k : Nat), (((List.range' k l.length).map fun i : Nat => (.int (i : Int) : D)).zip (l.map enc)).map (fun p => pairD p.1 p.2) = (l.zipIdx k).map fun q => pairD (.int (q.2 : Int)) (enc q.1) := by
    intro l
    induction l with
    | nil => intro k; rfl
    | cons a l ih =>
      intro k
      rw [List.length_cons, List.range'_succ, List.zipIdx_cons, List.map_cons, List.map_cons, List.zip_cons_cons, List.map_cons, List.map_cons, ih]
  unfold enumD
  rw [List.length_map, rangeD_0, List.range_eq_range', go]
theorem zip_typed {β : Type} {enc : α → D} {enc' : β → D} (l : List α) (m : List β) : ((l.map enc).zip (m.map enc')).map (fun p => pairD p.1 p.2) = (l.zip m).map fun q => pairD (enc q.1) (enc' q.2) := by
  rw [List.zip_map, List.map_map]
  rfl
end
/-! ### rows -/
def TxOk (x : Str) : Prop := x.length ≤ 1000 ∧ PyData.strOk x = true
structure RsOk (s : List Row) : Prop where
  len : s.length ≤ 1000
  tx : ∀ p ∈ s, TxOk p.1
  nd : (s.map (·.1)).Nodup
def nmD (s : List Row) : List D := s.map fun p => .str p.1
theorem TxOk.th {x : Str} (h : TxOk x) (n : Nat) : Th 1000 n (.str x) := Th.str h.1 h.2
theorem RsOk.nm_th {s : List Row} (h : RsOk s) : Th 1000 1 (.list (nmD s)) := by
  refine ⟨by unfold nmD; rw [List.length_map]; exact h.len, fun d hd => ?_⟩
  obtain ⟨p, hp, rfl⟩ := List.mem_map.mp hd
  exact (h.tx p hp).th 0
theorem RsOk.th {s : List Row} (h : RsOk s) : Th 1000 2 (encS s) := by
  refine ⟨by rw [List.length_map]; exact h.len, fun d hd => ?_⟩
  obtain ⟨p, hp, rfl⟩ := List.mem_map.mp hd
  refine ⟨Nat.le_of_ble_eq_true rfl, fun z hz => ?_⟩
  simp only [List.mem_cons, List.not_mem_nil, or_false] at hz
  rcases hz with rfl | rfl
  · exact (h.tx p hp).th 0
  · exact Th.int
theorem encS_pairs (s : List Row) : (s.map encP).all pairB = true := List.all_eq_true.mpr fun d hd => by
  obtain ⟨p, _, rfl⟩ := List.mem_map.mp hd
  rfl
theorem fIn_rows {s : List Row} {x : Str} (hs : RsOk s) (hx : TxOk x) : fIn (.str x) (.list (nmD s)) = some (.bool (lk s x).isSome) := by
  have e : inD (.str x) (.list (nmD s)) = if SeqAt.shaped (.str x) = true ∧ SeqAt.shaped (.list (nmD s)) = true then some ((nmD s).any fun z => PyData.eqv z (.str x)) else none := rfl
  unfold fIn
  rw [e, if_pos ⟨(hx.th 0).shaped (by omega), hs.nm_th.shaped (by omega)⟩]
  unfold nmD
  rw [in_rows]
  rfl
theorem fNotIn_rows {s : List Row} {x : Str} (hs : RsOk s) (hx : TxOk x) : fNotIn (.str x) (.list (nmD s)) = some (.bool (!(lk s x).isSome)) := by
  have e : inD (.str x) (.list (nmD s)) = if SeqAt.shaped (.str x) = true ∧ SeqAt.shaped (.list (nmD s)) = true then some ((nmD s).any fun z => PyData.eqv z (.str x)) else none := rfl
  unfold fNotIn
  rw [e, if_pos ⟨(hx.th 0).shaped (by omega), hs.nm_th.shaped (by omega)⟩]
  unfold nmD
  rw [in_rows]
  rfl
/-! ### layers -/
abbrev Lay := Int × List Row
def encY (l : Lay) : D := .tuple [.int l.1, encS l.2]
structure YsOk (ls : List Lay) : Prop where
  len : ls.length ≤ 1000
  rs : ∀ l ∈ ls, RsOk l.2
structure Say where
  pl : Nat
  rk : Int
  lv : Int
def sayF (x : Str) (acc : Option Say) (q : Lay × Nat) : Option Say := match lk q.1.2 x with
  | none => acc
  | some v => match acc with
    | none => some ⟨q.2, q.1.1, v⟩
    | some s => if s.rk ≤ q.1.1 then some ⟨q.2, q.1.1, v⟩ else some s
def say (ls : List Lay) (x : Str) : Option Say := ls.zipIdx.foldl (sayF x) none
def lvl (ls : List Lay) (x : Str) : Int := match say ls x with
  | none => 0
  | some s => s.lv
def optN : Option Nat → D
  | none => .none
  | some n => .int n
def plc (ls : List Lay) (x : Str) : Option Nat := (say ls x).map (·.pl)
theorem sayF_at {x : Str} : ∀ (qs : List (Lay × Nat)) (acc : Option Say) {s : Say}, qs.foldl (sayF x) acc = some s → acc = some s ∨ ∃ l, (l, s.pl) ∈ qs ∧ l.1 = s.rk ∧ lk l.2 x = some s.lv
  | [], _, _, h => .inl h
  | q :: qs, acc, s, h => by
    rcases sayF_at qs _ h with h1 | ⟨l, h1, h2⟩
    · unfold sayF at h1
      cases e : lk q.1.2 x with
      | none => rw [e] at h1; exact .inl h1
      | some v =>
        rw [e] at h1
        cases acc with
        | none =>
          cases h1
          exact .inr ⟨q.1, List.mem_cons_self, rfl, e⟩
        | some s0 =>
          dsimp only at h1
          split at h1
          · cases h1
            exact .inr ⟨q.1, List.mem_cons_self, rfl, e⟩
          · exact .inl h1
    · exact .inr ⟨l, List.mem_cons_of_mem _ h1, h2⟩
theorem say_at {ls : List Lay} {x : Str} {s : Say} (h : say ls x = some s) : ∃ l, ls[s.pl]? = some l ∧ l.1 = s.rk ∧ lk l.2 x = some s.lv := by
  rcases sayF_at _ _ h with h1 | ⟨l, h1, h2⟩
  · cases h1
  · exact ⟨l, List.mk_mem_zipIdx_iff_getElem?.mp h1, h2⟩
theorem sayF_some {x : Str} : ∀ (qs : List (Lay × Nat)) (s : Say), ∃ s', qs.foldl (sayF x) (some s) = some s'
  | [], s => ⟨s, rfl⟩
  | q :: qs, s => by
    rw [List.foldl_cons]
    unfold sayF
    cases lk q.1.2 x with
    | none => exact sayF_some qs s
    | some v =>
      dsimp only
      split
      · exact sayF_some qs _
      · exact sayF_some qs _
/-- the pairs of which the greatest is taken -/
def cands (x : Str) (qs : List (Lay × Nat)) : List (Int × Int) := (qs.filter fun q => (lk q.1.2 x).isSome).map fun q => (q.1.1, (q.2 : Int))
def encII (p : Int × Int) : D := .tuple [.int p.1, .int p.2]
def mxII (a y : Int × Int) : Int × Int := if a.1 < y.1 ∨ (a.1 = y.1 ∧ a.2 < y.2) then y else a
theorem maxD_ii : ∀ (cs : List (Int × Int)) (c : Int × Int), PySem.W.maxD (encII c) (cs.map encII) = encII (cs.foldl mxII c)
  | [], c => rfl
  | y :: cs, c => by
    have ih := maxD_ii cs (mxII c y)
    unfold PySem.W.maxD at ih ⊢
    rw [List.map_cons, List.foldl_cons, List.foldl_cons, ← ih]
    congr 1
    unfold encII mxII
    rw [PySem.W.dataLt_ii]
    by_cases h : c.1 < y.1 ∨ (c.1 = y.1 ∧ c.2 < y.2)
    · rw [decide_eq_true h, if_pos h]; rfl
    · rw [decide_eq_false h, if_neg h]; rfl
theorem alike_ii (a b : Int × Int) : PySem.W.alike (encII a) (encII b) = true := rfl
theorem alikeB_ii (cs : List (Int × Int)) : alikeB (cs.map encII) = true := by
  unfold alikeB
  rw [Bool.and_eq_true]
  refine ⟨List.all_eq_true.mpr fun x hx => List.all_eq_true.mpr fun y hy => ?_, List.all_eq_true.mpr fun x hx => ?_⟩
  · obtain ⟨a, _, rfl⟩ := List.mem_map.mp hx
    obtain ⟨b, _, rfl⟩ := List.mem_map.mp hy
    rfl
  · obtain ⟨a, _, rfl⟩ := List.mem_map.mp hx
    rfl
theorem lay_ii (cs : List (Int × Int)) : PyData.canLayAll0 (cs.map encII) = true ∧ PyData.depthAll (cs.map encII) ≤ 1 := lay_all fun d hd => by
  obtain ⟨a, _, rfl⟩ := List.mem_map.mp hd
  exact ⟨by rfl, Nat.le_of_eq (by rfl)⟩
theorem dMaxL_ii (c : Int × Int) (cs : List (Int × Int)) : dMaxL (.list ((c :: cs).map encII)) = some (encII (cs.foldl mxII c)) := by
  have h1 := alikeB_ii (c :: cs)
  have h2 := lay_ii (c :: cs)
  rw [List.map_cons] at h1 h2 ⊢
  show (if _ then _ else _) = _
  rw [if_pos ⟨h1, h2.1, Nat.le_trans h2.2 (by decide)⟩, maxD_ii]
theorem cands_say {x : Str} : ∀ (ls : List Lay) (i : Nat) (s s' : Say), (ls.zipIdx i).foldl (sayF x) (some s) = some s' → s.pl < i → (cands x (ls.zipIdx i)).foldl mxII (s.rk, (s.pl : Int)) = (s'.rk, (s'.pl : Int))
  | [], _, s, s', h, _ => by cases h; rfl
  | l :: ls, i, s, s', h, hi => by
    rw [List.zipIdx_cons] at h ⊢
    rw [List.foldl_cons] at h
    unfold cands
    rw [List.filter_cons]
    unfold sayF at h
    cases e : lk l.2 x with
    | none =>
      rw [e] at h
      simp only [Option.isSome_none, Bool.false_eq_true, if_false]
      exact cands_say ls (i + 1) s s' h (by omega)
    | some v =>
      rw [e] at h
      simp only [Option.isSome_some, if_true, List.map_cons, List.foldl_cons]
      dsimp only at h
      unfold mxII
      split at h
      · rename_i hr
        rw [if_pos (by dsimp only; omega)]
        exact cands_say ls (i + 1) _ s' h (by show i < i + 1; omega)
      · rename_i hr
        rw [if_neg (by dsimp only; omega)]
        exact cands_say ls (i + 1) _ s' h (by omega)
theorem cands_none {x : Str} : ∀ (ls : List Lay) (i : Nat), (ls.zipIdx i).foldl (sayF x) none = none → cands x (ls.zipIdx i) = []
  | [], _, _ => rfl
  | l :: ls, i, h => by
    rw [List.zipIdx_cons] at h ⊢
    rw [List.foldl_cons] at h
    unfold cands
    rw [List.filter_cons]
    unfold sayF at h
    cases e : lk l.2 x with
    | none =>
      rw [e] at h
      simp only [Option.isSome_none, Bool.false_eq_true, if_false]
      exact cands_none ls (i + 1) h
    | some v =>
      rw [e] at h
      obtain ⟨s', h2⟩ := sayF_some (x := x) (ls.zipIdx (i + 1)) ⟨i, l.1, v⟩
      exact absurd (h.symm.trans h2) (by simp)
theorem cands_first {x : Str} : ∀ (ls : List Lay) (i : Nat) (s' : Say), (ls.zipIdx i).foldl (sayF x) none = some s' → ∃ c cs, cands x (ls.zipIdx i) = c :: cs ∧ cs.foldl mxII c = (s'.rk, (s'.pl : Int))
  | [], _, s', h => by cases h
  | l :: ls, i, s', h => by
    rw [List.zipIdx_cons] at h ⊢
    rw [List.foldl_cons] at h
    unfold cands
    rw [List.filter_cons]
    unfold sayF at h
    cases e : lk l.2 x with
    | none =>
      rw [e] at h
      simp only [Option.isSome_none, Bool.false_eq_true, if_false]
      exact cands_first ls (i + 1) s' h
    | some v =>
      rw [e] at h
      simp only [Option.isSome_some, if_true, List.map_cons]
      exact ⟨_, _, rfl, cands_say ls (i + 1) ⟨i, l.1, v⟩ s' h (by show i < i + 1; omega)⟩
theorem cands_len (x : Str) (ls : List Lay) : (cands x ls.zipIdx).length ≤ ls.length := by
  unfold cands
  rw [List.length_map]
  refine Nat.le_trans (List.length_filter_le _ _) ?_
  rw [List.length_zipIdx]
  exact Nat.le_refl _
theorem cands_th (x : Str) {ls : List Lay} (h : YsOk ls) : Th 1000 2 (.list ((cands x ls.zipIdx).map encII)) := by
  refine ⟨by rw [List.length_map]; exact Nat.le_trans (cands_len x ls) h.len, fun d hd => ?_⟩
  obtain ⟨p, _, rfl⟩ := List.mem_map.mp hd
  refine ⟨Nat.le_of_ble_eq_true rfl, fun z hz => ?_⟩
  simp only [List.mem_cons, List.not_mem_nil, or_false] at hz
  rcases hz with rfl | rfl <;> exact Th.int
theorem fNe_nil {w n : Nat} {ds : List D} (h : Th w n (.list ds)) (hn : n ≤ 64) : fNe (.list ds) (.list []) = some (.bool (!ds.isEmpty)) := by
  unfold fNe
  rw [if_pos ⟨h.shaped hn, rfl⟩]
  cases ds <;> rfl
theorem optN_th (o : Option Nat) (w n : Nat) : Th w n (optN o) := by
  cases o
  · exact Th.none
  · exact Th.int
theorem eqv_optN (o : Option Nat) (i : Nat) : PyData.eqv (optN o) (.int (i : Int)) = decide (o = some i) := by
  cases o with
  | none => rw [optN, PyData.eqv]; rfl
  | some n =>
    rw [optN, PyData.eqv]
    by_cases h : n = i
    · subst h; simp
    · simp [h]
      omega
theorem fNotIn_opt {os : List (Option Nat)} {i : Nat} (h : os.length ≤ 1000) : fNotIn (.int (i : Int)) (.list (os.map optN)) = some (.bool (!os.contains (some i))) := by
  have hT : Th 1000 1 (.list (os.map optN)) := ⟨by rw [List.length_map]; exact h, fun d hd => by
    obtain ⟨o, _, rfl⟩ := List.mem_map.mp hd
    exact optN_th o _ _⟩
  rw [fNotIn_L (w := 1000) (n := 0) Th.int hT (by omega) (by omega)]
  unfold inB
  rw [List.any_map]
  congr 3
  rw [List.contains_eq_any_beq]
  refine List.any_congr rfl fun o => ?_
  show PyData.eqv (optN o) _ = _
  rw [eqv_optN]
  by_cases e : o = some i
  · subst e; simp
  · rw [decide_eq_false e]
    symm
    exact beq_eq_false_iff_ne.mpr fun z => e z.symm

theorem dMaxL_ii' (c : Int × Int) (cs : List (Int × Int)) : dMaxL (.list (encII c :: cs.map encII)) = some (encII (cs.foldl mxII c)) := dMaxL_ii c cs
/-! what the program makes of layers -/
def joinT (L : List Row) (ls : List Lay) : List Row := (L.filter fun p => (plc ls p.1).isSome).map fun p => (p.1, lvl ls p.1)
def silT (L : List Row) (ls : List Lay) : List Nat := (List.range ls.length).filter fun i => !(L.map fun p => plc ls p.1).contains (some i)
def shownT (ls : List Lay) (p : Row) : D := .tuple [.str p.1, optN (plc ls p.1), .int (lvl ls p.1)]
theorem lvls_fst (L : List Row) (ls : List Lay) : (L.map fun p => (p.1, lvl ls p.1)).map (·.1) = L.map (·.1) := by
  rw [List.map_map]
  rfl
theorem lvls_nd {L : List Row} (h : RsOk L) (ls : List Lay) : ((L.map fun p => (p.1, lvl ls p.1)).map (·.1)).Nodup := by
  rw [lvls_fst]
  exact h.nd
theorem lk_map_mem {L : List Row} {p : Row} (f : Row → Int) (hp : p ∈ L) (h : (L.map (·.1)).Nodup) : lk (L.map fun p => (p.1, f p)) p.1 = some (f p) := by
  induction L with
  | nil => cases hp
  | cons q L ih =>
    have hn := List.nodup_cons.mp h
    unfold lk at ih ⊢
    rw [List.map_cons, List.find?_cons]
    by_cases e : q.1 = p.1
    · rw [decide_eq_true e]
      rcases List.mem_cons.mp hp with rfl | h2
      · rfl
      · exact absurd (List.mem_map.mpr ⟨p, h2, e.symm⟩) hn.1
    · rw [decide_eq_false e]
      rcases List.mem_cons.mp hp with rfl | h2
      · exact absurd rfl e
      · exact ih h2 hn.2
theorem lk_lvls {L : List Row} {p : Row} (hp : p ∈ L) (h : RsOk L) (ls : List Lay) : lk (L.map fun p => (p.1, lvl ls p.1)) p.1 = some (lvl ls p.1) := lk_map_mem _ hp h.nd
theorem fEq_ss {x y : Str} (hx : TxOk x) (hy : TxOk y) : fEq (.str x) (.str y) = some (.bool (decide (x = y))) := by
  unfold fEq
  rw [if_pos ⟨(hx.th 0).shaped (by omega), (hy.th 0).shaped (by omega)⟩, eqv_str]
theorem filt_lk_none {s : List Row} {x : Str} (h : lk s x = none) : (s.filter fun r => decide (r.1 = x)) = [] := by
  rw [List.filter_eq_nil_iff]
  intro r hr h2
  exact lk_none.mp h (List.mem_map.mpr ⟨r, hr, of_decide_eq_true h2⟩)
theorem filt_lk_some {x : Str} {v : Int} : ∀ {s : List Row}, lk s x = some v → ∃ t, (s.filter fun r => decide (r.1 = x)).map (fun r => (.int r.2 : D)) = .int v :: t
  | [], h => by cases h
  | r :: s, h => by
    unfold lk at h
    rw [List.find?_cons] at h
    rw [List.filter_cons]
    by_cases e : r.1 = x
    · rw [decide_eq_true e] at h ⊢
      cases h
      exact ⟨_, rfl⟩
    · rw [decide_eq_false e] at h ⊢
      exact filt_lk_some (s := s) h
/-! ### what is drawn -/
def namesT : List Str := ["ann", "bo", "cy", "dot", "eve", "fay", "gus", "zzzzzzzz"]
theorem namesT_nd : namesT.Nodup := by decide +kernel
theorem namesT_ok : ∀ x ∈ namesT, TxOk x := by
  intro x hx
  simp only [namesT, List.mem_cons, List.not_mem_nil, or_false] at hx
  rcases hx with rfl | rfl | rfl | rfl | rfl | rfl | rfl | rfl <;> exact ⟨by decide, by decide +kernel⟩
structure LmT (m : Int) (L : List Row) : Prop where
  nm : ∃ k : Nat, 1 ≤ k ∧ (k : Int) ≤ m ∧ k ≤ 8 ∧ L.map (·.1) = namesT.take k
  pw : ∀ p ∈ L, 1 ≤ p.2 ∧ p.2 ≤ 200
structure ScT (L S : List Row) : Prop where
  sub : (S.map (·.1)).Sublist (L.map (·.1))
  lv : ∀ p ∈ S, 0 ≤ p.2 ∧ p.2 ≤ 100
theorem str_inj : Function.Injective (fun x : Str => (.str x : D)) := fun a b h => by injection h
theorem fst_encP (s : List Row) : (s.map encP).map fstD = (s.map (·.1)).map fun x => (.str x : D) := by
  rw [List.map_map, List.map_map]
  rfl
theorem LampsD.typed {m : Int} {L : List D} (h : LampsD m L) (hm : m ≤ 8) : ∃ R : List Row, L = R.map encP ∧ LmT m R := by
  obtain ⟨R, rfl, hR⟩ := FL.typed (enc := encP) (P := fun p : Row => 1 ≤ p.2 ∧ p.2 ≤ 200) (L := L) fun r hr => by
    obtain ⟨x, p, rfl, h1, h2⟩ := h.rows r hr
    exact ⟨(x, p), rfl, h1, h2⟩
  refine ⟨R, rfl, ?_, hR⟩
  obtain ⟨k, h1, h2, h3⟩ := h.names
  refine ⟨k, h1, h2, by omega, ?_⟩
  rw [fst_encP] at h3
  have e : namesK = namesT.map fun x => (.str x : D) := rfl
  rw [e, ← List.map_take] at h3
  exact (List.map_inj_right fun a b h => str_inj h).mp h3
theorem SceneD.typed {R : List Row} {S : List D} (h : SceneD (R.map encP) S) : ∃ T : List Row, S = T.map encP ∧ ScT R T := by
  obtain ⟨T, rfl, hT⟩ := FL.typed (enc := encP) (P := fun p : Row => 0 ≤ p.2 ∧ p.2 ≤ 100) (L := S) fun r hr => by
    obtain ⟨x, p, rfl, h1, h2⟩ := h.rows r hr
    exact ⟨(x, p), rfl, h1, h2⟩
  refine ⟨T, rfl, ?_, hT⟩
  have h3 := h.sub
  rw [fst_encP, fst_encP] at h3
  obtain ⟨l', h4, h5⟩ := List.sublist_map_iff.mp h3
  rw [(List.map_inj_right fun a b h => str_inj h).mp h5]
  exact h4
theorem LmT.ok {m : Int} {L : List Row} (h : LmT m L) : RsOk L := by
  obtain ⟨k, h1, h2, h3, h4⟩ := h.nm
  refine ⟨?_, fun p hp => ?_, ?_⟩
  · have := congrArg List.length h4
    rw [List.length_map, List.length_take] at this
    have : namesT.length = 8 := rfl
    omega
  · refine namesT_ok _ (List.mem_of_mem_take (i := k) ?_)
    rw [← h4]
    exact List.mem_map_of_mem (f := fun p : Row => p.1) hp
  · rw [h4]
    exact namesT_nd.sublist (List.take_sublist _ _)
theorem LmT.len {m : Int} {L : List Row} (h : LmT m L) : 1 ≤ L.length ∧ L.length ≤ 8 := by
  obtain ⟨k, h1, h2, h3, h4⟩ := h.nm
  have := congrArg List.length h4
  rw [List.length_map, List.length_take] at this
  have : namesT.length = 8 := rfl
  omega
theorem ScT.ok {m : Int} {L S : List Row} (hL : LmT m L) (h : ScT L S) : RsOk S := by
  have hl := h.sub.length_le
  rw [List.length_map, List.length_map] at hl
  refine ⟨Nat.le_trans hl hL.ok.len, fun p hp => ?_, hL.ok.nd.sublist h.sub⟩
  obtain ⟨q, hq, e⟩ := List.mem_map.mp (h.sub.subset (List.mem_map_of_mem (f := fun p : Row => p.1) hp))
  rw [← e]
  exact hL.ok.tx q hq

theorem LmT.lampsD {m : Int} {L : List Row} (h : LmT m L) : LampsD m (L.map encP) := by
  obtain ⟨k, h1, h2, h3, h4⟩ := h.nm
  refine ⟨⟨k, h1, h2, ?_⟩, fun r hr => ?_⟩
  · rw [fst_encP, h4]
    have e : namesK = namesT.map fun x => (.str x : D) := rfl
    rw [e, ← List.map_take]
  · obtain ⟨p, hp, rfl⟩ := List.mem_map.mp hr
    exact ⟨p.1, p.2, rfl, h.pw p hp⟩
theorem lvls_ok {L : List Row} (h : RsOk L) (ls : List Lay) : RsOk (L.map fun p => (p.1, lvl ls p.1)) := by
  refine ⟨by rw [List.length_map]; exact h.len, fun p hp => ?_, lvls_nd h ls⟩
  obtain ⟨q, hq, rfl⟩ := List.mem_map.mp hp
  exact h.tx q hq
theorem joinT_ok {L : List Row} (h : RsOk L) (ls : List Lay) : RsOk (joinT L ls) := by
  unfold joinT
  refine ⟨by rw [List.length_map]; exact Nat.le_trans (List.length_filter_le _ _) h.len, fun p hp => ?_, ?_⟩
  · obtain ⟨q, hq, rfl⟩ := List.mem_map.mp hp
    exact h.tx q (List.mem_filter.mp hq).1
  · rw [List.map_map]
    show ((L.filter _).map fun p : Row => p.1).Nodup
    exact h.nd.sublist (List.Sublist.map _ List.filter_sublist)
theorem ys_th {ls : List Lay} (h : YsOk ls) : Th 1000 4 (.list (ls.map encY)) := by
  refine ⟨by rw [List.length_map]; exact h.len, fun d hd => ?_⟩
  obtain ⟨l, hl, rfl⟩ := List.mem_map.mp hd
  refine ⟨Nat.le_of_ble_eq_true rfl, fun z hz => ?_⟩
  simp only [List.mem_cons, List.not_mem_nil, or_false] at hz
  rcases hz with rfl | rfl
  · exact Th.int
  · exact (h.rs l hl).th
theorem fNe_refl {w n : Nat} {d : D} (h : Th w n d) (hn : n ≤ 64) : fNe d d = some (.bool false) := by
  unfold fNe
  rw [if_pos ⟨h.shaped hn, h.shaped hn⟩, PySem.SeqAt.eqv_refl d h.lay.1]
  rfl
theorem fEq_nn : fEq (.list []) (.list []) = some (.bool true) := fEq_nil (w := 0) (n := 1) (ds := []) ⟨Nat.le_refl 0, by simp⟩ (by omega)
theorem fEq_refl {d : D} {w n : Nat} (h : Th w n d) (hn : n ≤ 64) : fEq d d = some (.bool true) := by
  unfold fEq
  rw [if_pos ⟨h.shaped hn, h.shaped hn⟩, PySem.SeqAt.eqv_refl d h.lay.1]
end FL
end L2

/-! M5: scenes over one another: plain laws -/
namespace L2
namespace FL
open PySem
theorem fNe_nn : fNe (.list []) (.list []) = some (.bool false) := fNe_refl (w := 0) (n := 1) ⟨Nat.le_refl 0, by simp⟩ (by omega)
theorem okK_rows' {s : List Row} : okK (s.map fun p => ((.str p.1 : D), (.int p.2 : D))) = true := okK_rows s
theorem isDict_rows {s : List Row} : isDict (dicS s) = true := okK_rows s
theorem dGet_rows {s : List Row} {x : Str} {z : D} : dGet (dicS s) (.str x) z = some (match lk s x with | none => z | some v => .int v) := by
  unfold dicS
  show (if okK _ = true then some ((lookK _ _).getD z) else none) = _
  rw [if_pos (okK_rows s), lookK_rows]
  cases lk s x <;> rfl
theorem rows_inj {s : List Row} (h : (s.map (·.1)).Nodup) {p q : Row} (hp : p ∈ s) (hq : q ∈ s) (e : p.1 = q.1) : p = q := by
  induction s with
  | nil => cases hp
  | cons r s ih =>
    have hn := List.nodup_cons.mp h
    rcases List.mem_cons.mp hp with rfl | hp'
    · rcases List.mem_cons.mp hq with rfl | hq'
      · rfl
      · exact absurd (List.mem_map.mpr ⟨q, hq', e.symm⟩) hn.1
    · rcases List.mem_cons.mp hq with rfl | hq'
      · exact absurd (List.mem_map.mpr ⟨p, hp', e⟩) hn.1
      · exact ih hn.2 hp' hq'
theorem lk_filter_map {L : List Row} {p : Row} (f : Row → Bool) (g : Row → Int) (hp : p ∈ L) (h : (L.map (·.1)).Nodup) : lk ((L.filter f).map fun p => (p.1, g p)) p.1 = if f p = true then some (g p) else none := by
  by_cases e : f p = true
  · rw [if_pos e]
    exact lk_map_mem g (List.mem_filter.mpr ⟨hp, e⟩) (h.sublist (List.Sublist.map _ List.filter_sublist))
  · rw [if_neg e, lk_none]
    intro h2
    obtain ⟨q, hq, e2⟩ := List.mem_map.mp h2
    obtain ⟨q', hq', rfl⟩ := List.mem_map.mp hq
    have h3 := List.mem_filter.mp hq'
    have := rows_inj h hp h3.1 e2.symm
    subst this
    exact e h3.2
/-! ### without places -/
def lvF (x : Str) (acc : Option (Int × Int)) (l : Lay) : Option (Int × Int) := match lk l.2 x with
  | none => acc
  | some v => match acc with
    | none => some (l.1, v)
    | some s => if s.1 ≤ l.1 then some (l.1, v) else some s
def lv2 (ls : List Lay) (x : Str) : Option (Int × Int) := ls.foldl (lvF x) none
def lvO : Option (Int × Int) → Int
  | none => 0
  | some s => s.2
def sayRL (s : Say) : Int × Int := (s.rk, s.lv)
theorem sayF_lvF {x : Str} : ∀ (qs : List (Lay × Nat)) (acc : Option Say), (qs.foldl (sayF x) acc).map sayRL = (qs.map (·.1)).foldl (lvF x) (acc.map sayRL)
  | [], _ => rfl
  | q :: qs, acc => by
    rw [List.foldl_cons, List.map_cons, List.foldl_cons, sayF_lvF qs]
    congr 1
    unfold sayF lvF
    cases lk q.1.2 x with
    | none => rfl
    | some v =>
      cases acc with
      | none => rfl
      | some s =>
        dsimp only [Option.map_some, sayRL]
        split <;> rfl
theorem say_lv2 (ls : List Lay) (x : Str) : (say ls x).map sayRL = lv2 ls x := by
  unfold say lv2
  rw [sayF_lvF, List.zipIdx_map_fst]
  rfl
theorem lvl_lv2 (ls : List Lay) (x : Str) : lvl ls x = lvO (lv2 ls x) := by
  rw [← say_lv2]
  unfold lvl
  cases say ls x <;> rfl
theorem plc_lv2 (ls : List Lay) (x : Str) : (plc ls x).isSome = (lv2 ls x).isSome := by
  rw [← say_lv2]
  unfold plc
  cases say ls x <;> rfl
theorem lvF_some {x : Str} : ∀ (ls : List Lay) (s : Int × Int), ∃ s', ls.foldl (lvF x) (some s) = some s'
  | [], s => ⟨s, rfl⟩
  | l :: ls, s => by
    rw [List.foldl_cons]
    unfold lvF
    cases lk l.2 x with
    | none => exact lvF_some ls s
    | some v =>
      dsimp only
      split
      · exact lvF_some ls _
      · exact lvF_some ls _
theorem lvF_bound {x : Str} {a b : Int} : ∀ (ls : List Lay) (acc : Option (Int × Int)) {s : Int × Int}, (∀ l ∈ ls, a ≤ l.1 ∧ l.1 ≤ b) → (∀ s, acc = some s → a ≤ s.1 ∧ s.1 ≤ b) → ls.foldl (lvF x) acc = some s → a ≤ s.1 ∧ s.1 ≤ b
  | [], _, _, _, ha, h => ha _ h
  | l :: ls, acc, s, hl, ha, h => by
    refine lvF_bound ls _ (fun l' h' => hl l' (List.mem_cons_of_mem _ h')) (fun s' e => ?_) h
    unfold lvF at e
    have h0 := hl l List.mem_cons_self
    cases hv : lk l.2 x with
    | none => rw [hv] at e; exact ha _ e
    | some v =>
      rw [hv] at e
      cases acc with
      | none => cases e; exact h0
      | some s0 =>
        dsimp only at e
        split at e
        · cases e; exact h0
        · cases e; exact ha _ rfl
theorem lv2_bound {ls : List Lay} {x : Str} {a b : Int} {s : Int × Int} (h : ∀ l ∈ ls, a ≤ l.1 ∧ l.1 ≤ b) (e : lv2 ls x = some s) : a ≤ s.1 ∧ s.1 ≤ b := lvF_bound ls none h (fun _ z => nomatch z) e
theorem lv2_one (r : Int) (S : List Row) (x : Str) : lv2 [(r, S)] x = (lk S x).map fun v => (r, v) := by
  show lvF x none (r, S) = _
  unfold lvF
  dsimp only
  cases lk S x <;> rfl
theorem lv2_snoc (ls : List Lay) (l : Lay) (x : Str) : lv2 (ls ++ [l]) x = lvF x (lv2 ls x) l := by
  unfold lv2
  rw [List.foldl_append]
  rfl
theorem lvF_under {x : Str} {r v : Int} : ∀ (ls : List Lay), (∀ l ∈ ls, r < l.1) → ls.foldl (lvF x) (some (r, v)) = match ls.foldl (lvF x) none with
    | none => some (r, v)
    | some s => some s
  | [], _ => rfl
  | l :: ls, h => by
    have h0 := h l List.mem_cons_self
    rw [List.foldl_cons, List.foldl_cons]
    cases hv : lk l.2 x with
    | none =>
      rw [show lvF x (some (r, v)) l = some (r, v) by unfold lvF; rw [hv], show lvF x none l = none by unfold lvF; rw [hv]]
      exact lvF_under ls fun l' h' => h l' (List.mem_cons_of_mem _ h')
    | some w =>
      rw [show lvF x (some (r, v)) l = some (l.1, w) by unfold lvF; rw [hv]; dsimp only; rw [if_pos (by omega)], show lvF x none l = some (l.1, w) by unfold lvF; rw [hv]]
      obtain ⟨s', e⟩ := lvF_some (x := x) ls (l.1, w)
      rw [e]
/-- a layer of less rank under -/
theorem lvl_cons0 {ls : List Lay} {S : List Row} {x : Str} (h : ∀ l ∈ ls, 1 ≤ l.1 ∧ l.1 ≤ 8) : lvl ((0, S) :: ls) x = if (plc ls x).isSome = true then lvl ls x else (lk S x).getD 0 := by
  rw [plc_lv2, lvl_lv2, lvl_lv2]
  unfold lv2
  rw [List.foldl_cons]
  cases hv : lk S x with
  | none =>
    rw [show lvF x none (0, S) = none by unfold lvF; dsimp only; rw [hv]]
    cases ls.foldl (lvF x) none <;> rfl
  | some v =>
    rw [show lvF x none (0, S) = some (0, v) by unfold lvF; dsimp only; rw [hv], lvF_under ls fun l hl => by have := h l hl; omega]
    cases ls.foldl (lvF x) none <;> rfl
theorem lvl_snoc0 {ls : List Lay} {S : List Row} {x : Str} (h : ∀ l ∈ ls, 1 ≤ l.1 ∧ l.1 ≤ 8) : lvl (ls ++ [(0, S)]) x = if (plc ls x).isSome = true then lvl ls x else (lk S x).getD 0 := by
  rw [plc_lv2, lvl_lv2, lvl_lv2, lv2_snoc]
  unfold lvF
  dsimp only
  cases hv : lk S x with
  | none => cases lv2 ls x <;> rfl
  | some v =>
    cases e : lv2 ls x with
    | none => rfl
    | some s =>
      have := lv2_bound h e
      dsimp only
      rw [if_neg (by omega)]
      rfl
theorem lvl_snoc9 {ls : List Lay} {S : List Row} {x : Str} (h : ∀ l ∈ ls, 1 ≤ l.1 ∧ l.1 ≤ 8) : lvl (ls ++ [(9, S)]) x = (lk S x).getD (lvl ls x) := by
  rw [lvl_lv2, lvl_lv2, lv2_snoc]
  unfold lvF
  dsimp only
  cases hv : lk S x with
  | none => rfl
  | some v =>
    cases e : lv2 ls x with
    | none => rfl
    | some s =>
      have := lv2_bound h e
      dsimp only
      rw [if_pos (by omega)]
      rfl
/-- the joined scene alone -/
theorem lvl_joined {L : List Row} {ls : List Lay} {p : Row} (hL : RsOk L) (hp : p ∈ L) : lvl [(0, joinT L ls)] p.1 = lvl ls p.1 := by
  rw [lvl_lv2, lv2_one]
  unfold joinT
  rw [lk_filter_map (fun p => (plc ls p.1).isSome) (fun p => lvl ls p.1) hp hL.nd]
  split
  · rfl
  · rename_i h
    rw [lvl_lv2]
    rw [plc_lv2] at h
    cases e : lv2 ls p.1 with
    | none => rfl
    | some s => rw [e] at h; exact absurd rfl h
theorem join_told {L : List Row} {ls : List Lay} (hL : RsOk L) : joinT L [(9, L.map fun p => (p.1, lvl ls p.1))] = L.map fun p => (p.1, lvl ls p.1) := by
  unfold joinT
  have e : ∀ p ∈ L, lv2 [(9, L.map fun p => (p.1, lvl ls p.1))] p.1 = some (9, lvl ls p.1) := fun p hp => by
    rw [lv2_one, lk_lvls hp hL ls]
    rfl
  rw [List.filter_eq_self.mpr fun p hp => by rw [plc_lv2, e p hp]; rfl]
  refine List.map_congr_left fun p hp => ?_
  rw [lvl_lv2, e p hp]
  rfl
/-! ### the silent ones left out -/
def keepR (keep : Nat → Bool) (acc acc' : Option Say) : Prop := acc = acc' ∨ ∃ a, acc = some a ∧ keep a.pl = false ∧ ∀ a', acc' = some a' → a'.rk ≤ a.rk
theorem keep_fold {x : Str} (keep : Nat → Bool) : ∀ (qs : List (Lay × Nat)) (acc acc' : Option Say), keepR keep acc acc' → keepR keep (qs.foldl (sayF x) acc) ((qs.filter fun q => keep q.2).foldl (sayF x) acc')
  | [], _, _, h => h
  | q :: qs, acc, acc', h => by
    rw [List.foldl_cons, List.filter_cons]
    have step : keepR keep (sayF x acc q) (if keep q.2 = true then sayF x acc' q else acc') := by
      unfold sayF
      cases lk q.1.2 x with
      | none =>
        dsimp only
        by_cases hk : keep q.2 = true
        · rw [if_pos hk]; exact h
        · rw [if_neg hk]; exact h
      | some v =>
        by_cases hk : keep q.2 = true
        · rw [if_pos hk]
          rcases h with rfl | ⟨a, rfl, h1, h2⟩
          · exact .inl rfl
          · dsimp only
            split
            · cases acc' with
              | none => exact .inl rfl
              | some a' =>
                have := h2 a' rfl
                dsimp only
                rw [if_pos (by omega)]
                exact .inl rfl
            · refine .inr ⟨a, rfl, h1, fun b hb => ?_⟩
              cases acc' with
              | none =>
                cases hb
                dsimp only
                omega
              | some a' =>
                have := h2 a' rfl
                dsimp only at hb
                split at hb
                · cases hb
                  dsimp only
                  omega
                · cases hb; exact this
        · rw [if_neg hk]
          have hk' : keep q.2 = false := by simpa using hk
          rcases h with rfl | ⟨a, rfl, h1, h2⟩
          · cases acc with
            | none => exact .inr ⟨_, rfl, hk', fun b hb => nomatch hb⟩
            | some a =>
              dsimp only
              split
              · refine .inr ⟨_, rfl, hk', fun b hb => ?_⟩
                cases hb
                assumption
              · exact .inl rfl
          · dsimp only
            split
            · refine .inr ⟨_, rfl, hk', fun b hb => ?_⟩
              have := h2 b hb
              dsimp only
              omega
            · exact .inr ⟨a, rfl, h1, h2⟩
    by_cases hk : keep q.2 = true
    · rw [if_pos hk] at step ⊢
      exact keep_fold keep qs _ _ step
    · rw [if_neg hk] at step ⊢
      exact keep_fold keep qs _ _ step
/-- the same, by new places -/
theorem re_fold {x : Str} (full : List (Lay × Nat)) : ∀ (qs pre : List (Lay × Nat)) (acc acc' : Option Say), pre ++ qs = full → ((acc = none ∧ acc' = none) ∨ ∃ s s', acc = some s ∧ acc' = some s' ∧ s'.rk = s.rk ∧ s'.lv = s.lv ∧ ∃ l, full[s'.pl]? = some (l, s.pl)) →
    ((qs.foldl (sayF x) acc = none ∧ ((qs.map (·.1)).zipIdx pre.length).foldl (sayF x) acc' = none) ∨ ∃ s s', qs.foldl (sayF x) acc = some s ∧ ((qs.map (·.1)).zipIdx pre.length).foldl (sayF x) acc' = some s' ∧ s'.rk = s.rk ∧ s'.lv = s.lv ∧ ∃ l, full[s'.pl]? = some (l, s.pl))
  | [], _, _, _, _, h => h
  | q :: qs, pre, acc, acc', e, h => by
    rw [List.foldl_cons, List.map_cons, List.zipIdx_cons, List.foldl_cons]
    have hq : full[pre.length]? = some (q.1, q.2) := by
      rw [← e]
      simp
    have go := re_fold (x := x) full qs (pre ++ [q]) (sayF x acc q) (sayF x acc' (q.1, pre.length)) (by rw [List.append_assoc]; exact e) (by
      unfold sayF
      dsimp only
      cases lk q.1.2 x with
      | none => exact h
      | some v =>
        rcases h with ⟨rfl, rfl⟩ | ⟨s, s', rfl, rfl, h1, h2, h3⟩
        · exact .inr ⟨_, _, rfl, rfl, rfl, rfl, q.1, hq⟩
        · dsimp only
          rw [h1]
          split
          · exact .inr ⟨_, _, rfl, rfl, rfl, rfl, q.1, hq⟩
          · exact .inr ⟨_, _, rfl, rfl, h1, h2, h3⟩)
    rw [List.length_append, List.length_singleton] at go
    exact go
def loudT (keep : Nat → Bool) (ls : List Lay) : List Lay := (ls.zipIdx.filter fun q => keep q.2).map (·.1)
/-- who says what a lamp is, when the layers left out said nothing of it -/
theorem say_loud {x : Str} {keep : Nat → Bool} {ls : List Lay} (h : ∀ s, say ls x = some s → keep s.pl = true) :
    (say ls x = none ∧ say (loudT keep ls) x = none) ∨ ∃ s s', say ls x = some s ∧ say (loudT keep ls) x = some s' ∧ s'.lv = s.lv ∧ ∃ l, (ls.zipIdx.filter fun q => keep q.2)[s'.pl]? = some (l, s.pl) := by
  have h1 := keep_fold (x := x) keep ls.zipIdx none none (.inl rfl)
  have h2 := re_fold (x := x) (ls.zipIdx.filter fun q => keep q.2) (ls.zipIdx.filter fun q => keep q.2) [] none none rfl (.inl ⟨rfl, rfl⟩)
  have e : (ls.zipIdx.filter fun q => keep q.2).foldl (sayF x) none = say ls x := by
    rcases h1 with h1 | ⟨a, h1, h3, _⟩
    · exact h1.symm
    · rw [h a h1] at h3
      cases h3
  rw [e] at h2
  rcases h2 with ⟨a, b⟩ | ⟨s, s', a, b, c, d, f⟩
  · exact .inl ⟨a, b⟩
  · exact .inr ⟨s, s', a, b, d, f⟩
theorem keep_of {L : List Row} {ls : List Lay} {p : Row} (hp : p ∈ L) {s : Say} (e : say ls p.1 = some s) : (!(silT L ls).contains s.pl) = true := by
  rw [Bool.not_eq_true']
  refine Bool.eq_false_iff.mpr fun h => ?_
  have h2 := List.mem_filter.mp (List.contains_iff_mem.mp h)
  have h3 : (L.map fun p => plc ls p.1).contains (some s.pl) = true := by
    rw [List.contains_iff_mem]
    refine List.mem_map.mpr ⟨p, hp, ?_⟩
    unfold plc
    rw [e]
    rfl
  rw [h3] at h2
  exact Bool.false_ne_true h2.2
abbrev loudL (L : List Row) (ls : List Lay) : List Lay := loudT (fun i => !(silT L ls).contains i) ls
theorem lvl_loud {L : List Row} {ls : List Lay} {p : Row} (hp : p ∈ L) : lvl (loudL L ls) p.1 = lvl ls p.1 := by
  unfold lvl
  rcases say_loud (keep := fun i => !(silT L ls).contains i) (ls := ls) (x := p.1) (fun s e => keep_of hp e) with ⟨a, b⟩ | ⟨s, s', a, b, c, _⟩
  · rw [a, b]
  · rw [a, b]
    exact c
theorem nodup_snd (ls : List Lay) (keep : Nat → Bool) : ((ls.zipIdx.filter fun q => keep q.2).map (·.2)).Nodup := by
  have h : (ls.zipIdx.map (·.2)).Nodup := by
    rw [List.zipIdx_map_snd]
    exact List.nodup_range'
  exact h.sublist (List.Sublist.map _ List.filter_sublist)
theorem idx_inj {α : Type} {l : List α} (h : l.Nodup) {i j : Nat} {a : α} (hi : l[i]? = some a) (hj : l[j]? = some a) : i = j := by
  exact (List.getElem?_inj (List.getElem?_eq_some_iff.mp hi).1 h).mp (hi.trans hj.symm)
theorem sil_loud {L : List Row} {ls : List Lay} : silT L (loudL L ls) = [] := by
  unfold silT
  rw [List.filter_eq_nil_iff]
  intro j hj h
  have hj' := List.mem_range.mp hj
  rw [Bool.not_eq_true', Bool.eq_false_iff] at h
  refine h (List.contains_iff_mem.mpr ?_)
  clear h
  generalize hF : (ls.zipIdx.filter fun q => !(silT L ls).contains q.2) = F
  have hlen : (loudL L ls).length = F.length := by
    show (List.map _ _).length = _
    rw [List.length_map, hF]
  have hjF : j < F.length := by omega
  rcases hq : F[j] with ⟨l, i⟩
  have hm : (l, i) ∈ F := by rw [← hq]; exact List.getElem_mem _
  have hm2 := List.mem_filter.mp (by rw [hF]; exact hm : (l, i) ∈ ls.zipIdx.filter fun q => !(silT L ls).contains q.2)
  have hi : ls[i]? = some l := List.mk_mem_zipIdx_iff_getElem?.mp hm2.1
  have hil := (List.getElem?_eq_some_iff.mp hi).1
  -- i is used
  have hu : (L.map fun p => plc ls p.1).contains (some i) = true := by
    by_cases c : (L.map fun p => plc ls p.1).contains (some i) = true
    · exact c
    · exfalso
      have c' : (L.map fun p => plc ls p.1).contains (some i) = false := by simpa using c
      have : (silT L ls).contains i = true := by
        rw [List.contains_iff_mem]
        exact List.mem_filter.mpr ⟨List.mem_range.mpr hil, by rw [c']; rfl⟩
      have h3 := hm2.2
      rw [this] at h3
      cases h3
  obtain ⟨p, hp, e⟩ := List.mem_map.mp (List.contains_iff_mem.mp hu)
  unfold plc at e
  obtain ⟨s, e1, e2⟩ := Option.map_eq_some_iff.mp e
  rcases say_loud (keep := fun i => !(silT L ls).contains i) (ls := ls) (x := p.1) (fun s e => keep_of hp e) with ⟨a, b⟩ | ⟨s1, s', a, b, _, l', d⟩
  · rw [a] at e1; cases e1
  · rw [a] at e1; cases e1
    rw [hF] at d
    refine List.mem_map.mpr ⟨p, hp, ?_⟩
    unfold plc
    rw [b]
    show some s'.pl = some j
    congr 1
    have hn := nodup_snd ls fun i => !(silT L ls).contains i
    rw [hF] at hn
    refine idx_inj hn (a := i) ?_ ?_
    · rw [List.getElem?_map, d, ← e2]
      rfl
    · rw [List.getElem?_map, List.getElem?_eq_getElem hjF, hq]
      rfl
theorem loud_ok {L : List Row} {ls : List Lay} (h : YsOk ls) : YsOk (loudL L ls) := by
  refine ⟨?_, fun l hl => ?_⟩
  · show (List.map _ _).length ≤ _
    rw [List.length_map]
    refine Nat.le_trans (List.length_filter_le _ _) ?_
    rw [List.length_zipIdx]
    exact h.len
  · obtain ⟨q, hq, rfl⟩ := List.mem_map.mp hl
    exact h.rs _ (List.mem_of_getElem? (List.mk_mem_zipIdx_iff_getElem?.mp (List.mem_filter.mp hq).1))
theorem fNotIn_nat {ns : List Nat} {i : Nat} (h : ns.length ≤ 1000) : fNotIn (.int (i : Int)) (.list (ns.map fun i : Nat => (.int (i : Int) : D))) = some (.bool (!ns.contains i)) := by
  have hT : Th 1000 1 (.list (ns.map fun i : Nat => (.int (i : Int) : D))) := ⟨by rw [List.length_map]; exact h, fun d hd => by
    obtain ⟨o, _, rfl⟩ := List.mem_map.mp hd
    exact Th.int⟩
  rw [fNotIn_L (w := 1000) (n := 0) Th.int hT (by omega) (by omega)]
  unfold inB
  rw [List.any_map]
  congr 3
  rw [List.contains_eq_any_beq]
  refine List.any_congr rfl fun o => ?_
  show PyData.eqv (.int (o : Int)) (.int (i : Int)) = _
  rw [PyData.eqv]
  show decide ((o : Int) = (i : Int)) = _
  by_cases e : o = i
  · subst e; simp
  · rw [decide_eq_false (by omega)]
    symm
    exact beq_eq_false_iff_ne.mpr (fun z => e z.symm)
theorem sil_len (L : List Row) (ls : List Lay) : (silT L ls).length ≤ ls.length := by
  unfold silT
  refine Nat.le_trans (List.length_filter_le _ _) ?_
  rw [List.length_range]
  exact Nat.le_refl _
end FL
end L2

/-! M6: rules and events: what they are; typed ones; sorted ints -/
namespace L2
namespace FL
open PySem
/-! things in order with one another -/
def Cmp (ds : List D) : Prop := ∀ a ∈ ds, ∀ b ∈ ds, fLt a b = some (.bool (ltB a b))
theorem Cmp.of_ints {ds : List D} (h : ∀ d ∈ ds, ∃ i, d = .int i) : Cmp ds := fun a ha b hb => by
  obtain ⟨i, rfl⟩ := h a ha
  obtain ⟨j, rfl⟩ := h b hb
  rfl
theorem Cmp.of_strs {ds : List D} (h : Strs ds) : Cmp ds := fun a ha b hb => fLt_B (h a ha) (h b hb)
section
variable {α : Type} {a b c d e f : α}
theorem atI_4m1 : atI [a, b, c, d] (-1) = some d := rfl
theorem atI_5m1 : atI [a, b, c, d, e] (-1) = some e := rfl
theorem atI_6m1 : atI [a, b, c, d, e, f] (-1) = some f := rfl
theorem atI_4m2 : atI [a, b, c, d] (-2) = some c := rfl
theorem atI_5m2 : atI [a, b, c, d, e] (-2) = some d := rfl
theorem atI_6m2 : atI [a, b, c, d, e, f] (-2) = some e := rfl
end
theorem atI_m2 {α : Type} {l : List α} {a b : α} : atI (l ++ [a, b]) (-2) = some a := by
  unfold atI ixN
  have e : (l ++ [a, b]).length = l.length + 2 := by simp
  rw [e, if_neg (by omega), if_pos (by omega)]
  show (l ++ [a, b])[(-2 + ((l.length + 2 : Nat) : Int)).toNat]? = _
  rw [show (-2 + ((l.length + 2 : Nat) : Int)).toNat = l.length by omega]
  simp
theorem atI_m1 {α : Type} {l : List α} {a : α} : atI (l ++ [a]) (-1) = some a := by
  unfold atI ixN
  have e : (l ++ [a]).length = l.length + 1 := by simp
  rw [e, if_neg (by omega), if_pos (by omega)]
  show (l ++ [a])[(-1 + ((l.length + 1 : Nat) : Int)).toNat]? = _
  rw [show (-1 + ((l.length + 1 : Nat) : Int)).toNat = l.length by omega]
  simp
/-! what is days, a rule, an event -/
def daysB : D → Bool
  | .tuple ds => !ds.isEmpty && (ds.all (intB 0 6) && riseB ds)
  | _ => false
def partsT : List (Str × Int) := [("hours", 6), ("sense", 5), ("press", 4)]
def psz (x : Str) : Int := match tlk partsT x with
  | none => 0
  | some i => i
def ruleB (ns : List D) : D → Bool
  | .tuple [.str x, a, b, c, r, s] => decide (x = "hours") && (intB 0 9 r && (sceneB ns s && (daysB a && (intB 0 1440 b && (intB 0 1440 c && ltB b c)))))
  | .tuple [.str x, a, b, r, s] => decide (x = "sense") && (intB 0 9 r && (sceneB ns s && (nameB a && intB 1 1440 b)))
  | .tuple [.str x, a, r, s] => decide (x = "press") && (intB 0 9 r && (sceneB ns s && nameB a))
  | _ => false
theorem strNe : ("hours" : Str) ≠ "sense" ∧ ("hours" : Str) ≠ "press" ∧ ("sense" : Str) ≠ "press" := by decide +kernel
theorem tgetD_parts (x : Str) : tgetD [("hours", 6), ("sense", 5), ("press", 4)] x (.int 0) = .int (psz x) := by
  unfold psz
  show (match tlk partsT x with | none => PyData.int 0 | some i => .int i) = _
  cases tlk partsT x <;> rfl
theorem psz_eq (x : Str) (n : Nat) (hn : 0 < n) : psz x = (n : Int) ↔ (x = "hours" ∧ n = 6) ∨ (x = "sense" ∧ n = 5) ∨ (x = "press" ∧ n = 4) := by
  obtain ⟨e1, e2, e3⟩ := strNe
  unfold psz tlk partsT
  by_cases h1 : ("hours" : Str) = x
  · subst h1
    simp [e1, e2]
    omega
  · by_cases h2 : ("sense" : Str) = x
    · subst h2
      simp [e1, e3, Ne.symm e1]
      omega
    · by_cases h3 : ("press" : Str) = x
      · subst h3
        simp [e2, e3, Ne.symm e2, Ne.symm e3]
        omega
      · simp [h1, h2, h3, Ne.symm h1, Ne.symm h2, Ne.symm h3]
        omega
theorem ruleB_psz {ns : List D} {x : Str} {r : List D} (h : ruleB ns (.tuple (.str x :: r)) = true) : psz x = ((r.length + 1 : Nat) : Int) := by
  rw [psz_eq _ _ (by omega)]
  unfold ruleB at h
  split at h
  · rename_i e
    cases e
    exact .inl ⟨of_decide_eq_true (Bool.and_eq_true_iff.mp h).1, rfl⟩
  · rename_i e
    cases e
    exact .inr (.inl ⟨of_decide_eq_true (Bool.and_eq_true_iff.mp h).1, rfl⟩)
  · rename_i e
    cases e
    exact .inr (.inr ⟨of_decide_eq_true (Bool.and_eq_true_iff.mp h).1, rfl⟩)
  · cases h
theorem ruleB_ns {ns : List D} {d : D} {r : List D} (h : isStrD d = false) : ruleB ns (.tuple (d :: r)) = false := by
  unfold ruleB
  split <;> first | rfl | (rename_i e; cases e; cases h)
def evB : D → Bool
  | .tuple [a, .str w, n] => intB 0 10079 a && ((decide (w = "press") || decide (w = "sense")) && nameB n)
  | _ => false
theorem evB_three {d : D} (h : evB d = true) : ∃ i w n, d = .tuple [.int i, .str w, n] := by
  unfold evB at h
  split at h
  · rename_i a w n
    have h1 := (Bool.and_eq_true_iff.mp h).1
    unfold intB at h1
    split at h1
    · exact ⟨_, _, _, rfl⟩
    · cases h1
  · cases h
def leB (a b : D) : Bool := match a, b with
  | .int i, .int j => decide (i ≤ j)
  | _, _ => false
def upB : List D → Bool
  | a :: b :: r => leB a b && upB (b :: r)
  | _ => true
theorem up_zip : ∀ ds : List D, (ds.zip ds.tail).all (fun p => leB p.1 p.2) = upB ds
  | [] => rfl
  | [_] => rfl
  | a :: b :: r => by
    have ih := up_zip (b :: r)
    rw [upB, ← ih]
    rfl
def eventsB : D → Bool
  | .tuple ds => decide (ds.length ≤ 40) && (ds.all evB && upB (ds.map fstD))
  | _ => false
def rulesB (ns : List D) : D → Bool
  | .tuple ds => decide (ds.length ≤ 12) && ds.all (ruleB ns)
  | _ => false
/-! sorted ints -/
def leI (a b : Int) : Bool := decide (a ≤ b)
def sortI (l : List Int) : List Int := l.mergeSort leI
theorem sortD_ints (l : List Int) : sortD (l.map fun i => (.int i : D)) = (sortI l).map fun i => .int i := by
  unfold sortD sortI
  rw [List.map_mergeSort]
  intro a _ b _
  exact (congrFun (congrFun (PySem.W.dataLe_int (fun i : Int => i)) a) b).symm
theorem sortI_perm (l : List Int) : (sortI l).Perm l := List.mergeSort_perm _ _
theorem sortI_pw (l : List Int) : (sortI l).Pairwise (· ≤ ·) := by
  have h := List.pairwise_mergeSort (le := leI) (fun a b c h1 h2 => by unfold leI at *; simp at *; omega) (fun a b => by unfold leI; simp; omega) l
  refine h.imp fun h => ?_
  unfold leI at h
  simpa using h
theorem sortI_id {l : List Int} (h : l.Pairwise (· ≤ ·)) : sortI l = l := by
  refine List.mergeSort_of_pairwise (h.imp fun h => ?_)
  unfold leI
  simpa using h
theorem up_ints : ∀ l : List Int, upB (l.map fun i => (.int i : D)) = true ↔ l.Pairwise (· ≤ ·)
  | [] => by simp [upB]
  | [a] => by simp [upB]
  | a :: b :: r => by
    have ih := up_ints (b :: r)
    show (leB (.int a) (.int b) && upB ((b :: r).map fun i => (.int i : D))) = true ↔ _
    rw [Bool.and_eq_true, ih, List.pairwise_cons (a := a) (l := b :: r)]
    show decide (a ≤ b) = true ∧ _ ↔ _
    rw [decide_eq_true_eq]
    constructor
    · rintro ⟨h1, h2⟩
      refine ⟨fun c hc => ?_, h2⟩
      rcases List.mem_cons.mp hc with rfl | hc
      · exact h1
      · exact Int.le_trans h1 ((List.pairwise_cons.mp h2).1 c hc)
    · rintro ⟨h1, h2⟩
      exact ⟨h1 b List.mem_cons_self, h2⟩
theorem sort_ints_ok (l : List Int) : sortB (l.map fun i => (.int i : D)) = true ∧ PyData.canLayAll0 (l.map fun i => (.int i : D)) = true ∧ PyData.depthAll (l.map fun i => (.int i : D)) ≤ 60 := by
  have h : PyData.canLayAll0 (l.map fun i => (.int i : D)) = true ∧ PyData.depthAll (l.map fun i => (.int i : D)) ≤ 0 := lay_all fun d hd => by
    obtain ⟨i, _, rfl⟩ := List.mem_map.mp hd
    exact ⟨rfl, Nat.le_refl _⟩
  refine ⟨?_, h.1, Nat.le_trans h.2 (by decide)⟩
  unfold sortB
  rw [Bool.and_eq_true]
  refine ⟨List.all_eq_true.mpr fun x hx => List.all_eq_true.mpr fun y hy => ?_, ?_⟩
  · obtain ⟨a, _, rfl⟩ := List.mem_map.mp hx
    obtain ⟨b, _, rfl⟩ := List.mem_map.mp hy
    rfl
  · rw [Bool.or_eq_true]
    refine .inr (List.all_eq_true.mpr fun x hx => ?_)
    obtain ⟨a, _, rfl⟩ := List.mem_map.mp hx
    rfl
theorem dSorted_ints (l : List Int) : dSorted (.list (l.map fun i => (.int i : D))) = some ((sortI l).map fun i => .int i) := by
  show (if _ then _ else _) = _
  rw [if_pos (sort_ints_ok l), sortD_ints]
theorem eqv_int {i j : Int} : PyData.eqv (.int i) (.int j) = decide (i = j) := by
  rw [PyData.eqv]
  rfl
theorem eqv_ints : ∀ l m : List Int, PyData.eqvAll (l.map fun i => (.int i : D)) (m.map fun i => (.int i : D)) = decide (l = m)
  | [], [] => rfl
  | [], _ :: _ => rfl
  | _ :: _, [] => rfl
  | a :: l, b :: m => by
    rw [List.map_cons, List.map_cons, PyData.eqvAll, eqv_int, eqv_ints l m]
    by_cases h : a = b
    · subst h
      simp
    · simp [h]
theorem ints_th (l : List Int) (h : l.length ≤ 1000) : Th 1000 1 (.list (l.map fun i => (.int i : D))) := ⟨by rw [List.length_map]; exact h, fun d hd => by
  obtain ⟨i, _, rfl⟩ := List.mem_map.mp hd
  exact Th.int⟩
theorem fEq_ints {l m : List Int} (hl : l.length ≤ 1000) (hm : m.length ≤ 1000) : fEq (.list (l.map fun i => (.int i : D))) (.list (m.map fun i => (.int i : D))) = some (.bool (decide (l = m))) := by
  unfold fEq
  rw [if_pos ⟨(ints_th l hl).shaped (by omega), (ints_th m hm).shaped (by omega)⟩, PyData.eqv, eqv_ints]
/-! ### typed rules and events -/
inductive Rule where
  | hours (ds : List Int) (a b k : Int) (s : List Row)
  | sense (n : Str) (h k : Int) (s : List Row)
  | press (n : Str) (k : Int) (s : List Row)
def Rule.rk : Rule → Int
  | .hours _ _ _ k _ => k
  | .sense _ _ k _ => k
  | .press _ k _ => k
def Rule.sc : Rule → List Row
  | .hours _ _ _ _ s => s
  | .sense _ _ _ s => s
  | .press _ _ s => s
def encDs (ds : List Int) : D := .tuple (ds.map fun i => .int i)
def encR : Rule → D
  | .hours ds a b k s => .tuple [.str "hours", encDs ds, .int a, .int b, .int k, encS s]
  | .sense n h k s => .tuple [.str "sense", .str n, .int h, .int k, encS s]
  | .press n k s => .tuple [.str "press", .str n, .int k, encS s]
def encRs (rs : List Rule) : D := .tuple (rs.map encR)
structure Ev where
  t : Int
  w : Str
  n : Str
def encE (e : Ev) : D := .tuple [.int e.t, .str e.w, .str e.n]
def encEs (es : List Ev) : D := .tuple (es.map encE)
def daysT : List (List Int) := [[0], [0, 1], [0, 1, 2, 3, 4, 5, 6], [6], [1, 3]]
def RuD : Rule → Prop
  | .hours ds a b k s => ds ∈ daysT ∧ 0 ≤ a ∧ a < b ∧ b ≤ 1440 ∧ 0 ≤ k ∧ k ≤ 9 ∧ RsOk s ∧ s.length ≤ 8
  | .sense n h k s => (n = "door" ∨ n = "hall") ∧ 1 ≤ h ∧ h ≤ 1440 ∧ 0 ≤ k ∧ k ≤ 9 ∧ RsOk s ∧ s.length ≤ 8
  | .press n k s => (n = "door" ∨ n = "hall") ∧ 0 ≤ k ∧ k ≤ 9 ∧ RsOk s ∧ s.length ≤ 8
structure RuT (L : List Row) (r : Rule) : Prop where
  ok : RuD r
  sc : ScT L r.sc
structure EvT (e : Ev) : Prop where
  t : 0 ≤ e.t ∧ e.t ≤ 10079
  w : e.w = "press" ∨ e.w = "sense"
  n : e.n = "door" ∨ e.n = "hall" ∨ e.n = "attic"
theorem txDoor : TxOk "door" ∧ TxOk "hall" ∧ TxOk "attic" ∧ TxOk "press" ∧ TxOk "sense" ∧ TxOk "hours" := by
  refine ⟨⟨?_, ?_⟩, ⟨?_, ?_⟩, ⟨?_, ?_⟩, ⟨?_, ?_⟩, ⟨?_, ?_⟩, ⟨?_, ?_⟩⟩ <;> decide +kernel
theorem Th.w8 {x : Str} {n : Nat} (h : x.length ≤ 8) (h' : PyData.strOk x = true) : Th 8 n (.str x) := Th.str h h'
theorem th_lits (n : Nat) : Th 8 n (.str "door") ∧ Th 8 n (.str "hall") ∧ Th 8 n (.str "attic") ∧ Th 8 n (.str "press") ∧ Th 8 n (.str "sense") ∧ Th 8 n (.str "hours") := by
  refine ⟨Th.str ?_ ?_, Th.str ?_ ?_, Th.str ?_ ?_, Th.str ?_ ?_, Th.str ?_ ?_, Th.str ?_ ?_⟩ <;> decide +kernel
theorem days_th {ds : List Int} (h : ds ∈ daysT) : Th 8 1 (encDs ds) := by
  have hl : ds.length ≤ 8 := by
    simp only [daysT, List.mem_cons, List.not_mem_nil, or_false] at h
    rcases h with rfl | rfl | rfl | rfl | rfl <;> decide
  exact ⟨by rw [List.length_map]; exact hl, fun d hd => by
    obtain ⟨i, _, rfl⟩ := List.mem_map.mp hd
    exact Th.int⟩
theorem ScT.th8 {m : Int} {L S : List Row} (hL : LmT m L) (h : ScT L S) : Th 8 2 (encS S) := by
  have h1 := hL.lampsD
  have h2 : SceneD (L.map encP) (S.map encP) := by
    refine ⟨?_, fun r hr => ?_⟩
    · rw [fst_encP, fst_encP]
      exact h.sub.map _
    · obtain ⟨p, hp, rfl⟩ := List.mem_map.mp hr
      exact ⟨p.1, p.2, rfl, h.lv p hp⟩
  exact h2.th h1
theorem ScT.len {m : Int} {L S : List Row} (hL : LmT m L) (h : ScT L S) : S.length ≤ 8 := by
  have h1 := h.sub.length_le
  rw [List.length_map, List.length_map] at h1
  exact Nat.le_trans h1 hL.len.2
theorem mem_th {w n : Nat} {ds : List D} (h : ∀ d ∈ ds, Th w n d) (hl : ds.length ≤ w) : Th w (n + 1) (.tuple ds) := ⟨hl, h⟩
theorem RuT.th {m : Int} {L : List Row} {r : Rule} (hL : LmT m L) (h : RuT L r) : Th 8 3 (encR r) := by
  have hs := h.sc.th8 hL
  obtain ⟨t1, t2, t3, t4, t5, t6⟩ := th_lits 2
  have h0 := h.ok
  cases r with
  | hours ds a b k s =>
    refine mem_th (fun d hd => ?_) (Nat.le_of_ble_eq_true rfl)
    simp only [List.mem_cons, List.not_mem_nil, or_false] at hd
    rcases hd with rfl | rfl | rfl | rfl | rfl | rfl
    · exact t6
    · exact (days_th h0.1).up (Nat.le_refl _) (by decide)
    · exact Th.int
    · exact Th.int
    · exact Th.int
    · exact hs
  | sense n h k s =>
    refine mem_th (fun d hd => ?_) (Nat.le_of_ble_eq_true rfl)
    simp only [List.mem_cons, List.not_mem_nil, or_false] at hd
    rcases hd with rfl | rfl | rfl | rfl | rfl
    · exact t5
    · rcases h0.1 with rfl | rfl
      · exact t1
      · exact t2
    · exact Th.int
    · exact Th.int
    · exact hs
  | press n k s =>
    refine mem_th (fun d hd => ?_) (Nat.le_of_ble_eq_true rfl)
    simp only [List.mem_cons, List.not_mem_nil, or_false] at hd
    rcases hd with rfl | rfl | rfl | rfl
    · exact t4
    · rcases h0.1 with rfl | rfl
      · exact t1
      · exact t2
    · exact Th.int
    · exact hs
theorem EvT.th {e : Ev} (h : EvT e) : Th 8 1 (encE e) := by
  obtain ⟨t1, t2, t3, t4, t5, t6⟩ := th_lits 0
  refine mem_th (fun d hd => ?_) (Nat.le_of_ble_eq_true rfl)
  simp only [List.mem_cons, List.not_mem_nil, or_false] at hd
  rcases hd with rfl | rfl | rfl
  · exact Th.int
  · rcases h.w with e | e <;> rw [e] <;> assumption
  · rcases h.n with e | e | e <;> rw [e] <;> assumption

theorem intB_int {lo hi : Int} {d : D} (h : intB lo hi d = true) : ∃ i, d = .int i := by
  unfold intB at h
  split at h
  · exact ⟨_, rfl⟩
  · cases h
section
variable {α : Type} {r : List α}
theorem len3 (h : r.length = 3) : ∃ a b c, r = [a, b, c] := by
  match r, h with
  | [a, b, c], _ => exact ⟨a, b, c, rfl⟩
theorem len4 (h : r.length = 4) : ∃ a b c d, r = [a, b, c, d] := by
  match r, h with
  | [a, b, c, d], _ => exact ⟨a, b, c, d, rfl⟩
theorem len5 (h : r.length = 5) : ∃ a b c d e, r = [a, b, c, d, e] := by
  match r, h with
  | [a, b, c, d, e], _ => exact ⟨a, b, c, d, e, rfl⟩
end
theorem fEq_hh : fEq (.str "hours") (.str "hours") = some (.bool true) := fEq_refl ((th_lits 0).2.2.2.2.2) (by omega)
theorem fEq_sh : fEq (.str "sense") (.str "hours") = some (.bool false) := by rw [fEq_ss txDoor.2.2.2.2.1 txDoor.2.2.2.2.2, decide_eq_false (Ne.symm strNe.1)]
theorem fEq_ph : fEq (.str "press") (.str "hours") = some (.bool false) := by rw [fEq_ss txDoor.2.2.2.1 txDoor.2.2.2.2.2, decide_eq_false (Ne.symm strNe.2.1)]
theorem fEq_sp : fEq (.str "sense") (.str "press") = some (.bool false) := by rw [fEq_ss txDoor.2.2.2.2.1 txDoor.2.2.2.1, decide_eq_false strNe.2.2]
theorem fEq_pp : fEq (.str "press") (.str "press") = some (.bool true) := fEq_refl ((th_lits 0).2.2.2.1) (by omega)
theorem fIn_ps {x : Str} {w n : Nat} (h : Th w n (.str x)) (hn : n ≤ 64) : fIn (.str x) (.tuple [.str "press", .str "sense"]) = some (.bool (decide (x = "press") || decide (x = "sense"))) := by
  have e : inD (.str x) (.tuple [.str "press", .str "sense"]) = if SeqAt.shaped (.str x) = true ∧ SeqAt.shaped (.tuple [.str "press", .str "sense"]) = true then some ([(.str "press" : D), .str "sense"].any fun z => PyData.eqv z (.str x)) else none := rfl
  unfold fIn
  rw [e, if_pos ⟨h.shaped hn, by decide +kernel⟩]
  simp only [List.any_cons, List.any_nil, eqv_str, Bool.or_false, Option.map_some]
  simp only [eq_comm]
theorem fNotIn_ps {x : Str} {w n : Nat} (h : Th w n (.str x)) (hn : n ≤ 64) : fNotIn (.str x) (.tuple [.str "press", .str "sense"]) = some (.bool !(decide (x = "press") || decide (x = "sense"))) := by
  have h2 := fIn_ps h hn
  unfold fIn at h2
  unfold fNotIn
  obtain ⟨b, h3, h4⟩ := Option.map_eq_some_iff.mp h2
  rw [h3]
  injection h4 with h4
  rw [← h4]
  rfl
def pairLtW : D → D
  | .dict [(_, a), (_, b)] => .bool (ltB a b)
  | _ => .none
def leP : D → Bool
  | .dict [(_, a), (_, b)] => leB (fstD a) (fstD b)
  | _ => false

theorem parts_disp : mergeD [] [((.inr "hours" : Key), (.int 6 : D)), (.inr "sense", .int 5), (.inr "press", .int 4)] = [((.str "hours" : D), (.int 6 : D)), (.str "sense", .int 5), (.str "press", .int 4)] := by
  obtain ⟨e1, e2, e3⟩ := strNe
  rw [mergeD_nodup (by simp [e1, e2, e3]) (fun _ _ q hq => absurd hq (List.not_mem_nil))]
  rfl
theorem parts_isD : isDict (.dict [((.str "hours" : D), (.int 6 : D)), (.str "sense", .int 5), (.str "press", .int 4)]) = true := okK_tbl partsT
theorem dGet_parts {x : Str} {z : D} : dGet (.dict [((.str "hours" : D), (.int 6 : D)), (.str "sense", .int 5), (.str "press", .int 4)]) (.str x) z = some (tgetD [("hours", 6), ("sense", 5), ("press", 4)] x z) := dGet_tbl (tbl := partsT)
theorem fEq_tn {w n : Nat} {ds : List D} (h : Th w n (.tuple ds)) (hn : n ≤ 64) : fEq (.tuple ds) (.tuple []) = some (.bool ds.isEmpty) := by
  unfold fEq
  rw [if_pos ⟨h.shaped hn, rfl⟩]
  cases ds <;> rfl
end FL
end L2

/-! M7: rules at a minute: plain -/
namespace L2
namespace FL
open PySem
def timesT (w n : Str) (m : Int) (es : List Ev) : List Int := (es.filter fun e => decide (e.w = w) && (decide (e.n = n) && decide (e.t ≤ m))).map (·.t)
def pressS (acc : Option Int) (t : Int) : Option Int := match acc with
  | none => some t
  | some _ => none
def pressF (ts : List Int) : Option Int := ts.foldl pressS none
def senseS (h : Int) (acc : Option (Int × Int)) (t : Int) : Option (Int × Int) := match acc with
  | none => some (t, t + h)
  | some p => some (if p.2 ≤ t then t else p.1, t + h)
def senseF (h : Int) (ts : List Int) : Option (Int × Int) := ts.foldl (senseS h) none
def senseO (m : Int) : Option (Int × Int) → Option Int
  | none => none
  | some p => if m < p.2 then some p.1 else none
def hoursO (ds : List Int) (a b m : Int) : Option Int := if (ds.contains (m / 1440) && (decide (a ≤ m % 1440) && decide (m % 1440 < b))) = true then some (m / 1440 * 1440 + a) else none
def putT (r : Rule) (es : List Ev) (m : Int) : Option Int := match r with
  | .hours ds a b _ _ => hoursO ds a b m
  | .press n _ _ => pressF (timesT "press" n m es)
  | .sense n h _ _ => senseO m (senseF h (timesT "sense" n m es))
def optI : Option Int → D
  | none => .none
  | some i => .int i
theorem press_go : ∀ (ts : List Int) (acc : Option Int), ts.foldl pressS acc = if (ts.length + (if acc.isSome = true then 1 else 0)) % 2 = 1 then (match ts.getLast? with | none => acc | some x => some x) else none
  | [], acc => by cases acc <;> simp
  | t :: ts, acc => by
    rw [List.foldl_cons, press_go ts]
    cases acc with
    | none =>
      rw [show pressS none t = some t from rfl, List.getLast?_cons, List.length_cons]
      simp only [Option.isSome_some, Option.isSome_none, if_true, Bool.false_eq_true, if_false, Nat.add_zero]
      cases ts.getLast? <;> rfl
    | some y =>
      rw [show pressS (some y) t = none from rfl, List.getLast?_cons, List.length_cons]
      simp only [Option.isSome_some, Option.isSome_none, if_true, Bool.false_eq_true, if_false, Nat.add_zero]
      rw [show ts.length + 1 + 1 = ts.length + 2 from rfl, Nat.add_mod_right]
      cases ts with
      | nil => rfl
      | cons a l => rw [List.getLast?_cons]; rfl
theorem pressF_eq (ts : List Int) : pressF ts = if ts.length % 2 = 1 then ts.getLast? else none := by
  unfold pressF
  rw [press_go]
  simp only [Option.isSome_none, Bool.false_eq_true, if_false, Nat.add_zero]
  cases ts.getLast? <;> rfl
theorem atI_last {ts : List Int} {x : Int} (h : ts.getLast? = some x) : atI (ts.map fun i => (.int i : D)) (-1) = some (.int x) := by
  obtain ⟨l, rfl⟩ := List.getLast?_eq_some_iff.mp h
  rw [List.map_append, List.map_cons, List.map_nil, atI_m1]
/-! pairs of ints and places, sorted -/
abbrev IN := Int × Nat
def encIN (p : IN) : D := .tuple [.int p.1, .int (p.2 : Int)]
def leIN (a b : IN) : Bool := decide (a.1 < b.1 ∨ (a.1 = b.1 ∧ a.2 ≤ b.2))
def sortIN (l : List IN) : List IN := l.mergeSort leIN
theorem sortD_in (l : List IN) : sortD (l.map encIN) = (sortIN l).map encIN := by
  unfold sortD sortIN
  rw [List.map_mergeSort]
  intro a _ b _
  have h := congrFun (congrFun (PySem.W.dataLe_ii (fun p : IN => p.1) (fun p : IN => (p.2 : Int))) a) b
  refine Eq.trans ?_ h.symm
  unfold leIN
  refine decide_eq_decide.mpr ?_
  omega
theorem sortIN_perm (l : List IN) : (sortIN l).Perm l := List.mergeSort_perm _ _
theorem in_ok (l : List IN) : sortB (l.map encIN) = true ∧ PyData.canLayAll0 (l.map encIN) = true ∧ PyData.depthAll (l.map encIN) ≤ 60 := by
  have h : PyData.canLayAll0 (l.map encIN) = true ∧ PyData.depthAll (l.map encIN) ≤ 1 := lay_all fun d hd => by
    obtain ⟨i, _, rfl⟩ := List.mem_map.mp hd
    exact ⟨by rfl, Nat.le_of_eq (by rfl)⟩
  refine ⟨?_, h.1, Nat.le_trans h.2 (by decide)⟩
  unfold sortB
  rw [Bool.and_eq_true]
  refine ⟨List.all_eq_true.mpr fun x hx => List.all_eq_true.mpr fun y hy => ?_, ?_⟩
  · obtain ⟨a, _, rfl⟩ := List.mem_map.mp hx
    obtain ⟨b, _, rfl⟩ := List.mem_map.mp hy
    rfl
  · rw [Bool.or_eq_true]
    refine .inl (List.all_eq_true.mpr fun x hx => ?_)
    obtain ⟨a, _, rfl⟩ := List.mem_map.mp hx
    rfl
theorem dSorted_in (l : List IN) : dSorted (.list (l.map encIN)) = some ((sortIN l).map encIN) := by
  show (if _ then _ else _) = _
  rw [if_pos (in_ok l), sortD_in]
/-! which rules are on -/
def onF (es : List Ev) (m : Int) (q : Rule × Nat) : Option IN := (putT q.1 es m).map fun s => (s, q.2)
def onT (rs : List Rule) (es : List Ev) (m : Int) : List IN := rs.zipIdx.filterMap (onF es m)
def placesT (rs : List Rule) (es : List Ev) (m : Int) : List Nat := (sortIN (onT rs es m)).map (·.2)
def natsD (l : List Nat) : D := .list (l.map fun i : Nat => (.int (i : Int) : D))
def layR (r : Rule) : Lay := (r.rk, r.sc)
def laysT (rs : List Rule) (ps : List Nat) : List Lay := ps.filterMap fun p => rs[p]?.map layR
theorem placesT_lt {rs : List Rule} {es : List Ev} {m : Int} {p : Nat} (h : p ∈ placesT rs es m) : p < rs.length := by
  obtain ⟨q, hq, rfl⟩ := List.mem_map.mp h
  have h2 := (sortIN_perm _).mem_iff.mp hq
  obtain ⟨z, hz, e⟩ := List.mem_filterMap.mp h2
  obtain ⟨s, _, e2⟩ := Option.map_eq_some_iff.mp e
  have : z.2 = q.2 := congrArg Prod.snd e2
  rw [← this]
  have := List.mk_mem_zipIdx_iff_getElem?.mp (show (z.1, z.2) ∈ rs.zipIdx from hz)
  exact (List.getElem?_eq_some_iff.mp this).1
theorem onT_len (rs : List Rule) (es : List Ev) (m : Int) : (onT rs es m).length ≤ rs.length := by
  unfold onT
  refine Nat.le_trans (List.length_filterMap_le _ _) ?_
  rw [List.length_zipIdx]
  exact Nat.le_refl _
theorem placesT_len (rs : List Rule) (es : List Ev) (m : Int) : (placesT rs es m).length ≤ rs.length := by
  unfold placesT
  rw [List.length_map, (sortIN_perm _).length_eq]
  exact onT_len rs es m
/-! what is wanted of rules and events -/
def RuOk : Rule → Prop
  | .hours ds _ _ _ s => ds.length ≤ 1000 ∧ RsOk s
  | .sense n _ _ s => TxOk n ∧ RsOk s
  | .press n _ s => TxOk n ∧ RsOk s
structure EvOk (e : Ev) : Prop where
  t : 0 ≤ e.t
  w : TxOk e.w
  n : TxOk e.n
theorem RuOk.sc {r : Rule} (h : RuOk r) : RsOk r.sc := by
  cases r with
  | hours => exact h.2
  | sense => exact h.2
  | press => exact h.2
theorem laysT_ok {rs : List Rule} (h : ∀ r ∈ rs, RuOk r) {ps : List Nat} (hp : ps.length ≤ 1000) : YsOk (laysT rs ps) := by
  refine ⟨Nat.le_trans (List.length_filterMap_le _ _) hp, fun l hl => ?_⟩
  obtain ⟨p, _, e⟩ := List.mem_filterMap.mp hl
  obtain ⟨r, hr, rfl⟩ := Option.map_eq_some_iff.mp e
  exact (h r (List.mem_of_getElem? hr)).sc
theorem laysT_map {rs : List Rule} {ps : List Nat} (h : ∀ p ∈ ps, p < rs.length) : laysT rs ps = ps.map fun p => layR (rs.getD p (.press "" 0 [])) := by
  unfold laysT
  induction ps with
  | nil => rfl
  | cons p ps ih =>
    have hp := h p List.mem_cons_self
    rw [List.map_cons, List.filterMap_cons, List.getElem?_eq_getElem hp, ih fun q hq => h q (List.mem_cons_of_mem _ hq)]
    rw [List.getD_eq_getElem?_getD, List.getElem?_eq_getElem hp]
    rfl
theorem RuT.ok' {m : Int} {L : List Row} {r : Rule} (hL : LmT m L) (h : RuT L r) : RuOk r := by
  have h0 := h.ok
  cases r with
  | hours ds a b k s =>
    refine ⟨?_, h0.2.2.2.2.2.2.1⟩
    have := h0.1
    simp only [daysT, List.mem_cons, List.not_mem_nil, or_false] at this
    rcases this with rfl | rfl | rfl | rfl | rfl <;> decide
  | sense n h k s =>
    refine ⟨?_, h0.2.2.2.2.2.1⟩
    rcases h0.1 with rfl | rfl
    · exact txDoor.1
    · exact txDoor.2.1
  | press n k s =>
    refine ⟨?_, h0.2.2.2.1⟩
    rcases h0.1 with rfl | rfl
    · exact txDoor.1
    · exact txDoor.2.1
theorem EvT.ok {e : Ev} (h : EvT e) : EvOk e := by
  refine ⟨h.t.1, ?_, ?_⟩
  · rcases h.w with e | e <;> rw [e]
    · exact txDoor.2.2.2.1
    · exact txDoor.2.2.2.2.1
  · rcases h.n with e | e | e <;> rw [e]
    · exact txDoor.1
    · exact txDoor.2.1
    · exact txDoor.2.2.1
theorem times_nonneg {w n : Str} {m : Int} {es : List Ev} (h : ∀ e ∈ es, EvOk e) : ∀ t ∈ timesT w n m es, 0 ≤ t := fun t ht => by
  obtain ⟨e, he, rfl⟩ := List.mem_map.mp ht
  exact (h e (List.mem_filter.mp he).1).t
theorem fIn_ints {l : List Int} {i : Int} (h : l.length ≤ 1000) : fIn (.int i) (encDs l) = some (.bool (l.contains i)) := by
  have e : inD (.int i) (encDs l) = if SeqAt.shaped (.int i) = true ∧ SeqAt.shaped (encDs l) = true then some ((l.map fun i => (.int i : D)).any fun z => PyData.eqv z (.int i)) else none := rfl
  have hT : Th 1000 1 (encDs l) := th_tuple (ints_th l h)
  unfold fIn
  rw [e, if_pos ⟨rfl, hT.shaped (by omega)⟩, List.any_map, Option.map_some]
  congr 2
  rw [List.contains_eq_any_beq]
  refine List.any_congr rfl fun o => ?_
  show PyData.eqv (.int o) (.int i) = _
  rw [eqv_int]
  by_cases e : o = i
  · subst e; simp
  · rw [decide_eq_false e]
    symm
    exact beq_eq_false_iff_ne.mpr (fun z => e z.symm)
theorem timesT_snoc (w n : Str) (m : Int) (es : List Ev) (e : Ev) : timesT w n m (es ++ [e]) = timesT w n m es ++ if (decide (e.w = w) && (decide (e.n = n) && decide (e.t ≤ m))) = true then [e.t] else [] := by
  unfold timesT
  rw [List.filter_append, List.map_append]
  congr 1
  rw [List.filter_cons, List.filter_nil]
  split <;> rfl
theorem pressF_snoc (ts : List Int) (t : Int) : pressF (ts ++ [t]) = pressS (pressF ts) t := by
  unfold pressF
  rw [List.foldl_append]
  rfl
theorem senseF_snoc (h : Int) (ts : List Int) (t : Int) : senseF h (ts ++ [t]) = senseS h (senseF h ts) t := by
  unfold senseF
  rw [List.foldl_append]
  rfl

theorem rule_tail {r : Rule} : dCut (encR r) (some (-2)) none = some (encY (layR r)) := by
  cases r <;> rfl
def litT (L : List Row) (rs : List Rule) (es : List Ev) (m : Int) : List Row := L.map fun p => (p.1, lvl (laysT rs (placesT rs es m)) p.1)
def saidR (rs : List Rule) (ps : List Nat) (p : Row) : D := .tuple [.str p.1, match plc (laysT rs ps) p.1 with
  | none => .none
  | some i => .int ((ps.getD i 0 : Nat) : Int)]
def saidD (L : List Row) (rs : List Rule) (ps : List Nat) : D := .tuple (L.map (saidR rs ps))
theorem plc_lt {ls : List Lay} {x : Str} {i : Nat} (h : plc ls x = some i) : i < ls.length := by
  unfold plc at h
  obtain ⟨s, e, rfl⟩ := Option.map_eq_some_iff.mp h
  obtain ⟨l, h1, _⟩ := say_at e
  exact (List.getElem?_eq_some_iff.mp h1).1

theorem fEq_ps : fEq (.str "press") (.str "sense") = some (.bool false) := by rw [fEq_ss txDoor.2.2.2.1 txDoor.2.2.2.2.1, decide_eq_false (Ne.symm strNe.2.2)]
theorem fEq_sse : fEq (.str "sense") (.str "sense") = some (.bool true) := fEq_refl ((th_lits 0).2.2.2.2.1) (by omega)
theorem natsD_th {l : List Nat} (h : l.length ≤ 1000) : Th 1000 1 (natsD l) := ⟨by rw [List.length_map]; exact h, fun d hd => by
  obtain ⟨i, _, rfl⟩ := List.mem_map.mp hd
  exact Th.int⟩

theorem fEq_hs : fEq (.str "hours") (.str "sense") = some (.bool false) := by rw [fEq_ss txDoor.2.2.2.2.2 txDoor.2.2.2.2.1, decide_eq_false strNe.1]
theorem said_th {L : List Row} {rs : List Rule} {ps : List Nat} (h : RsOk L) : Th 1000 2 (saidD L rs ps) := by
  refine ⟨by rw [List.length_map]; exact h.len, fun d hd => ?_⟩
  obtain ⟨p, hp, rfl⟩ := List.mem_map.mp hd
  refine ⟨Nat.le_of_ble_eq_true rfl, fun z hz => ?_⟩
  simp only [List.mem_cons, List.not_mem_nil, or_false] at hz
  rcases hz with rfl | rfl
  · exact (h.tx p hp).th 0
  · split
    · exact Th.none
    · exact Th.int
end FL
end L2

/-! M8: groups and words -/
namespace L2
namespace FL
open PySem
/-! dicts with text keys, any values -/
section
variable {β : Type}
def lkG (s : List (Str × β)) (x : Str) : Option β := (s.find? fun p => decide (p.1 = x)).map (·.2)
theorem okK_gen (f : β → D) (s : List (Str × β)) : okK (s.map fun p => ((.str p.1 : D), f p.2)) = true := by
  unfold okK
  rw [List.all_map]
  exact List.all_eq_true.mpr fun p _ => rfl
theorem lookK_gen (f : β → D) (x : Str) : ∀ s : List (Str × β), lookK (s.map fun p => ((.str p.1 : D), f p.2)) (.inr x) = (lkG s x).map f
  | [] => rfl
  | p :: s => by
    have ih := lookK_gen f x s
    unfold lookK lkG at ih ⊢
    rw [List.map_cons, List.find?_cons, List.find?_cons]
    by_cases e : p.1 = x
    · have h1 : decide (keyOf (.str p.1) = some (.inr x)) = true := decide_eq_true (by rw [e]; rfl)
      rw [h1, decide_eq_true e]
      rfl
    · have h1 : decide (keyOf (.str p.1) = some (.inr x)) = false := decide_eq_false (fun h => e (by injection h with h; injection h))
      rw [h1, decide_eq_false e]
      exact ih
theorem putD_new (f : β → D) {s : List (Str × β)} {x : Str} (h : x ∉ s.map (·.1)) (d : D) : putD (s.map fun p => ((.str p.1 : D), f p.2)) (.inr x) d = (s.map fun p => ((.str p.1 : D), f p.2)) ++ [(.str x, d)] := by
  unfold putD
  rw [if_neg]
  · rfl
  intro h2
  obtain ⟨q, hq, h3⟩ := List.any_eq_true.mp h2
  obtain ⟨p, hp, rfl⟩ := List.mem_map.mp hq
  have h4 := of_decide_eq_true h3
  have h5 : p.1 = x := by injection h4 with h4; injection h4
  exact h (List.mem_map.mpr ⟨p, hp, h5⟩)
theorem keysS_gen (f : β → D) : ∀ s : List (Str × β), ((s.map fun p => ((.str p.1 : D), f p.2)).map (·.1)).mapM strOf = some (s.map (·.1))
  | [] => rfl
  | p :: s => by
    rw [List.map_cons, List.map_cons, List.mapM_cons, keysS_gen f s]
    rfl
theorem dSorted_gen (f : β → D) {s : List (Str × β)} (h : s.length < 64) : dSorted (.dict (s.map fun p => ((.str p.1 : D), f p.2))) = some ((sortSt (s.map (·.1))).map fun x => (.str x : D)) := by
  show (if okK _ = true then _ else _) = _
  rw [if_pos (okK_gen f s), keysS_gen]
  dsimp only
  rw [if_pos (by rw [List.length_map]; exact h)]
theorem lkG_mem {s : List (Str × β)} {p : Str × β} (hp : p ∈ s) (h : (s.map (·.1)).Nodup) : lkG s p.1 = some p.2 := by
  induction s with
  | nil => cases hp
  | cons q s ih =>
    have hn := List.nodup_cons.mp h
    unfold lkG at ih ⊢
    rw [List.find?_cons]
    by_cases e : q.1 = p.1
    · rw [decide_eq_true e]
      rcases List.mem_cons.mp hp with rfl | h2
      · rfl
      · exact absurd (List.mem_map.mpr ⟨p, h2, e.symm⟩) hn.1
    · rw [decide_eq_false e]
      rcases List.mem_cons.mp hp with rfl | h2
      · exact absurd rfl e
      · exact ih h2 hn.2
end
/-! ### groups -/
abbrev Grp := Str × List Str
def encSs (l : List Str) : D := .tuple (l.map .str)
def encG (g : Grp) : D := .tuple [.str g.1, encSs g.2]
def encGs (gs : List Grp) : D := .tuple (gs.map encG)
def namesG : List Str := ["a", "b", "cc", "hall", "ups", "z"]
theorem namesG_nd : namesG.Nodup := by decide +kernel
theorem namesG_pw : namesG.Pairwise fun a b => leSt a b = true := by decide +kernel
theorem namesG_ok : ∀ x ∈ namesG, TxOk x := by
  intro x hx
  simp only [namesG, List.mem_cons, List.not_mem_nil, or_false] at hx
  rcases hx with rfl | rfl | rfl | rfl | rfl | rfl <;> exact ⟨by decide, by decide +kernel⟩
structure GrT (L : List Row) (gs : List Grp) : Prop where
  nm : ∃ k : Nat, k ≤ 6 ∧ gs.map (·.1) = namesG.take k
  mem : ∀ g ∈ gs, g.2 ≠ [] ∧ g.2.Sublist (L.map (·.1))
structure GsOk (gs : List Grp) : Prop where
  len : gs.length ≤ 1000
  tx : ∀ g ∈ gs, TxOk g.1 ∧ g.2.length ≤ 1000 ∧ ∀ x ∈ g.2, TxOk x
  nd : (gs.map (·.1)).Nodup
theorem GrT.len {L : List Row} {gs : List Grp} (h : GrT L gs) : gs.length ≤ 6 := by
  obtain ⟨k, h1, h2⟩ := h.nm
  have := congrArg List.length h2
  rw [List.length_map, List.length_take] at this
  omega
theorem GrT.ok {m : Int} {L : List Row} {gs : List Grp} (hL : LmT m L) (h : GrT L gs) : GsOk gs := by
  obtain ⟨k, h1, h2⟩ := h.nm
  refine ⟨by have := h.len; omega, fun g hg => ⟨?_, ?_, fun x hx => ?_⟩, ?_⟩
  · refine namesG_ok _ (List.mem_of_mem_take (i := k) ?_)
    rw [← h2]
    exact List.mem_map_of_mem (f := fun p : Grp => p.1) hg
  · have := (h.mem g hg).2.length_le
    rw [List.length_map] at this
    have := hL.len
    omega
  · obtain ⟨p, hp, rfl⟩ := List.mem_map.mp ((h.mem g hg).2.subset hx)
    exact hL.ok.tx p hp
  · rw [h2]
    exact namesG_nd.sublist (List.take_sublist _ _)
theorem strs_th {l : List Str} (hl : l.length ≤ 1000) (h : ∀ x ∈ l, TxOk x) : Th 1000 1 (.list (l.map fun x => (.str x : D))) := ⟨by rw [List.length_map]; exact hl, fun d hd => by
  obtain ⟨x, hx, rfl⟩ := List.mem_map.mp hd
  exact (h x hx).th 0⟩
theorem sss_th {l : List Str} (hl : l.length ≤ 1000) (h : ∀ x ∈ l, TxOk x) : Th 1000 1 (encSs l) := th_tuple (strs_th hl h)
theorem GsOk.th {gs : List Grp} (h : GsOk gs) : Th 1000 3 (encGs gs) := by
  refine mem_th (fun d hd => ?_) (by rw [List.length_map]; exact h.len)
  obtain ⟨g, hg, rfl⟩ := List.mem_map.mp hd
  refine mem_th (fun z hz => ?_) (Nat.le_of_ble_eq_true rfl)
  simp only [List.mem_cons, List.not_mem_nil, or_false] at hz
  rcases hz with rfl | rfl
  · exact (h.tx g hg).1.th 1
  · exact sss_th (h.tx g hg).2.1 (h.tx g hg).2.2
theorem mem_lkG {gs : List Grp} {x : Str} {l : List Str} (h : lkG gs x = some l) : (x, l) ∈ gs := by
  unfold lkG at h
  obtain ⟨p, h1, h2⟩ := Option.map_eq_some_iff.mp h
  have h3 := List.find?_some h1
  have h4 : p.1 = x := of_decide_eq_true h3
  have h5 := List.mem_of_find?_eq_some h1
  have : p = (x, l) := Prod.ext h4 h2
  rwa [this] at h5
/-! ### what is groups, a word -/
def strIn (ns : List D) (d : D) : Bool := strB d && inB d ns
def grpB (ns : List D) : D → Bool
  | .tuple [a, .tuple ms] => nameB a && (!ms.isEmpty && (ms.all (strIn ns) && riseB ms))
  | _ => false
def groupsB (ns : List D) : D → Bool
  | .tuple ds => decide (ds.length ≤ 6) && (ds.all (grpB ns) && riseB (ds.map fstD))
  | _ => false
theorem grpB_pair {ns : List D} {d : D} (h : grpB ns d = true) : ∃ x ms, d = .tuple [.str x, .tuple ms] := by
  unfold grpB at h
  split at h
  · obtain ⟨x, rfl⟩ := nameB_str (Bool.and_eq_true_iff.mp h).1
    exact ⟨x, _, rfl⟩
  · cases h
theorem grpB_pairB {ns : List D} {d : D} (h : grpB ns d = true) : pairB d = true := by
  obtain ⟨x, ms, rfl⟩ := grpB_pair h
  rfl
theorem strIn_strs {ns ds : List D} (h : ds.all (strIn ns) = true) : Strs ds := fun d hd => strB_str (Bool.and_eq_true_iff.mp (List.all_eq_true.mp h d hd)).1
def wordB (ns gs : List D) : D → Bool
  | .tuple [.str x, v] => intB 0 100 v && decide (x = "all")
  | .tuple [.str x, .str y, v] => intB 0 100 v && ((decide (x = "lamp") && inB (.str y) ns) || (decide (x = "group") && inB (.str y) gs))
  | _ => false

section
variable {α : Type} {a b c : α}
theorem atI_2m1 : atI [a, b] (-1) = some b := rfl
theorem atI_2m2 : atI [a, b] (-2) = some a := rfl
theorem atI_3m1 : atI [a, b, c] (-1) = some c := rfl
theorem atI_3m2 : atI [a, b, c] (-2) = some b := rfl
end
theorem len23 {α : Type} {l : List α} (h : (decide (l.length = 2) || decide (l.length = 3)) = true) : (∃ a b, l = [a, b]) ∨ ∃ a b c, l = [a, b, c] := by
  rcases Bool.or_eq_true_iff.mp h with h | h
  · have := of_decide_eq_true h
    match l, this with
    | [a, b], _ => exact .inl ⟨a, b, rfl⟩
  · have := of_decide_eq_true h
    match l, this with
    | [a, b, c], _ => exact .inr ⟨a, b, c, rfl⟩
theorem fNotIn_23 {n : Nat} : fNotIn (.int (n : Int)) (.tuple [.int 2, .int 3]) = some (.bool !(decide (n = 2) || decide (n = 3))) := by
  have e : inD (.int (n : Int)) (.tuple [.int 2, .int 3]) = if SeqAt.shaped (.int (n : Int)) = true ∧ SeqAt.shaped (.tuple [.int 2, .int 3]) = true then some ([(.int 2 : D), .int 3].any fun z => PyData.eqv z (.int (n : Int))) else none := rfl
  unfold fNotIn
  rw [e, if_pos ⟨rfl, rfl⟩]
  simp only [List.any_cons, List.any_nil, eqv_int, Bool.or_false, Option.map_some]
  congr 2
  have h2 : decide ((2 : Int) = (n : Int)) = decide (n = 2) := decide_eq_decide.mpr (by omega)
  have h3 : decide ((3 : Int) = (n : Int)) = decide (n = 3) := decide_eq_decide.mpr (by omega)
  rw [h2, h3]
theorem fIn_L {a : D} {ns : List D} {w n m : Nat} (ha : Th w n a) (hs : Th w m (.list ns)) (hn : n ≤ 64) (hm : m ≤ 64) : fIn a (.list ns) = some (.bool (inB a ns)) := by
  have e : inD a (.list ns) = if SeqAt.shaped a = true ∧ SeqAt.shaped (.list ns) = true then some (ns.any fun z => PyData.eqv z a) else none := rfl
  unfold fIn
  rw [e, if_pos ⟨ha.shaped hn, hs.shaped hm⟩]
  rfl
def isLit (y : Str) : Bool := decide (y = "all") || (decide (y = "lamp") || decide (y = "group"))
theorem fEq_sl {w n : Nat} {x : Str} (h : Th w n (.str x)) (hn : n ≤ 64) {y : Str} (hy : PyData.strOk y = true := by decide +kernel) : fEq (.str x) (.str y) = some (.bool (decide (x = y))) := by
  unfold fEq
  have hs : SeqAt.shaped (.str y) = true := (Th.str (w := y.length) (n := 0) (Nat.le_refl _) hy).shaped (by omega)
  rw [if_pos ⟨h.shaped hn, hs⟩, eqv_str]
theorem lampNe : ("lamp" : Str) ≠ "group" := by decide +kernel
/-! ### list made with a test and effects -/
theorem WLc.invF {α : Type} {g : D → En → Option En} {t : En → Option (Bool × En)} {e : En → Option (D × En)} {vs : List Nat} {ρ : En} {QL : List D → En → Prop} {l : List α} {enc : α → D} (P : List α → List D → En → Prop) (h0 : P [] [] ρ)
    (ht : ∀ pre a post ys ρ, l = pre ++ a :: post → P pre ys ρ → WG g (enc a) ρ fun ρ1 => Wx t ρ1 fun c ρ2 => (c = true → Wx e ρ2 fun y ρ3 => P (pre ++ [a]) (ys ++ [y]) (wipeE ρ3 vs)) ∧ (c = false → P (pre ++ [a]) ys (wipeE ρ2 vs))) (hd : ∀ ys ρ, P l ys ρ → QL ys ρ) : WLc g t e vs (l.map enc) ρ QL := by
  have go : ∀ (post pre : List α) (ys : List D) (ρ : En), pre ++ post = l → P pre ys ρ → WLc g t e vs (post.map enc) ρ fun zs r => QL (ys ++ zs) r := by
    intro post
    induction post with
    | nil =>
      intro pre ys ρ e p
      rw [List.append_nil] at e
      subst e
      refine WLc.nil.mpr ?_
      rw [List.append_nil]
      exact hd ys ρ p
    | cons d post ih =>
      intro pre ys ρ e p
      refine WLc.cons.mpr ((ht pre d post ys ρ e.symm p).mono fun r1 h1 => h1.mono fun c r2 h2 => ⟨fun hc => (h2.1 hc).mono fun y r3 h3 => ?_, fun hc => ?_⟩)
      · refine (ih (pre ++ [d]) (ys ++ [y]) _ (by rw [List.append_assoc]; exact e) h3).mono fun zs r hz => ?_
        rw [List.append_assoc] at hz
        exact hz
      · exact ih (pre ++ [d]) ys _ (by rw [List.append_assoc]; exact e) (h2.2 hc)
  exact go l [] [] ρ rfl h0
/-! ### a text is like a thing -/
def isS (x : Str) : D → Bool
  | .str y => decide (x = y)
  | _ => false
theorem isS_iff {x : Str} {d : D} : isS x d = true ↔ d = .str x := by
  unfold isS
  split
  · rename_i y
    constructor
    · intro h; rw [of_decide_eq_true h]
    · intro h; injection h with h; exact decide_eq_true h.symm
  · rename_i h1
    constructor
    · intro h; cases h
    · intro h; exact absurd h (h1 x)
theorem eqv_sd {x : Str} {d : D} : PyData.eqv (.str x) d = isS x d := by
  cases d <;> first | exact eqv_str | (unfold PyData.eqv isS; rfl)
theorem fEq_sd {x : Str} {d : D} {w n : Nat} (hx : Th w n (.str x)) (hd : Th w n d) (hn : n ≤ 64) : fEq (.str x) d = some (.bool (isS x d)) := by
  unfold fEq
  rw [if_pos ⟨hx.shaped hn, hd.shaped hn⟩, eqv_sd]
def allS : List Str → List D → Bool
  | [], [] => true
  | x :: xs, d :: ds => isS x d && allS xs ds
  | _, _ => false
theorem allS_len : ∀ {hs : List Str} {ds : List D}, hs.length ≠ ds.length → allS hs ds = false
  | [], [], h => absurd rfl h
  | [], _ :: _, _ => rfl
  | _ :: _, [], _ => rfl
  | x :: hs, d :: ds, h => by
    rw [allS, allS_len (fun e => h (congrArg (· + 1) e)), Bool.and_false]
theorem allS_range : ∀ {hs : List Str} {ds : List D}, hs.length = ds.length → ((List.range hs.length).all fun i => isS (hs.getD i "") (ds.getD i .none)) = allS hs ds
  | [], [], _ => rfl
  | x :: hs, d :: ds, h => by
    have := allS_range (hs := hs) (ds := ds) (Nat.succ.inj h)
    rw [List.length_cons, List.range_succ_eq_map, List.all_cons, List.all_map, allS, ← this]
    rfl
def headsS (L : List Row) (gs : List Grp) : List (List Str) := [[("all" : Str)]] ++ L.map (fun p => [("lamp" : Str), p.1]) ++ gs.map fun g => [("group" : Str), g.1]
theorem any_heads1 {L : List Row} {gs : List Grp} {a : D} : ((headsS L gs).any fun h => allS h [a]) = isS "all" a := by
  unfold headsS
  rw [List.any_append, List.any_append, List.any_map, List.any_map]
  have h1 : (L.any ((fun h => allS h [a]) ∘ fun p : Row => [("lamp" : Str), p.1])) = false := List.any_eq_false.mpr fun p _ => by
    show ¬ ((isS "lamp" a && allS [p.1] []) = true)
    rw [show allS [p.1] [] = false from allS_len (by simp), Bool.and_false]
    exact Bool.false_ne_true
  have h2 : (gs.any ((fun h => allS h [a]) ∘ fun p : Grp => [("group" : Str), p.1])) = false := List.any_eq_false.mpr fun p _ => by
    show ¬ ((isS "group" a && allS [p.1] []) = true)
    rw [show allS [p.1] [] = false from allS_len (by simp), Bool.and_false]
    exact Bool.false_ne_true
  rw [h1, h2]
  simp [allS]
theorem any_names {l : List Str} {b : D} : (l.any fun x => isS x b) = inB b (l.map fun x => (.str x : D)) := by
  unfold inB
  rw [List.any_map]
  exact congrArg (fun f => l.any f) (funext fun x => eqv_sd.symm)
theorem any_heads2 {L : List Row} {gs : List Grp} {a b : D} : ((headsS L gs).any fun h => allS h [a, b]) = ((isS "lamp" a && inB b (L.map fun p => (.str p.1 : D))) || (isS "group" a && inB b (gs.map fun p => (.str p.1 : D)))) := by
  unfold headsS
  rw [List.any_append, List.any_append, List.any_map, List.any_map]
  have h1 : ∀ (q : Str) (l : List Str), (l.any fun x => allS [q, x] [a, b]) = (isS q a && inB b (l.map fun x => (.str x : D))) := fun q l => by
    rw [← any_names]
    induction l with
    | nil => rw [List.any_nil, List.any_nil, Bool.and_false]
    | cons x l ih =>
      rw [List.any_cons, List.any_cons, ih]
      simp only [allS, Bool.and_true]
      cases isS q a <;> rfl
  have h2 := h1 "lamp" (L.map (·.1))
  have h3 := h1 "group" (gs.map (·.1))
  rw [List.any_map, List.map_map] at h2 h3
  have h4 : ([[("all" : Str)]].any fun h => allS h [a, b]) = false := by simp [allS]
  rw [h4, Bool.false_or]
  exact congr (congrArg or h2) h3
theorem wordB_2 {L : List Row} {gs : List Grp} {a v : D} : wordB (L.map fun p => (.str p.1 : D)) (gs.map fun p => (.str p.1 : D)) (.tuple [a, v]) = (intB 0 100 v && ((headsS L gs).any fun h => allS h [a])) := by
  rw [any_heads1]
  cases a <;> first | rfl | (simp [wordB, isS]; done) | skip
  rename_i x
  show (intB 0 100 v && decide (x = "all")) = (intB 0 100 v && decide ("all" = x))
  rw [decide_eq_decide.mpr (eq_comm (a := x))]
theorem wordB_3 {L : List Row} {gs : List Grp} {a b v : D} : wordB (L.map fun p => (.str p.1 : D)) (gs.map fun p => (.str p.1 : D)) (.tuple [a, b, v]) = (intB 0 100 v && ((headsS L gs).any fun h => allS h [a, b])) := by
  rw [any_heads2]
  have hb : ∀ l : List Str, strB b = false → inB b (l.map fun x => (.str x : D)) = false := fun l h => by
    rw [← any_names]
    refine List.any_eq_false.mpr fun x _ h2 => ?_
    rw [isS_iff.mp h2] at h
    cases h
  cases a with
  | str x =>
    cases hs : strB b with
    | true =>
      obtain ⟨y, rfl⟩ := strB_str hs
      show (intB 0 100 v && _) = (intB 0 100 v && ((decide ("lamp" = x) && _) || (decide ("group" = x) && _)))
      rw [decide_eq_decide.mpr (eq_comm (a := ("lamp" : Str))), decide_eq_decide.mpr (eq_comm (a := ("group" : Str)))]
    | false =>
      have h1 := hb (L.map (·.1)) hs
      have h2 := hb (gs.map (·.1)) hs
      rw [List.map_map] at h1 h2
      have e1 : inB b (L.map fun p => (.str p.1 : D)) = false := h1
      have e2 : inB b (gs.map fun p => (.str p.1 : D)) = false := h2
      rw [e1, e2, Bool.and_false, Bool.and_false, Bool.or_false, Bool.and_false]
      cases b <;> first | rfl | cases hs
  | _ => simp [wordB, isS]
theorem txHeads : TxOk ("all" : Str) ∧ TxOk ("lamp" : Str) ∧ TxOk ("group" : Str) := ⟨⟨by decide, by decide +kernel⟩, ⟨by decide, by decide +kernel⟩, ⟨by decide, by decide +kernel⟩⟩
theorem headsS_len {L : List Row} {gs : List Grp} : (headsS L gs).length = 1 + L.length + gs.length := by
  unfold headsS
  rw [List.length_append, List.length_append, List.length_map, List.length_map, List.length_singleton]
theorem headsS_mem {L : List Row} {gs : List Grp} (hL : ∀ p ∈ L, TxOk p.1) (hG : GsOk gs) {h : List Str} (hh : h ∈ headsS L gs) : h.length ≤ 2 ∧ ∀ x ∈ h, TxOk x := by
  obtain ⟨t1, t2, t3⟩ := txHeads
  unfold headsS at hh
  rcases List.mem_append.mp hh with hh | hh
  · rcases List.mem_append.mp hh with hh | hh
    · obtain rfl := List.mem_singleton.mp hh
      exact ⟨by decide, by simpa using t1⟩
    · obtain ⟨p, hp, rfl⟩ := List.mem_map.mp hh
      exact ⟨by simp, by simpa using ⟨t2, hL p hp⟩⟩
  · obtain ⟨p, hp, rfl⟩ := List.mem_map.mp hh
    exact ⟨by simp, by simpa using ⟨t3, (hG.tx p hp).1⟩⟩
theorem headsS_th {L : List Row} {gs : List Grp} (hL : ∀ p ∈ L, TxOk p.1) (hG : GsOk gs) {l : List (List Str)} (hl : ∀ h ∈ l, h ∈ headsS L gs) (hn : l.length ≤ 1000) : Th 1000 2 (.list (l.map encSs)) := ⟨by rw [List.length_map]; exact hn, fun d hd => by
  obtain ⟨h, hh, rfl⟩ := List.mem_map.mp hd
  have := headsS_mem hL hG (hl h hh)
  exact sss_th (by omega) this.2⟩
theorem not_filter_empty {α β : Type} (p : α → Bool) (f : α → β) : ∀ l : List α, (!((l.filter p).map f).isEmpty) = l.any p
  | [] => rfl
  | a :: l => by
    rw [List.filter_cons, List.any_cons, ← not_filter_empty p f l]
    cases p a <;> rfl
theorem namesT_8 : ∀ x ∈ namesT, x.length ≤ 8 := by decide +kernel
theorem namesG_8 : ∀ x ∈ namesG, x.length ≤ 8 := by decide +kernel
theorem LmT.nm8 {m : Int} {L : List Row} (h : LmT m L) (n : Nat) : ∀ x ∈ L.map (·.1), Th 8 n (.str x) := by
  obtain ⟨k, h1, h2, h3, h4⟩ := h.nm
  rw [h4]
  exact fun x hx => Th.str (namesT_8 x (List.mem_of_mem_take hx)) (namesT_ok x (List.mem_of_mem_take hx)).2
theorem GrT.nm8 {L : List Row} {gs : List Grp} (h : GrT L gs) (n : Nat) : ∀ x ∈ gs.map (·.1), Th 8 n (.str x) := by
  obtain ⟨k, h1, h2⟩ := h.nm
  rw [h2]
  exact fun x hx => Th.str (namesG_8 x (List.mem_of_mem_take hx)) (namesG_ok x (List.mem_of_mem_take hx)).2
theorem GrT.gth {m : Int} {L : List Row} {gs : List Grp} (hL : LmT m L) (h : GrT L gs) : ∀ g ∈ gs, Th 8 2 (encG g) := fun g hg => mem_th (fun z hz => by
  simp only [List.mem_cons, List.not_mem_nil, or_false] at hz
  rcases hz with rfl | rfl
  · exact h.nm8 1 _ (List.mem_map_of_mem (f := fun p : Grp => p.1) hg)
  · refine mem_th (fun y hy => ?_) ?_
    · obtain ⟨x, hx, rfl⟩ := List.mem_map.mp hy
      exact hL.nm8 0 x ((h.mem g hg).2.subset hx)
    · have := (h.mem g hg).2.length_le
      rw [List.length_map] at this ⊢
      have := hL.len
      omega) (Nat.le_of_ble_eq_true rfl)
theorem GrT.gsth {m : Int} {L : List Row} {gs : List Grp} (hL : LmT m L) (h : GrT L gs) : Th 8 3 (encGs gs) := mem_th (fun d hd => by
  obtain ⟨g, hg, rfl⟩ := List.mem_map.mp hd
  exact h.gth hL g hg) (by rw [List.length_map]; have := h.len; omega)
theorem th8_lits (n : Nat) : Th 8 n (.str "all") ∧ Th 8 n (.str "lamp") ∧ Th 8 n (.str "group") ∧ Th 8 n (.str "zed") ∧ Th 8 n (.str "ann") := by
  refine ⟨Th.str ?_ ?_, Th.str ?_ ?_, Th.str ?_ ?_, Th.str ?_ ?_, Th.str ?_ ?_⟩ <;> decide +kernel
theorem headsS_8 {m : Int} {L : List Row} {gs : List Grp} (hL : LmT m L) (hG : GrT L gs) {h : List Str} (hh : h ∈ headsS L gs) : h.length ≤ 2 ∧ ∀ x ∈ h, Th 8 0 (.str x) := by
  obtain ⟨t1, t2, t3, _⟩ := th8_lits 0
  unfold headsS at hh
  rcases List.mem_append.mp hh with hh | hh
  · rcases List.mem_append.mp hh with hh | hh
    · obtain rfl := List.mem_singleton.mp hh
      exact ⟨by decide, by simpa using t1⟩
    · obtain ⟨p, hp, rfl⟩ := List.mem_map.mp hh
      exact ⟨by simp, by simpa using ⟨t2, hL.nm8 0 _ (List.mem_map_of_mem (f := fun p : Row => p.1) hp)⟩⟩
  · obtain ⟨p, hp, rfl⟩ := List.mem_map.mp hh
    exact ⟨by simp, by simpa using ⟨t3, hG.nm8 0 _ (List.mem_map_of_mem (f := fun p : Grp => p.1) hp)⟩⟩
def abc : Str := "abcdefgh"
theorem abc_at {i : Nat} (hi : i < 8) : ∃ c, atI ("abcdefgh" : Str).cps.toList (0 + (i : Int)) = some c ∧ ∀ n, Th 8 n (.str ⟨#[c]⟩) := by
  have hok : ∀ c ∈ ("abcdefgh" : Str).cps.toList, PyData.strOk (⟨#[c]⟩ : Str) = true := by decide +kernel
  have hl : (("abcdefgh" : Str).cps.toList).length = 8 := by decide +kernel
  obtain ⟨c, hc, hm⟩ := atI_mem (l := ("abcdefgh" : Str).cps.toList) (n := 0 + (i : Int)) (by omega) (by rw [hl]; omega)
  exact ⟨c, hc, fun n => Th.str (Nat.le_trans (Nat.le_of_eq rfl) (by decide : 1 ≤ 8)) (hok c hm)⟩
theorem GsOk.lp {gs : List Grp} (h : GsOk gs) : Lp 1000 (gs.map encG) := ⟨List.all_eq_true.mpr fun d hd => by
  obtain ⟨g, hg, rfl⟩ := List.mem_map.mp hd
  rfl, by
  rw [List.map_map]
  refine ⟨by rw [List.length_map]; exact h.len, fun d hd => ?_⟩
  obtain ⟨g, hg, rfl⟩ := List.mem_map.mp hd
  exact (h.tx g hg).1.th 0⟩
end FL
end L2

/-! M9: rules put to others -/
namespace L2
namespace FL
open PySem
/-! ### the order of starts and places -/
theorem leIN_trans (a b c : IN) (h1 : leIN a b = true) (h2 : leIN b c = true) : leIN a c = true := by
  have h1 := of_decide_eq_true h1
  have h2 := of_decide_eq_true h2
  exact decide_eq_true (by omega)
theorem leIN_total (a b : IN) : (leIN a b || leIN b a) = true := by
  unfold leIN
  rw [Bool.or_eq_true, decide_eq_true_eq, decide_eq_true_eq]
  omega
theorem leIN_anti {a b : IN} (h1 : leIN a b = true) (h2 : leIN b a = true) : a = b := by
  have h1 := of_decide_eq_true h1
  have h2 := of_decide_eq_true h2
  exact Prod.ext (by omega) (by omega)
theorem sortIN_pw (l : List IN) : (sortIN l).Pairwise fun a b => leIN a b = true := List.pairwise_mergeSort leIN_trans leIN_total l
theorem sorted_eq {l m : List IN} (h : l.Perm m) (h1 : l.Pairwise fun a b => leIN a b = true) (h2 : m.Pairwise fun a b => leIN a b = true) : l = m := h.eq_of_pairwise (fun _ _ _ _ => leIN_anti) h1 h2
theorem sortIN_filter (p : IN → Bool) (l : List IN) : (sortIN l).filter p = sortIN (l.filter p) :=
  sorted_eq (((sortIN_perm l).filter p).trans (sortIN_perm _).symm) ((sortIN_pw l).sublist List.filter_sublist) (sortIN_pw _)
def shIN (k : Nat) (q : IN) : IN := (q.1, q.2 + k)
theorem sortIN_sh (k : Nat) (l : List IN) : sortIN (l.map (shIN k)) = (sortIN l).map (shIN k) := by
  refine sorted_eq ((sortIN_perm _).trans ((sortIN_perm l).map _).symm) (sortIN_pw _) ?_
  rw [List.pairwise_map]
  refine (sortIN_pw l).imp fun {a b} h => ?_
  have h := of_decide_eq_true h
  refine decide_eq_true ?_
  show a.1 < b.1 ∨ (a.1 = b.1 ∧ a.2 + k ≤ b.2 + k)
  omega
/-! ### which rules are on, of rules one behind the other -/
theorem onT_go (es : List Ev) (m : Int) : ∀ (rs : List Rule) (k : Nat), (rs.zipIdx k).filterMap (onF es m) = (rs.zipIdx.filterMap (onF es m)).map (shIN k) := by
  intro rs k
  rw [List.zipIdx_eq_map_add, List.filterMap_map, List.map_filterMap]
  congr 1
  funext q
  show (putT q.1 es m).map _ = ((putT q.1 es m).map _).map _
  rw [Option.map_map]
  congr 1
  funext s
  show (s, _) = (s, _)
  rw [Nat.add_comm]
theorem onT_append (A B : List Rule) (es : List Ev) (m : Int) : onT (A ++ B) es m = onT A es m ++ (onT B es m).map (shIN A.length) := by
  unfold onT
  rw [List.zipIdx_append, List.filterMap_append, Nat.zero_add, onT_go es m B A.length]
theorem onT_lt {rs : List Rule} {es : List Ev} {m : Int} {q : IN} (h : q ∈ onT rs es m) : q.2 < rs.length := by
  obtain ⟨z, hz, e⟩ := List.mem_filterMap.mp h
  obtain ⟨s, _, e2⟩ := Option.map_eq_some_iff.mp e
  have e3 : z.2 = q.2 := congrArg Prod.snd e2
  rw [← e3]
  exact (List.getElem?_eq_some_iff.mp (List.mk_mem_zipIdx_iff_getElem?.mp (show (z.1, z.2) ∈ rs.zipIdx from hz))).1
theorem onT_on {rs : List Rule} {es : List Ev} {m : Int} {q : IN} (h : q ∈ onT rs es m) : ∃ r, rs[q.2]? = some r ∧ putT r es m = some q.1 := by
  obtain ⟨z, hz, e⟩ := List.mem_filterMap.mp h
  obtain ⟨s, h1, e2⟩ := Option.map_eq_some_iff.mp e
  have e3 : z.2 = q.2 := congrArg Prod.snd e2
  have e4 : s = q.1 := congrArg Prod.fst e2
  refine ⟨z.1, ?_, by rw [h1, e4]⟩
  rw [← e3]
  exact List.mk_mem_zipIdx_iff_getElem?.mp (show (z.1, z.2) ∈ rs.zipIdx from hz)
theorem on_onT {rs : List Rule} {es : List Ev} {m : Int} {r : Rule} {i : Nat} {s : Int} (h : rs[i]? = some r) (hs : putT r es m = some s) : (s, i) ∈ onT rs es m :=
  List.mem_filterMap.mpr ⟨(r, i), List.mk_mem_zipIdx_iff_getElem?.mpr h, by show (putT r es m).map _ = _; rw [hs]; rfl⟩
/-! ### the layers in order, some of the first rules' -/
def layQ (rs : List Rule) (q : IN) : Lay := layR (rs.getD q.2 (.press "" 0 []))
theorem laysT_q (rs : List Rule) (es : List Ev) (m : Int) : laysT rs (placesT rs es m) = (sortIN (onT rs es m)).map (layQ rs) := by
  rw [laysT_map fun p hp => placesT_lt hp]
  unfold placesT
  rw [List.map_map]
  rfl
def midB (a n : Nat) (q : IN) : Bool := decide (a ≤ q.2) && decide (q.2 < a + n)
theorem mid_on (A B C : List Rule) (es : List Ev) (m : Int) : (onT (A ++ B ++ C) es m).filter (midB A.length B.length) = (onT B es m).map (shIN A.length) := by
  rw [onT_append, onT_append, List.filter_append, List.filter_append]
  have h1 : (onT A es m).filter (midB A.length B.length) = [] := List.filter_eq_nil_iff.mpr fun q hq => by
    have := onT_lt hq
    unfold midB
    rw [decide_eq_false (by omega)]
    exact Bool.false_ne_true
  have h3 : ((onT C es m).map (shIN (A ++ B).length)).filter (midB A.length B.length) = [] := List.filter_eq_nil_iff.mpr fun q hq => by
    obtain ⟨z, hz, rfl⟩ := List.mem_map.mp hq
    show ¬ ((decide (A.length ≤ z.2 + (A ++ B).length) && decide (z.2 + (A ++ B).length < A.length + B.length)) = true)
    rw [Bool.and_eq_true, decide_eq_true_eq, decide_eq_true_eq, List.length_append]
    omega
  have h2 : ((onT B es m).map (shIN A.length)).filter (midB A.length B.length) = (onT B es m).map (shIN A.length) := List.filter_eq_self.mpr fun q hq => by
    obtain ⟨z, hz, rfl⟩ := List.mem_map.mp hq
    have := onT_lt hz
    unfold midB shIN
    rw [Bool.and_eq_true, decide_eq_true_eq, decide_eq_true_eq]
    dsimp only
    omega
  rw [h1, h2, h3, List.nil_append, List.append_nil]
theorem mid_lays (A B C : List Rule) (es : List Ev) (m : Int) : ((sortIN (onT (A ++ B ++ C) es m)).filter (midB A.length B.length)).map (layQ (A ++ B ++ C)) = laysT B (placesT B es m) := by
  rw [sortIN_filter, mid_on, sortIN_sh, laysT_q, List.map_map]
  refine List.map_congr_left fun q hq => ?_
  have := onT_lt ((sortIN_perm _).mem_iff.mp hq)
  show layR _ = layR _
  congr 1
  show (A ++ B ++ C).getD (q.2 + A.length) _ = B.getD q.2 _
  rw [List.getD_eq_getElem?_getD, List.getD_eq_getElem?_getD, List.append_assoc, List.getElem?_append_right (by omega), List.getElem?_append_left (by omega), Nat.add_sub_cancel]
/-! ### the fold with others between -/
section
variable {β : Type} (g : β → Lay) (p : β → Bool) (x : Str) (S : List Row)
theorem low_fold : ∀ (zs : List β), (∀ q ∈ zs, p q = true → 1 ≤ (g q).1) → (∀ q ∈ zs, p q = false → g q = (0, S)) → ∀ (acc acc' : Option (Int × Int)) (b : Bool),
    (match acc' with | some s => acc = some s ∧ 1 ≤ s.1 | none => acc = if b = true then (lk S x).map fun v => ((0 : Int), v) else none) →
    (match ((zs.filter p).map g).foldl (lvF x) acc' with | some s => (zs.map g).foldl (lvF x) acc = some s ∧ 1 ≤ s.1 | none => (zs.map g).foldl (lvF x) acc = if (b || !zs.all p) = true then (lk S x).map fun v => ((0 : Int), v) else none)
  | [], _, _, acc, acc', b, h => by
    rw [List.filter_nil, List.map_nil, List.foldl_nil, List.all_nil, Bool.not_true, Bool.or_false]
    exact h
  | q :: zs, h1, h2, acc, acc', b, h => by
    have h1' := fun z (hz : z ∈ zs) => h1 z (List.mem_cons_of_mem _ hz)
    have h2' := fun z (hz : z ∈ zs) => h2 z (List.mem_cons_of_mem _ hz)
    rw [List.map_cons, List.foldl_cons, List.filter_cons, List.all_cons]
    cases hp : p q with
    | true =>
      have hr := h1 q List.mem_cons_self hp
      rw [if_pos rfl, List.map_cons, List.foldl_cons, Bool.true_and]
      refine low_fold zs h1' h2' _ _ b ?_
      unfold lvF
      cases hv : lk (g q).2 x with
      | none => exact h
      | some v =>
        cases acc' with
        | some s =>
          dsimp only at h
          rw [h.1]
          dsimp only
          by_cases hc : s.1 ≤ (g q).1
          · rw [if_pos hc]; exact ⟨rfl, hr⟩
          · rw [if_neg hc]; exact ⟨rfl, h.2⟩
        | none =>
          dsimp only at h ⊢
          rw [h]
          cases b with
          | true =>
            rw [if_pos rfl]
            cases lk S x with
            | none => exact ⟨rfl, hr⟩
            | some w =>
              dsimp only [Option.map_some]
              rw [if_pos (by omega)]
              exact ⟨rfl, hr⟩
          | false => exact ⟨rfl, hr⟩
    | false =>
      have hr := h2 q List.mem_cons_self hp
      rw [if_neg Bool.false_ne_true, Bool.false_and, Bool.not_false, Bool.or_true]
      have := low_fold zs h1' h2' (lvF x acc (g q)) acc' true ?_
      · rw [Bool.true_or] at this
        exact this
      · rw [hr]
        unfold lvF
        dsimp only
        cases acc' with
        | some s =>
          dsimp only at h ⊢
          rw [h.1]
          cases hv : lk S x with
          | none => exact ⟨rfl, h.2⟩
          | some v =>
            dsimp only
            rw [if_neg (by omega)]
            exact ⟨rfl, h.2⟩
        | none =>
          dsimp only at h ⊢
          rw [h, if_pos rfl]
          cases hv : lk S x with
          | none => cases b <;> rfl
          | some v => cases b <;> rfl
theorem high_fold : ∀ (zs : List β), (∀ q ∈ zs, p q = true → (g q).1 ≤ 8) → (∀ q ∈ zs, p q = false → g q = (9, S)) → ∀ (acc acc' : Option (Int × Int)) (b : Bool),
    (acc = if (b && (lk S x).isSome) = true then (lk S x).map fun v => ((9 : Int), v) else acc') → (∀ s, acc' = some s → s.1 ≤ 8) →
    ((zs.map g).foldl (lvF x) acc = if ((b || !zs.all p) && (lk S x).isSome) = true then (lk S x).map fun v => ((9 : Int), v) else ((zs.filter p).map g).foldl (lvF x) acc')
  | [], _, _, acc, acc', b, h, _ => by
    rw [List.filter_nil, List.map_nil, List.foldl_nil, List.all_nil, Bool.not_true, Bool.or_false]
    exact h
  | q :: zs, h1, h2, acc, acc', b, h, h8 => by
    have h1' := fun z (hz : z ∈ zs) => h1 z (List.mem_cons_of_mem _ hz)
    have h2' := fun z (hz : z ∈ zs) => h2 z (List.mem_cons_of_mem _ hz)
    rw [List.map_cons, List.foldl_cons, List.filter_cons, List.all_cons]
    cases hp : p q with
    | true =>
      have hr := h1 q List.mem_cons_self hp
      rw [if_pos rfl, List.map_cons, List.foldl_cons, Bool.true_and]
      refine high_fold zs h1' h2' _ _ b ?_ ?_
      · rw [h]
        split
        · rename_i hb
          obtain ⟨v, hv⟩ := Option.isSome_iff_exists.mp (Bool.and_eq_true_iff.mp hb).2
          rw [hv]
          unfold lvF
          dsimp only [Option.map_some]
          cases lk (g q).2 x with
          | none => rfl
          | some w =>
            dsimp only
            rw [if_neg (by omega)]
        · rfl
      · intro s e
        unfold lvF at e
        cases hv : lk (g q).2 x with
        | none => rw [hv] at e; exact h8 s e
        | some v =>
          rw [hv] at e
          cases acc' with
          | none => cases e; exact hr
          | some s' =>
            dsimp only at e
            split at e
            · cases e; exact hr
            · cases e; exact h8 _ rfl
    | false =>
      have hr := h2 q List.mem_cons_self hp
      rw [if_neg Bool.false_ne_true, Bool.false_and, Bool.not_false, Bool.or_true]
      have := high_fold zs h1' h2' (lvF x acc (g q)) acc' true ?_ h8
      · rw [Bool.true_or] at this
        exact this
      · rw [hr, h]
        unfold lvF
        dsimp only
        cases hv : lk S x with
        | none => simp
        | some v =>
          simp only [Option.isSome_some, Bool.and_true, Bool.true_and, if_true, Option.map_some]
          cases acc' with
          | none => cases b <;> rfl
          | some s =>
            have := h8 s rfl
            cases b with
            | true => simp
            | false =>
              simp only [Bool.false_eq_true, if_false]
              rw [if_pos (by omega)]
theorem none_fold : ∀ (zs : List β), (∀ q ∈ zs, p q = false → lk (g q).2 x = none) → ∀ acc : Option (Int × Int), (zs.map g).foldl (lvF x) acc = ((zs.filter p).map g).foldl (lvF x) acc
  | [], _, _ => rfl
  | q :: zs, h, acc => by
    have h' := fun z (hz : z ∈ zs) => h z (List.mem_cons_of_mem _ hz)
    rw [List.map_cons, List.foldl_cons, List.filter_cons]
    cases hp : p q with
    | true =>
      rw [if_pos rfl, List.map_cons, List.foldl_cons]
      exact none_fold zs h' _
    | false =>
      rw [if_neg Bool.false_ne_true, show lvF x acc (g q) = acc by unfold lvF; rw [h q List.mem_cons_self hp]]
      exact none_fold zs h' _
end
/-! ### dict of pairs, any values -/
section
variable {β : Type}
theorem pairsK_gen (k : β → Str) (f : β → D) : ∀ s : List β, pairsK (s.map fun p => .tuple [.str (k p), f p]) = some (s.map fun p => (.inr (k p), f p))
  | [] => rfl
  | p :: s => by
    rw [List.map_cons, pairsK, pairsK_gen k f s]
    rfl
theorem mergeD_gen (k : β → Str) (f : β → D) : ∀ (s : List β) (acc : List (D × D)), (∀ p ∈ s, ∀ q ∈ acc, keyOf q.1 ≠ some (.inr (k p))) → (s.map k).Nodup → mergeD acc (s.map fun p => (.inr (k p), f p)) = acc ++ s.map fun p => (.str (k p), f p)
  | [], acc, _, _ => by rw [List.map_nil, List.map_nil, List.append_nil]; rfl
  | p :: s, acc, h, hn => by
    have hn' := List.nodup_cons.mp hn
    rw [List.map_cons, List.map_cons]
    show mergeD (putD acc (.inr (k p)) (f p)) _ = _
    have e : putD acc (.inr (k p)) (f p) = acc ++ [(.str (k p), f p)] := by
      unfold putD
      rw [if_neg]
      · rfl
      intro h2
      obtain ⟨q, hq, h3⟩ := List.any_eq_true.mp h2
      exact h p List.mem_cons_self q hq (of_decide_eq_true h3)
    rw [e, mergeD_gen k f s _ (fun q hq z hz => ?_) hn'.2, List.append_assoc]
    · rfl
    · rcases List.mem_append.mp hz with hz | hz
      · exact h q (List.mem_cons_of_mem _ hq) z hz
      · obtain rfl := List.mem_singleton.mp hz
        intro e
        have e2 : k p = k q := by injection e with e; injection e
        exact hn'.1 (List.mem_map.mpr ⟨q, hq, e2.symm⟩)
theorem dDict_gen (k : β → Str) (f : β → D) {s : List β} (h : (s.map k).Nodup) : dDict (.tuple (s.map fun p => .tuple [.str (k p), f p])) = some (.dict (s.map fun p => (.str (k p), f p))) := by
  show (pairsK _).map _ = _
  rw [pairsK_gen, Option.map_some, mergeD_gen k f s [] (fun _ _ _ z => nomatch z) h]
  rfl
end
/-! ### those between -/
theorem filterMap_empty {α γ : Type} (f : α → Option γ) : ∀ l : List α, (l.filterMap f).isEmpty = !(l.any fun a => (f a).isSome)
  | [] => rfl
  | a :: l => by
    rw [List.filterMap_cons, List.any_cons]
    cases e : f a with
    | none => exact filterMap_empty f l
    | some b => rfl
def anyOn (rs : List Rule) (es : List Ev) (m : Int) : Bool := rs.any fun r => (putT r es m).isSome
theorem onT_empty (rs : List Rule) (es : List Ev) (m : Int) : (onT rs es m).isEmpty = !anyOn rs es m := by
  unfold onT anyOn
  rw [filterMap_empty]
  congr 1
  have e : (rs.zipIdx.map (·.1)).any (fun r => (putT r es m).isSome) = rs.zipIdx.any fun q => (onF es m q).isSome := by
    rw [List.any_map]
    refine List.any_congr rfl fun q => ?_
    show _ = ((putT q.1 es m).map _).isSome
    rw [Option.isSome_map]
    rfl
  rw [List.zipIdx_map_fst] at e
  exact e.symm
theorem all_none {α : Type} {p : α → Bool} : ∀ {l : List α}, (∀ a ∈ l, p a = false) → l.all p = l.isEmpty
  | [], _ => rfl
  | a :: l, h => by rw [List.all_cons, h a List.mem_cons_self]; rfl
theorem mid_all (A B C : List Rule) (es : List Ev) (m : Int) : (sortIN (onT (A ++ B ++ C) es m)).all (midB A.length B.length) = !anyOn (A ++ C) es m := by
  rw [(sortIN_perm _).all_eq, onT_append, onT_append, List.all_append, List.all_append]
  have h1 : (onT A es m).all (midB A.length B.length) = !anyOn A es m := by
    rw [all_none fun q hq => ?_, onT_empty]
    have := onT_lt hq
    unfold midB
    rw [decide_eq_false (by omega)]
    rfl
  have h3 : ((onT C es m).map (shIN (A ++ B).length)).all (midB A.length B.length) = !anyOn C es m := by
    rw [all_none fun q hq => ?_, List.isEmpty_map, onT_empty]
    obtain ⟨z, hz, rfl⟩ := List.mem_map.mp hq
    show (decide (A.length ≤ z.2 + (A ++ B).length) && decide (z.2 + (A ++ B).length < A.length + B.length)) = false
    rw [decide_eq_false (p := _ < _) (by rw [List.length_append]; omega), Bool.and_false]
  have h2 : ((onT B es m).map (shIN A.length)).all (midB A.length B.length) = true := List.all_eq_true.mpr fun q hq => by
    obtain ⟨z, hz, rfl⟩ := List.mem_map.mp hq
    have := onT_lt hz
    show (decide (A.length ≤ z.2 + A.length) && decide (z.2 + A.length < A.length + B.length)) = true
    rw [Bool.and_eq_true, decide_eq_true_eq, decide_eq_true_eq]
    omega
  rw [h1, h2, h3, Bool.and_true]
  unfold anyOn
  rw [List.any_append]
  cases A.any _ <;> rfl
theorem lay_mid {A B C : List Rule} {es : List Ev} {m : Int} {q : IN} (hq : q ∈ sortIN (onT (A ++ B ++ C) es m)) : (midB A.length B.length q = true → ∃ r ∈ B, layQ (A ++ B ++ C) q = layR r) ∧ (midB A.length B.length q = false → ∃ r ∈ A ++ C, layQ (A ++ B ++ C) q = layR r ∧ (putT r es m).isSome = true) := by
  obtain ⟨r, hr, hs⟩ := onT_on ((sortIN_perm _).mem_iff.mp hq)
  have e : layQ (A ++ B ++ C) q = layR r := by
    unfold layQ
    rw [List.getD_eq_getElem?_getD, hr]
    rfl
  have hlen := (List.getElem?_eq_some_iff.mp hr).1
  rw [List.length_append, List.length_append] at hlen
  rw [e]
  unfold midB
  rw [List.append_assoc] at hr
  refine ⟨fun h => ⟨r, ?_, rfl⟩, fun h => ⟨r, ?_, rfl, by rw [hs]; rfl⟩⟩
  · rw [Bool.and_eq_true, decide_eq_true_eq, decide_eq_true_eq] at h
    rw [List.getElem?_append_right h.1, List.getElem?_append_left (by omega)] at hr
    exact List.mem_of_getElem? hr
  · by_cases h1 : A.length ≤ q.2
    · have h2 : ¬ q.2 < A.length + B.length := fun h2 => by
        rw [decide_eq_true h1, decide_eq_true h2] at h
        cases h
      rw [List.getElem?_append_right h1, List.getElem?_append_right (by omega)] at hr
      exact List.mem_append.mpr (.inr (List.mem_of_getElem? hr))
    · rw [List.getElem?_append_left (by omega)] at hr
      exact List.mem_append.mpr (.inl (List.mem_of_getElem? hr))
/-! ### what lamps are, with rules put to others -/
def lvA (rs : List Rule) (es : List Ev) (m : Int) (x : Str) : Int := lvl (laysT rs (placesT rs es m)) x
def isA (rs : List Rule) (es : List Ev) (m : Int) (x : Str) : Bool := (plc (laysT rs (placesT rs es m)) x).isSome
theorem put_low {A B C : List Rule} {es : List Ev} {m : Int} {S : List Row} (x : Str) (hB : ∀ r ∈ B, 1 ≤ r.rk) (hA : ∀ r ∈ A ++ C, layR r = (0, S)) : lvA (A ++ B ++ C) es m x = if isA B es m x = true then lvA B es m x else if anyOn (A ++ C) es m = true then (lk S x).getD 0 else 0 := by
  unfold lvA isA
  rw [plc_lv2, lvl_lv2, lvl_lv2, laysT_q (A ++ B ++ C), ← mid_lays A B C]
  have h := low_fold (layQ (A ++ B ++ C)) (midB A.length B.length) x S (sortIN (onT (A ++ B ++ C) es m)) (fun q hq h => by
    obtain ⟨r, hr, e⟩ := (lay_mid hq).1 h
    rw [e]
    exact hB r hr) (fun q hq h => by
    obtain ⟨r, hr, e, _⟩ := (lay_mid hq).2 h
    rw [e]
    exact hA r hr) none none false rfl
  rw [mid_all, Bool.false_or, Bool.not_not] at h
  unfold lv2
  cases e : (((sortIN (onT (A ++ B ++ C) es m)).filter (midB A.length B.length)).map (layQ (A ++ B ++ C))).foldl (lvF x) none with
  | some s =>
    rw [e] at h
    dsimp only at h
    rw [h.1]
    rfl
  | none =>
    rw [e] at h
    dsimp only at h
    rw [h]
    cases anyOn (A ++ C) es m with
    | false => rfl
    | true => cases lk S x <;> rfl
theorem put_high {A B C : List Rule} {es : List Ev} {m : Int} {S : List Row} (x : Str) (hB : ∀ r ∈ B, r.rk ≤ 8) (hA : ∀ r ∈ A ++ C, layR r = (9, S)) : lvA (A ++ B ++ C) es m x = if anyOn (A ++ C) es m = true then (lk S x).getD (lvA B es m x) else lvA B es m x := by
  unfold lvA
  rw [lvl_lv2, lvl_lv2, laysT_q (A ++ B ++ C), ← mid_lays A B C]
  have h := high_fold (layQ (A ++ B ++ C)) (midB A.length B.length) x S (sortIN (onT (A ++ B ++ C) es m)) (fun q hq h => by
    obtain ⟨r, hr, e⟩ := (lay_mid hq).1 h
    rw [e]
    exact hB r hr) (fun q hq h => by
    obtain ⟨r, hr, e, _⟩ := (lay_mid hq).2 h
    rw [e]
    exact hA r hr) none none false (by rw [Bool.false_and]; rfl) (fun _ z => nomatch z)
  rw [mid_all, Bool.false_or, Bool.not_not] at h
  unfold lv2
  rw [h]
  cases anyOn (A ++ C) es m with
  | false => rfl
  | true => cases lk S x <;> rfl
theorem put_none {A B C : List Rule} {es : List Ev} {m : Int} (x : Str) (hA : ∀ r ∈ A ++ C, (putT r es m).isSome = true → lk r.sc x = none) : lvA (A ++ B ++ C) es m x = lvA B es m x := by
  unfold lvA
  rw [lvl_lv2, lvl_lv2, laysT_q (A ++ B ++ C), ← mid_lays A B C]
  unfold lv2
  rw [none_fold (layQ (A ++ B ++ C)) (midB A.length B.length) x (sortIN (onT (A ++ B ++ C) es m)) (fun q hq h => by
    obtain ⟨r, hr, e, h2⟩ := (lay_mid hq).2 h
    rw [e]
    exact hA r hr h2) none]
/-! ### rules by hours of all days -/
abbrev week : List Int := [0, 1, 2, 3, 4, 5, 6]
def inB2 (a b m : Int) : Bool := decide (a ≤ m % 1440) && decide (m % 1440 < b)
theorem on_hours {a b k m : Int} {S : List Row} {es : List Ev} (h0 : 0 ≤ m) (h1 : m ≤ 10079) : (putT (.hours week a b k S) es m).isSome = inB2 a b m := by
  show (hoursO week a b m).isSome = _
  unfold hoursO
  have hd : week.contains (m / 1440) = true := by
    rw [List.contains_iff_mem]
    simp only [week, List.mem_cons, List.not_mem_nil, or_false]
    omega
  rw [hd, Bool.true_and]
  unfold inB2
  split
  · rename_i h; rw [h]; rfl
  · rename_i h
    rw [Bool.not_eq_true] at h
    rw [h]; rfl
theorem times_nobody {w : Str} {m : Int} {es : List Ev} (h : ∀ e ∈ es, e.n ≠ "nobody") : timesT w "nobody" m es = [] := by
  unfold timesT
  rw [List.filter_eq_nil_iff.mpr fun e he => by
    rw [decide_eq_false (h e he), Bool.false_and, Bool.and_false]
    exact Bool.false_ne_true]
  rfl
section
variable {β : Type} {k : β → Str} {f : β → D}
theorem lookK_mem {s : List β} {p : β} (hp : p ∈ s) (h : (s.map k).Nodup) : lookK (s.map fun p => ((.str (k p) : D), f p)) (.inr (k p)) = some (f p) := by
  have e : (s.map fun p => ((.str (k p) : D), f p)) = ((s.map fun p => (k p, f p)).map fun p => ((.str p.1 : D), id p.2)) := by rw [List.map_map]; rfl
  have h2 : lkG (s.map fun p => (k p, f p)) (k p) = some (f p) := lkG_mem (p := (k p, f p)) (List.mem_map_of_mem (f := fun p => (k p, f p)) hp) (by rw [List.map_map]; exact h)
  rw [e, lookK_gen, h2]
  rfl
theorem okK_map {s : List β} : okK (s.map fun p => ((.str (k p) : D), f p)) = true := by
  unfold okK
  rw [List.all_map]
  exact List.all_eq_true.mpr fun p _ => rfl
end
def saidV (rs : List Rule) (ps : List Nat) (p : Row) : D := match plc (laysT rs ps) p.1 with
  | none => .none
  | some i => .int ((ps.getD i 0 : Nat) : Int)
theorem said_dict {L : List Row} {rs : List Rule} {ps : List Nat} (h : RsOk L) : dDict (saidD L rs ps) = some (.dict (L.map fun p => ((.str p.1 : D), saidV rs ps p))) := dDict_gen (fun p : Row => p.1) (saidV rs ps) h.nd
theorem fNotN_said {rs : List Rule} {es : List Ev} {m : Int} {p : Row} : fNotN (saidV rs (placesT rs es m) p) .none = some (.bool (isA rs es m p.1)) := by
  unfold saidV isA
  cases plc (laysT rs (placesT rs es m)) p.1 <;> rfl
theorem dGet_none {x : Str} {z : D} : dGet (.dict []) (.str x) z = some (match lk [] x with | none => z | some v => .int v) := rfl
theorem cut3a {α : Type} {a b c : α} : cutL [a, b, c] none (some 1) = [a] := rfl
theorem cut3b {α : Type} {a b c : α} : cutL [a, b, c] (some 1) none = [b, c] := rfl
theorem litT_lvA (L : List Row) (rs : List Rule) (es : List Ev) (m : Int) : litT L rs es m = L.map fun p => (p.1, lvA rs es m p.1) := rfl
theorem txNobody : TxOk "nobody" := ⟨by decide +kernel, by decide +kernel⟩
theorem lk_nil (x : Str) : lk [] x = none := rfl
theorem said_cases (rs : List Rule) (es : List Ev) (m : Int) (p : Row) : (isA rs es m p.1 = true ∧ ∃ i, saidV rs (placesT rs es m) p = .int i) ∨ (isA rs es m p.1 = false ∧ saidV rs (placesT rs es m) p = .none) := by
  unfold isA saidV
  cases plc (laysT rs (placesT rs es m)) p.1 with
  | none => exact .inr ⟨rfl, rfl⟩
  | some i => exact .inl ⟨rfl, _, rfl⟩
theorem said_at {L : List Row} {rs : List Rule} {ps : List Nat} {q : Row} (hq : q ∈ L) (h : RsOk L) : dIdx (.dict (L.map fun p => ((.str p.1 : D), saidV rs ps p))) (.str q.1) = some (saidV rs ps q) := by
  show (if okK _ = true then lookK _ (.inr q.1) else none) = _
  rw [if_pos okK_map]
  exact lookK_mem (k := fun p : Row => p.1) (f := saidV rs ps) hq h.nd
theorem map_ok {L : List Row} (h : RsOk L) (f : Row → Int) : RsOk (L.map fun p => (p.1, f p)) := by
  have e : (L.map fun p => (p.1, f p)).map (·.1) = L.map (·.1) := by rw [List.map_map]; rfl
  refine ⟨by rw [List.length_map]; exact h.len, fun p hp => ?_, by rw [e]; exact h.nd⟩
  obtain ⟨q, hq, rfl⟩ := List.mem_map.mp hp
  exact h.tx q hq
theorem WF.keep {α : Type} {g : D → En → Option En} {b : En → Option Fl} {l : List α} {enc : α → D} {ρ : En} {QS : Fl → Prop} (i : Nat) (hρ : ∃ z, ρ = ρ.set i z) (h : ∀ a ∈ l, ∀ z, WG g (enc a) (ρ.set i z) fun ρ1 => WS b ρ1 (Tn (fun ρ2 => ∃ z, ρ2 = ρ.set i z) QS)) (hd : ∀ z, QS (.nx (ρ.set i z))) : WF g b (l.map enc) ρ QS :=
  WF.invT (fun _ ρ' => ∃ z, ρ' = ρ.set i z) hρ (fun pre a post ρ' hq hP => by
    obtain ⟨z, rfl⟩ := hP
    exact h a (by rw [hq]; simp) z) (fun ρ' hP => by
    obtain ⟨z, rfl⟩ := hP
    exact hd z)
end FL
end L2

/-! M10: words, and what is heard behind them -/
namespace L2
namespace FL
open PySem
/-! ### rows changed at a name -/
def setR (s : List Row) (x : Str) (v : Int) : List Row := s.map fun p => if p.1 = x then (p.1, v) else p
theorem setR_fst (s : List Row) (x : Str) (v : Int) : (setR s x v).map (·.1) = s.map (·.1) := by
  unfold setR
  rw [List.map_map]
  refine List.map_congr_left fun p _ => ?_
  show (if p.1 = x then (p.1, v) else p).1 = p.1
  split <;> rfl
theorem setR_len (s : List Row) (x : Str) (v : Int) : (setR s x v).length = s.length := List.length_map _
theorem lk_setR (s : List Row) (x y : Str) (v : Int) : lk (setR s x v) y = if y = x then (lk s y).map fun _ => v else lk s y := by
  unfold setR lk
  induction s with
  | nil => simp
  | cons p s ih =>
    rw [List.map_cons, List.find?_cons, List.find?_cons]
    by_cases h : p.1 = x
    · rw [if_pos h]
      by_cases h2 : p.1 = y
      · have h3 : y = x := h2.symm.trans h
        simp [h2, h3]
      · simp only [decide_eq_false h2]
        exact ih
    · rw [if_neg h]
      by_cases h2 : p.1 = y
      · have h3 : y ≠ x := fun e => h (h2.trans e)
        simp [h2, h3]
      · simp only [decide_eq_false h2]
        exact ih
theorem putD_rows {s : List Row} {x : Str} (v : Int) (h : x ∈ s.map (·.1)) : putD (s.map fun p => ((.str p.1 : D), (.int p.2 : D))) (.inr x) (.int v) = (setR s x v).map fun p => ((.str p.1 : D), (.int p.2 : D)) := by
  unfold putD setR
  rw [if_pos]
  · rw [List.map_map, List.map_map]
    refine List.map_congr_left fun p _ => ?_
    show (if keyOf (.str p.1) = some (.inr x) then ((.str p.1 : D), (.int v : D)) else _) = _
    by_cases e : p.1 = x
    · rw [if_pos (by rw [e]; rfl)]
      show _ = ((PyData.str (if p.1 = x then (p.1, v) else p).1), (PyData.int (if p.1 = x then (p.1, v) else p).2))
      rw [if_pos e]
    · rw [if_neg (fun h => e (by injection h with h; injection h))]
      show _ = ((PyData.str (if p.1 = x then (p.1, v) else p).1), (PyData.int (if p.1 = x then (p.1, v) else p).2))
      rw [if_neg e]
  · obtain ⟨p, hp, rfl⟩ := List.mem_map.mp h
    rw [List.any_map]
    exact List.any_eq_true.mpr ⟨p, hp, decide_eq_true rfl⟩
/-! ### words -/
abbrev Wd := List Str × Int
def encW (w : Wd) : D := .tuple (w.1.map (fun x => (.str x : D)) ++ [.int w.2])
/-- the lamps that a word tells -/
def memW (ns : List Str) (gs : List Grp) : List Str → List Str
  | [k, x] => if k = "lamp" then [x] else (lkG gs x).getD []
  | _ => ns
def WdOk (ns : List Str) (gs : List Grp) (w : Wd) : Prop := w.1 = [("all" : Str)] ∨ (∃ x ∈ ns, w.1 = [("lamp" : Str), x]) ∨ ∃ g ∈ gs, w.1 = [("group" : Str), g.1]
theorem groupNe : ("group" : Str) ≠ "lamp" := by decide +kernel
theorem memW_all {ns : List Str} {gs : List Grp} {x : Str} : memW ns gs [x] = ns := rfl
theorem memW_lamp {ns : List Str} {gs : List Grp} {x : Str} : memW ns gs [("lamp" : Str), x] = [x] := by
  unfold memW
  exact if_pos rfl
theorem memW_group {ns : List Str} {gs : List Grp} {g : Grp} (hg : g ∈ gs) (hn : (gs.map (·.1)).Nodup) : memW ns gs [("group" : Str), g.1] = g.2 := by
  unfold memW
  dsimp only
  rw [if_neg groupNe, lkG_mem hg hn]
  rfl
theorem memW_sub {ns : List Str} {gs : List Grp} {w : Wd} (hw : WdOk ns gs w) (hg : ∀ g ∈ gs, g.2.Sublist ns) (hn : (gs.map (·.1)).Nodup) : (memW ns gs w.1).Sublist ns := by
  rcases hw with h | ⟨x, hx, h⟩ | ⟨g, h1, h⟩ <;> rw [h]
  · exact List.Sublist.refl _
  · rw [memW_lamp]
    exact List.singleton_sublist.mpr hx
  · rw [memW_group h1 hn]
    exact hg g h1
/-- what is heard behind one word, at a place -/
def aftW (ns : List Str) (gs : List Grp) (los : Nat → Str → Bool) (i : Nat) (w : Wd) (s : List Row) : List Row := (memW ns gs w.1).foldl (fun s x => if los i x = true then s else setR s x w.2) s
def aft (ns : List Str) (gs : List Grp) (los : Nat → Str → Bool) (ws : List Wd) (s : List Row) : List Row := ws.zipIdx.foldl (fun s q => aftW ns gs los q.2 q.1 s) s
theorem aftF_fst (los : Nat → Str → Bool) (i : Nat) (v : Int) : ∀ (l : List Str) (s : List Row), (l.foldl (fun s x => if los i x = true then s else setR s x v) s).map (·.1) = s.map (·.1)
  | [], _ => rfl
  | x :: l, s => by
    rw [List.foldl_cons, aftF_fst los i v l]
    split
    · rfl
    · exact setR_fst _ _ _
theorem aftW_fst (ns : List Str) (gs : List Grp) (los : Nat → Str → Bool) (i : Nat) (w : Wd) (s : List Row) : (aftW ns gs los i w s).map (·.1) = s.map (·.1) := aftF_fst los i w.2 _ s
theorem aft_fstz (ns : List Str) (gs : List Grp) (los : Nat → Str → Bool) : ∀ (qs : List (Wd × Nat)) (s : List Row), (qs.foldl (fun s q => aftW ns gs los q.2 q.1 s) s).map (·.1) = s.map (·.1)
  | [], _ => rfl
  | q :: qs, s => by rw [List.foldl_cons, aft_fstz ns gs los qs, aftW_fst]
theorem aft_fst (ns : List Str) (gs : List Grp) (los : Nat → Str → Bool) (ws : List Wd) (s : List Row) : (aft ns gs los ws s).map (·.1) = s.map (·.1) := aft_fstz ns gs los _ s
/-- rows read name by name are the rows -/
theorem rows_back {s : List Row} (h : (s.map (·.1)).Nodup) {β : Type} (f : Str → Int → β) : (s.map (·.1)).map (fun x => f x ((lk s x).getD 0)) = s.map fun p => f p.1 p.2 := by
  rw [List.map_map]
  refine List.map_congr_left fun p hp => ?_
  show f p.1 ((lk s p.1).getD 0) = _
  have : lk s p.1 = some p.2 := by
    have := lk_map_mem (fun q => q.2) hp h
    simpa using this
  rw [this]
  rfl
theorem lk_some_of {s : List Row} {x : Str} (h : x ∈ s.map (·.1)) : ∃ v, lk s x = some v := by
  cases e : lk s x with
  | none => exact absurd h (lk_none.mp e)
  | some v => exact ⟨v, rfl⟩
/-! ### losses -/
abbrev Los := Nat × Str
def encL (l : Los) : D := .tuple [.int (l.1 : Int), .str l.2]
def losB (ls : List Los) (i : Nat) (x : Str) : Bool := ls.contains (i, x)
theorem eqv_los (a b : Los) : PyData.eqv (encL a) (encL b) = decide (a = b) := by
  obtain ⟨i, x⟩ := a
  obtain ⟨j, y⟩ := b
  unfold encL
  rw [PyData.eqv]
  simp only [PyData.eqvAll, PyData.eqv]
  rw [Bool.eq_iff_iff]
  simp only [Bool.and_true, Bool.and_eq_true, decide_eq_true_eq, Prod.mk.injEq]
  constructor
  · rintro ⟨h1, h2⟩
    exact ⟨Int.ofNat.inj (by simpa using h1), by simpa using h2⟩
  · rintro ⟨rfl, rfl⟩
    simp
theorem any_los (ls : List Los) (a : Los) : ((ls.map encL).any fun z => PyData.eqv z (encL a)) = ls.contains a := by
  rw [List.any_map, Bool.eq_iff_iff, List.any_eq_true, List.contains_iff_mem]
  constructor
  · rintro ⟨b, hb, h⟩
    have h : PyData.eqv (encL b) (encL a) = true := h
    rw [eqv_los] at h
    obtain rfl := of_decide_eq_true h
    exact hb
  · intro h
    exact ⟨a, h, by show PyData.eqv (encL a) (encL a) = true; rw [eqv_los]; exact decide_eq_true rfl⟩
theorem los_th {l : Los} (h : TxOk l.2) : Th 1000 1 (encL l) := mem_th (fun z hz => by
  simp only [List.mem_cons, List.not_mem_nil, or_false] at hz
  rcases hz with rfl | rfl
  · exact Th.int
  · exact h.th 0) (Nat.le_of_ble_eq_true rfl)
theorem fNotIn_los {ls : List Los} {i : Nat} {x : Str} (hl : ls.length ≤ 1000) (h : ∀ l ∈ ls, TxOk l.2) (hx : TxOk x) : fNotIn (.tuple [.int (i : Int), .str x]) (.tuple (ls.map encL)) = some (.bool (!losB ls i x)) := by
  have h1 : Th 1000 1 (encL (i, x)) := los_th hx
  have h2 : Th 1000 2 (.tuple (ls.map encL)) := mem_th (fun d hd => by
    obtain ⟨l, hl, rfl⟩ := List.mem_map.mp hd
    exact los_th (h l hl)) (by rw [List.length_map]; exact hl)
  show fNotIn (encL (i, x)) _ = _
  unfold fNotIn inD
  dsimp only
  rw [if_pos ⟨h1.shaped (by decide), h2.shaped (by decide)⟩, any_los]
  rfl
theorem fNotIn_losL {ls : List Los} {i : Nat} {x : Str} (hl : ls.length ≤ 1000) (h : ∀ l ∈ ls, TxOk l.2) (hx : TxOk x) : fNotIn (.tuple [.int (i : Int), .str x]) (.list (ls.map encL)) = some (.bool (!losB ls i x)) := by
  have h1 : Th 1000 1 (encL (i, x)) := los_th hx
  have h2 : Th 1000 2 (.list (ls.map encL)) := th_list (mem_th (fun d hd => by
    obtain ⟨l, hl, rfl⟩ := List.mem_map.mp hd
    exact los_th (h l hl)) (by rw [List.length_map]; exact hl))
  show fNotIn (encL (i, x)) _ = _
  unfold fNotIn inD
  dsimp only
  rw [if_pos ⟨h1.shaped (by decide), h2.shaped (by decide)⟩, any_los]
  rfl
/-! ### what the defs read -/
theorem nmD_eq (s : List Row) : nmD s = (s.map (·.1)).map fun x => (.str x : D) := by
  unfold nmD
  rw [List.map_map]
  rfl
theorem pairsK_prs {β : Type} (f : β → D) : ∀ s : List (Str × β), pairsK (s.map fun p => (.tuple [.str p.1, f p.2] : D)) = some (s.map fun p => (.inr p.1, f p.2))
  | [] => rfl
  | p :: s => by
    show (match pairK (.tuple [.str p.1, f p.2]), pairsK (s.map fun p => (.tuple [.str p.1, f p.2] : D)) with
      | some p, some ps => some (p :: ps)
      | _, _ => none) = _
    rw [pairsK_prs f s]
    rfl
theorem dDict_prs {β : Type} (f : β → D) {s : List (Str × β)} (h : (s.map (·.1)).Nodup) : dDict (.tuple (s.map fun p => (.tuple [.str p.1, f p.2] : D))) = some (.dict (s.map fun p => ((.str p.1 : D), f p.2))) := by
  show (pairsK _).map _ = _
  rw [pairsK_prs, Option.map_some, mergeD_nodup]
  · simp [List.map_map, Function.comp_def]
    intro a b _
    rfl
  · rw [List.map_map]
    have h2 : (s.map ((fun p : Key × D => p.1) ∘ fun p : Str × β => ((.inr p.1 : Key), f p.2))) = (s.map (·.1)).map .inr := by rw [List.map_map]; rfl
    rw [h2]
    exact List.Pairwise.map _ (fun a b hab e => hab (Sum.inr.inj e)) h
  · intro p _ q hq
    cases hq
theorem dDict_grps {gs : List Grp} (h : (gs.map (·.1)).Nodup) : dDict (.tuple (gs.map encG)) = some (.dict (gs.map fun g => ((.str g.1 : D), (.tuple (g.2.map PyData.str) : D)))) := dDict_prs encSs h
theorem dIdx_grps {gs : List Grp} {x : Str} : dIdx (.dict (gs.map fun g => ((.str g.1 : D), (.tuple (g.2.map PyData.str) : D)))) (.str x) = (lkG gs x).map fun l => .tuple (l.map PyData.str) := by
  show (if okK _ = true then lookK _ _ else none) = _
  exact (if_pos (okK_gen encSs gs)).trans (lookK_gen encSs x gs)
theorem fEqW : fEq (.str "all") (.str "all") = some (.bool true) ∧ fEq (.str "lamp") (.str "all") = some (.bool false) ∧ fEq (.str "group") (.str "all") = some (.bool false) ∧ fEq (.str "lamp") (.str "lamp") = some (.bool true) ∧ fEq (.str "group") (.str "lamp") = some (.bool false) := by
  obtain ⟨t1, t2, t3⟩ := txHeads
  refine ⟨?_, ?_, ?_, ?_, ?_⟩
  · rw [fEq_ss t1 t1, decide_eq_true rfl]
  · rw [fEq_ss t2 t1, decide_eq_false (by decide +kernel)]
  · rw [fEq_ss t3 t1, decide_eq_false (by decide +kernel)]
  · rw [fEq_ss t2 t2, decide_eq_true rfl]
  · rw [fEq_ss t3 t2, decide_eq_false (by decide +kernel)]
theorem dIdx_wlast {w : Wd} : dIdx (encW w) (.int (-1)) = some (.int w.2) := by
  show atI _ (-1) = _
  unfold atI ixN
  have h1 : ((-1 : Int) + ((w.1.length : Int) + 1)).toNat = w.1.length := by omega
  have h2 : (1 : Int) ≤ (w.1.length : Int) + 1 := by omega
  simp [h1, h2]
theorem memW_in {ns : List Str} {gs : List Grp} {w : Wd} (hw : WdOk ns gs w) (hg : ∀ g ∈ gs, ∀ x ∈ g.2, x ∈ ns) (hn : (gs.map (·.1)).Nodup) : ∀ x ∈ memW ns gs w.1, x ∈ ns := by
  rcases hw with h | ⟨x, hx, h⟩ | ⟨g, h1, h⟩ <;> rw [h]
  · exact fun x hx => hx
  · rw [memW_lamp]
    intro y hy
    obtain rfl := List.mem_singleton.mp hy
    exact hx
  · rw [memW_group h1 hn]
    exact hg g h1
theorem headsS_ok {L : List Row} {gs : List Grp} {h : List Str} (hh : h ∈ headsS L gs) (v : Int) : WdOk (L.map (·.1)) gs (h, v) := by
  unfold headsS at hh
  rcases List.mem_append.mp hh with hh | hh
  · rcases List.mem_append.mp hh with hh | hh
    · exact .inl (List.mem_singleton.mp hh)
    · obtain ⟨p, hp, rfl⟩ := List.mem_map.mp hh
      exact .inr (.inl ⟨p.1, List.mem_map_of_mem (f := fun p : Row => p.1) hp, rfl⟩)
  · obtain ⟨g, hg, rfl⟩ := List.mem_map.mp hh
    exact .inr (.inr ⟨g, hg, rfl⟩)
/-- levels of all lamps, of few -/
structure HdT (ns : List Str) (s : List Row) : Prop where
  nm : s.map (·.1) = ns
  lv : ∀ p ∈ s, p.2 = 0 ∨ p.2 = 50 ∨ p.2 = 100
theorem RsOk.of_fst {s r : List Row} (h : RsOk s) (e : r.map (·.1) = s.map (·.1)) : RsOk r := by
  refine ⟨?_, fun p hp => ?_, by rw [e]; exact h.nd⟩
  · have := congrArg List.length e
    rw [List.length_map, List.length_map] at this
    rw [this]
    exact h.len
  · have : p.1 ∈ s.map (·.1) := by
      rw [← e]
      exact List.mem_map_of_mem (f := fun p : Row => p.1) hp
    obtain ⟨q, hq, e2⟩ := List.mem_map.mp this
    rw [← e2]
    exact h.tx q hq
theorem GrT.memN {L : List Row} {gs : List Grp} (h : GrT L gs) : ∀ g ∈ gs, ∀ x ∈ g.2, x ∈ L.map (·.1) := fun g hg x hx => (h.mem g hg).2.subset hx
end FL
end L2

/-! M11: dicts with keys of any kind, as data; lots and looks -/
namespace L2
namespace FL
open PySem
/-! ### keyed dicts as data -/
section
variable {α β : Type} [DecidableEq α] (κ : α → D) (ν : α → NestedKey) (hν : ∀ a, nkT (κ a) = some (ν a)) (inj : ∀ a b, ν a = ν b → a = b) (f : β → D)
def lkA (s : List (α × β)) (a : α) : Option β := (s.find? fun p => decide (p.1 = a)).map (·.2)
def putA (s : List (α × β)) (a : α) (b : β) : List (α × β) := if (lkA s a).isSome = true then s.map (fun p => if p.1 = a then (p.1, b) else p) else s ++ [(a, b)]
include hν inj in
theorem nk_dec (a b : α) : decide (nkOf (κ a) = some (ν b)) = decide (a = b) := by
  rw [(nkT_of (hν a)).2.1]
  refine decide_eq_decide.mpr ⟨fun h => inj _ _ (Option.some.inj h), fun h => by rw [h]⟩
include hν inj in
theorem lookN_gen (a : α) : ∀ s : List (α × β), lookN (s.map fun p => (κ p.1, f p.2)) (ν a) = (lkA s a).map f
  | [] => rfl
  | p :: s => by
    have ih := lookN_gen a s
    unfold lookN lkA at ih ⊢
    rw [List.map_cons, List.find?_cons, List.find?_cons]
    dsimp only
    rw [nk_dec κ ν hν inj]
    cases decide (p.1 = a) with
    | true => rfl
    | false => exact ih
include hν inj in
theorem putN_gen (s : List (α × β)) (a : α) (b : β) : putN (s.map fun p => (κ p.1, f p.2)) (κ a) (ν a) (f b) = (putA s a b).map fun p => (κ p.1, f p.2) := by
  unfold putN putA
  rw [lookN_gen κ ν hν inj, Option.isSome_map]
  split
  · rw [List.map_map, List.map_map]
    refine List.map_congr_left fun p _ => ?_
    show (if nkOf (κ p.1) = some (ν a) then (κ p.1, f b) else (κ p.1, f p.2)) = (κ (if p.1 = a then (p.1, b) else p).1, f (if p.1 = a then (p.1, b) else p).2)
    have := nk_dec κ ν hν inj p.1 a
    by_cases h : p.1 = a
    · rw [if_pos h, if_pos (of_decide_eq_true (this.trans (decide_eq_true h)))]
    · rw [if_neg h, if_neg (of_decide_eq_false (this.trans (decide_eq_false h)))]
  · rw [List.map_append]
    rfl
theorem lkA_mem {s : List (α × β)} {a : α} {b : β} (h : lkA s a = some b) : (a, b) ∈ s := by
  unfold lkA at h
  obtain ⟨p, h1, h2⟩ := Option.map_eq_some_iff.mp h
  have h3 : p.1 = a := of_decide_eq_true (List.find?_some (p := fun p : α × β => decide (p.1 = a)) h1)
  have h4 := List.mem_of_find?_eq_some h1
  rw [← h3, ← h2]
  exact h4
theorem lkA_none {s : List (α × β)} {a : α} : lkA s a = none ↔ a ∉ s.map (·.1) := by
  unfold lkA
  rw [Option.map_eq_none_iff, List.find?_eq_none]
  simp only [decide_eq_true_eq, List.mem_map, not_exists, not_and]
theorem lkA_some {s : List (α × β)} {a : α} (h : a ∈ s.map (·.1)) : ∃ b, lkA s a = some b := by
  cases e : lkA s a with
  | none => exact absurd h (lkA_none.mp e)
  | some b => exact ⟨b, rfl⟩
theorem lkA_nodup {s : List (α × β)} {a : α} {b : β} (h : (s.map (·.1)).Nodup) (hm : (a, b) ∈ s) : lkA s a = some b := by
  unfold lkA
  induction s with
  | nil => cases hm
  | cons q s ih =>
    rw [List.map_cons, List.nodup_cons] at h
    rw [List.find?_cons]
    by_cases e : q.1 = a
    · rw [decide_eq_true e]
      rcases List.mem_cons.mp hm with rfl | h2
      · rfl
      · exact absurd (List.mem_map.mpr ⟨_, h2, e.symm⟩) h.1
    · rw [decide_eq_false e]
      rcases List.mem_cons.mp hm with rfl | h2
      · exact absurd rfl e
      · exact ih h.2 h2
theorem putA_mem {s : List (α × β)} {a : α} {b : β} {p : α × β} (h : p ∈ putA s a b) : p = (a, b) ∨ (p ∈ s ∧ p.1 ≠ a) := by
  unfold putA at h
  split at h
  · obtain ⟨q, hq, rfl⟩ := List.mem_map.mp h
    by_cases e : q.1 = a
    · rw [if_pos e, e]; exact .inl rfl
    · rw [if_neg e]; exact .inr ⟨hq, e⟩
  · rename_i hn
    rcases List.mem_append.mp h with h | h
    · refine .inr ⟨h, fun e => hn ?_⟩
      obtain ⟨b, hb⟩ := lkA_some (s := s) (a := a) (List.mem_map.mpr ⟨p, h, e⟩)
      rw [hb]; rfl
    · exact .inl (List.mem_singleton.mp h)
theorem putA_nodup {s : List (α × β)} {a : α} {b : β} (h : (s.map (·.1)).Nodup) : ((putA s a b).map (·.1)).Nodup := by
  unfold putA
  split
  · rw [List.map_map]
    have : (s.map ((fun p : α × β => p.1) ∘ fun p => if p.1 = a then (p.1, b) else p)) = s.map (·.1) := List.map_congr_left fun p _ => by
      show (if p.1 = a then (p.1, b) else p).1 = p.1
      split <;> rfl
    rw [this]
    exact h
  · rename_i hn
    rw [List.map_append]
    refine List.nodup_append.mpr ⟨h, by simp, fun x hx y hy => ?_⟩
    have hy : y = a := List.mem_singleton.mp hy
    subst hy
    rintro rfl
    obtain ⟨b, hb⟩ := lkA_some hx
    rw [hb] at hn
    exact hn rfl
theorem putA_same (s : List (α × β)) (a : α) (b : β) : lkA (putA s a b) a = some b := by
  unfold putA
  split
  · rename_i hs
    obtain ⟨c, hc⟩ := Option.isSome_iff_exists.mp hs
    have hm := lkA_mem hc
    unfold lkA
    clear hs hc
    induction s with
    | nil => cases hm
    | cons q s ih =>
      rw [List.map_cons, List.find?_cons]
      by_cases e : q.1 = a
      · rw [if_pos e]; simp [e]
      · rw [if_neg e, decide_eq_false e]
        rcases List.mem_cons.mp hm with rfl | h2
        · exact absurd rfl e
        · exact ih h2
  · rename_i hn
    have hnone : lkA s a = none := by
      cases e : lkA s a with
      | none => rfl
      | some c => rw [e] at hn; exact absurd rfl hn
    unfold lkA at hnone ⊢
    rw [List.find?_append]
    rw [Option.map_eq_none_iff] at hnone
    rw [hnone]
    simp
theorem putA_other (s : List (α × β)) {a c : α} (b : β) (h : c ≠ a) : lkA (putA s a b) c = lkA s c := by
  unfold putA
  split
  · unfold lkA
    induction s with
    | nil => rfl
    | cons q s ih =>
      rename_i hs
      rw [List.map_cons, List.find?_cons, List.find?_cons]
      by_cases e : q.1 = a
      · rw [if_pos e]
        have : q.1 ≠ c := fun z => h (z.symm.trans e)
        simp only [decide_eq_false this]
        by_cases hs2 : (lkA s a).isSome = true
        · exact ih hs2
        · clear ih
          have hn : a ∉ s.map (·.1) := lkA_none.mp (by cases z : lkA s a with | none => rfl | some _ => rw [z] at hs2; exact absurd rfl hs2)
          congr 2
          refine (List.map_congr_left fun p hp => ?_).trans (List.map_id s)
          have : p.1 ≠ a := fun z => hn (List.mem_map.mpr ⟨p, hp, z⟩)
          rw [if_neg this]
          rfl
      · rw [if_neg e]
        by_cases e2 : q.1 = c
        · simp [e2]
        · simp only [decide_eq_false e2]
          refine ih ?_
          have hs : (lkA (q :: s) a).isSome = true := hs
          unfold lkA at hs ⊢
          rw [List.find?_cons, decide_eq_false e] at hs
          exact hs
  · unfold lkA
    rw [List.find?_append]
    have : ([(a, b)].find? fun p : α × β => decide (p.1 = c)) = none := by
      rw [List.find?_cons, decide_eq_false (fun z : a = c => h z.symm)]
      rfl
    rw [this, Option.or_none]
end
theorem nodup_len {α : Type} [DecidableEq α] : ∀ {l m : List α}, l.Nodup → (∀ x ∈ l, x ∈ m) → l.length ≤ m.length
  | [], _, _, _ => Nat.zero_le _
  | x :: l, m, h, hs => by
    rw [List.nodup_cons] at h
    have hx := hs x List.mem_cons_self
    have := nodup_len (l := l) (m := m.erase x) h.2 fun y hy => (List.mem_erase_of_ne (fun e => h.1 (by rw [← e]; exact hy))).mpr (hs y (List.mem_cons_of_mem _ hy))
    rw [List.length_erase_of_mem hx] at this
    have : 0 < m.length := List.length_pos_of_mem hx
    rw [List.length_cons]
    omega
/-- tuples of texts as keys -/
def keyS (l : List Str) : NestedKey := .tup (l.map .text)
theorem nks_strs : ∀ l : List Str, nksOf (l.map fun x => (.str x : D)) = some (l.map NestedKey.text)
  | [] => rfl
  | x :: l => by
    rw [List.map_cons, nksOf, nks_strs l]
    rfl
theorem depth_texts : ∀ l : List Str, NestedKey.depthAll (l.map NestedKey.text) = 0
  | [] => rfl
  | x :: l => by
    rw [List.map_cons, NestedKey.depthAll, depth_texts l]
    rfl
theorem nkT_strs (l : List Str) : nkT (.tuple (l.map fun x => (.str x : D))) = some (keyS l) := by
  have h1 : nkOf (.tuple (l.map fun x => (.str x : D))) = some (.tup (l.map NestedKey.text)) := by
    rw [nkOf, nks_strs]
    rfl
  have h2 : (NestedKey.tup (l.map NestedKey.text)).depth ≤ 8 := by
    rw [NestedKey.depth, depth_texts]
    decide
  have h3 : isTupD (.tuple (l.map fun x => (.str x : D))) = true := rfl
  unfold nkT keyS
  simp only [h1, h2, h3, if_true]
theorem keyS_inj (a b : List Str) (h : keyS a = keyS b) : a = b := by
  unfold keyS at h
  injection h with h
  exact (List.map_inj_right fun x y h => by injection h).mp h
abbrev strsD (l : List Str) : D := .tuple (l.map fun x => (.str x : D))
theorem fNotIn_kd {x : D} {k : NestedKey} {kvs : List (D × D)} (h : nkT x = some k) : fNotIn x (.dict ((.bool true, .none) :: kvs)) = some (.bool !(lookN kvs k).isSome) := by
  obtain ⟨⟨l, rfl⟩, _, _⟩ := nkT_of h
  unfold fNotIn inD
  simp [keyOf, h]
theorem fIn_kd {x : D} {k : NestedKey} {kvs : List (D × D)} (h : nkT x = some k) : fIn x (.dict ((.bool true, .none) :: kvs)) = some (.bool (lookN kvs k).isSome) := by
  obtain ⟨⟨l, rfl⟩, _, _⟩ := nkT_of h
  unfold fIn inD
  simp [keyOf, h]
/-! ### texts in lists and tuples -/
theorem any_strs (l : List Str) (x : Str) : ((l.map fun x => (.str x : D)).any fun z => PyData.eqv z (.str x)) = l.contains x := by
  rw [List.any_map, Bool.eq_iff_iff, List.any_eq_true, List.contains_iff_mem]
  constructor
  · rintro ⟨b, hb, h⟩
    have h : PyData.eqv (.str b) (.str x) = true := h
    rw [eqv_str] at h
    obtain rfl := of_decide_eq_true h
    exact hb
  · intro h
    exact ⟨x, h, by show PyData.eqv (.str x) (.str x) = true; rw [eqv_str]; exact decide_eq_true rfl⟩
structure SsOk (l : List Str) : Prop where
  len : l.length ≤ 1000
  tx : ∀ x ∈ l, TxOk x
theorem SsOk.th {l : List Str} (h : SsOk l) : Th 1000 1 (strsD l) := sss_th h.len h.tx
theorem SsOk.thL {l : List Str} (h : SsOk l) : Th 1000 1 (.list (l.map fun x => (.str x : D))) := strs_th h.len h.tx
theorem SsOk.sub {l m : List Str} (h : SsOk l) (s : m.Sublist l) : SsOk m := ⟨Nat.le_trans s.length_le h.len, fun x hx => h.tx x (s.subset hx)⟩
theorem fIn_strsT {l : List Str} {x : Str} (h : SsOk l) (hx : TxOk x) : fIn (.str x) (.tuple (l.map fun x => (.str x : D))) = some (.bool (l.contains x)) := by
  unfold fIn inD
  dsimp only
  rw [if_pos ⟨(hx.th 1).shaped (by decide), h.th.shaped (by decide)⟩, any_strs]
  rfl
theorem fNotIn_strsT {l : List Str} {x : Str} (h : SsOk l) (hx : TxOk x) : fNotIn (.str x) (.tuple (l.map fun x => (.str x : D))) = some (.bool (!l.contains x)) := by
  unfold fNotIn inD
  dsimp only
  rw [if_pos ⟨(hx.th 1).shaped (by decide), h.th.shaped (by decide)⟩, any_strs]
  rfl
theorem fIn_strsL {l : List Str} {x : Str} (h : SsOk l) (hx : TxOk x) : fIn (.str x) (.list (l.map fun x => (.str x : D))) = some (.bool (l.contains x)) := by
  unfold fIn inD
  dsimp only
  rw [if_pos ⟨(hx.th 1).shaped (by decide), h.thL.shaped (by decide)⟩, any_strs]
  rfl
theorem fNotIn_strsL {l : List Str} {x : Str} (h : SsOk l) (hx : TxOk x) : fNotIn (.str x) (.list (l.map fun x => (.str x : D))) = some (.bool (!l.contains x)) := by
  unfold fNotIn inD
  dsimp only
  rw [if_pos ⟨(hx.th 1).shaped (by decide), h.thL.shaped (by decide)⟩, any_strs]
  rfl
theorem eqvAll_strs : ∀ a b : List Str, PyData.eqvAll (a.map fun x => (.str x : D)) (b.map fun x => (.str x : D)) = decide (a = b)
  | [], [] => by simp [PyData.eqvAll]
  | [], _ :: _ => by simp [PyData.eqvAll]
  | _ :: _, [] => by simp [PyData.eqvAll]
  | x :: a, y :: b => by
    rw [List.map_cons, List.map_cons, PyData.eqvAll, eqvAll_strs a b, eqv_str, Bool.eq_iff_iff]
    simp
theorem eqv_strsT (a b : List Str) : PyData.eqv (strsD a) (strsD b) = decide (a = b) := by
  unfold strsD
  rw [PyData.eqv, eqvAll_strs]
theorem fEq_strsT {a b : List Str} (ha : SsOk a) (hb : SsOk b) : fEq (.tuple (a.map fun x => (.str x : D))) (.tuple (b.map fun x => (.str x : D))) = some (.bool (decide (a = b))) := by
  unfold fEq
  rw [if_pos ⟨ha.th.shaped (by decide), hb.th.shaped (by decide)⟩]
  exact congrArg (fun z => some (PyData.bool z)) (eqv_strsT a b)
theorem fEq_T0 {a : List Str} (ha : SsOk a) : fEq (.tuple (a.map fun x => (.str x : D))) (.tuple []) = some (.bool a.isEmpty) := by
  rw [show (PyData.tuple []) = .tuple (([] : List Str).map fun x => (.str x : D)) from rfl, fEq_strsT ha ⟨by decide, by simp⟩]
  cases a <;> rfl
theorem fNe_T0 {a : List Str} (ha : SsOk a) : fNe (.tuple (a.map fun x => (.str x : D))) (.tuple []) = some (.bool !a.isEmpty) := by
  have h0 : SsOk ([] : List Str) := ⟨by decide, by simp⟩
  rw [show (PyData.tuple []) = .tuple (([] : List Str).map fun x => (.str x : D)) from rfl]
  unfold fNe
  rw [if_pos ⟨ha.th.shaped (by decide), h0.th.shaped (by decide)⟩]
  refine congrArg (fun z => some (PyData.bool !z)) ((eqv_strsT a []).trans ?_)
  cases a <;> rfl
theorem fEq_bb (a b : Bool) : fEq (.bool a) (.bool b) = some (.bool (a == b)) := by
  cases a <;> cases b <;> rfl
theorem fNe_bb (a b : Bool) : fNe (.bool a) (.bool b) = some (.bool (!(a == b))) := by
  cases a <;> cases b <;> rfl
/-! ### lots -/
def alB (gs : List Grp) (x y : Str) : Bool := gs.all fun g => g.2.contains x == g.2.contains y
def oneB (gs : List Grp) (l : List Str) : Bool := match l with
  | [] => true
  | x :: r => (x :: r).all (alB gs x)
def inP (s l : List Str) : List Str := l.filter fun x => s.contains x
def outP (s l : List Str) : List Str := l.filter fun x => !s.contains x
theorem alB_refl (gs : List Grp) (x : Str) : alB gs x x = true := List.all_eq_true.mpr fun g _ => beq_self_eq_true _
theorem alB_iff {gs : List Grp} {x y : Str} : alB gs x y = true ↔ ∀ g ∈ gs, g.2.contains x = g.2.contains y := by
  unfold alB
  rw [List.all_eq_true]
  exact ⟨fun h g hg => eq_of_beq (h g hg), fun h g hg => beq_iff_eq.mpr (h g hg)⟩
theorem alB_symm {gs : List Grp} {x y : Str} (h : alB gs x y = true) : alB gs y x = true := alB_iff.mpr fun g hg => (alB_iff.mp h g hg).symm
theorem alB_trans {gs : List Grp} {x y z : Str} (h : alB gs x y = true) (h' : alB gs y z = true) : alB gs x z = true := alB_iff.mpr fun g hg => (alB_iff.mp h g hg).trans (alB_iff.mp h' g hg)
theorem oneB_iff {gs : List Grp} {l : List Str} : oneB gs l = true ↔ ∀ x ∈ l, ∀ y ∈ l, alB gs x y = true := by
  cases l with
  | nil => simp [oneB]
  | cons a r =>
    unfold oneB
    rw [List.all_eq_true]
    exact ⟨fun h x hx y hy => alB_trans (alB_symm (h x hx)) (h y hy), fun h y hy => h a List.mem_cons_self y hy⟩
theorem filt_len (p : Str → Bool) : ∀ l : List Str, l.length = (l.filter p).length + (l.filter fun x => !p x).length
  | [] => rfl
  | x :: l => by
    have := filt_len p l
    cases h : p x <;> simp [h] <;> omega
theorem inP_len {s l : List Str} (h : outP s l ≠ []) : (inP s l).length < l.length := by
  unfold inP outP at *
  have h1 := filt_len (fun x => s.contains x) l
  have h2 : 0 < (l.filter fun x => !s.contains x).length := List.length_pos_iff.mpr h
  omega
theorem outP_len {s l : List Str} (h : inP s l ≠ []) : (outP s l).length < l.length := by
  unfold inP outP at *
  have h1 := filt_len (fun x => s.contains x) l
  have h2 : 0 < (l.filter fun x => s.contains x).length := List.length_pos_iff.mpr h
  omega
theorem split_of {gs : List Grp} {l : List Str} (h : oneB gs l = false) : ∃ g ∈ gs, inP g.2 l ≠ [] ∧ outP g.2 l ≠ [] := by
  refine Classical.byContradiction fun hn => ?_
  have : oneB gs l = true := oneB_iff.mpr fun x hx y hy => alB_iff.mpr fun g hg => ?_
  · rw [h] at this; cases this
  · refine Classical.byContradiction fun hne => hn ⟨g, hg, ?_⟩
    have mk : ∀ {a b : Str}, a ∈ l → b ∈ l → g.2.contains a = true → g.2.contains b = false → inP g.2 l ≠ [] ∧ outP g.2 l ≠ [] := fun {a b} ha hb h1 h2 =>
      ⟨List.ne_nil_of_mem (List.mem_filter.mpr ⟨ha, h1⟩), List.ne_nil_of_mem (List.mem_filter.mpr ⟨hb, by rw [h2]; rfl⟩)⟩
    cases h1 : g.2.contains x with
    | true =>
      cases h2 : g.2.contains y with
      | true => exact absurd (h1.trans h2.symm) hne
      | false => exact mk hx hy h1 h2
    | false =>
      cases h2 : g.2.contains y with
      | true => exact mk hy hx h2 h1
      | false => exact absurd (h1.trans h2.symm) hne
/-! how many looks -/
def rowF (f : List Str → Nat) (l : List Str) (g : Grp) : Option Nat := if inP g.2 l ≠ [] ∧ outP g.2 l ≠ [] then some (1 + max (f (inP g.2 l)) (f (outP g.2 l))) else none
def minL : List Nat → Nat
  | [] => 0
  | a :: r => r.foldl min a
def need (gs : List Grp) : Nat → List Str → Nat
  | 0, _ => 0
  | n + 1, l => if oneB gs l = true then 0 else minL (gs.filterMap (rowF (need gs n) l))
theorem rowF_congr {f g : List Str → Nat} {l : List Str} (h : ∀ m : List Str, m.length < l.length → f m = g m) (p : Grp) : rowF f l p = rowF g l p := by
  unfold rowF
  split
  · rename_i hh
    rw [h _ (inP_len hh.2), h _ (outP_len hh.1)]
  · rfl
theorem need_stable (gs : List Grp) : ∀ {n m : Nat} {l : List Str}, l.length ≤ n → l.length ≤ m → need gs n l = need gs m l
  | 0, 0, _, _, _ => rfl
  | 0, m + 1, l, h, _ => by
    obtain rfl := List.eq_nil_of_length_eq_zero (Nat.le_zero.mp h)
    rfl
  | n + 1, 0, l, _, h => by
    obtain rfl := List.eq_nil_of_length_eq_zero (Nat.le_zero.mp h)
    rfl
  | n + 1, m + 1, l, h1, h2 => by
    unfold need
    have : gs.filterMap (rowF (need gs n) l) = gs.filterMap (rowF (need gs m) l) := by
      congr 1
      funext p
      exact rowF_congr (fun k hk => need_stable gs (by omega) (by omega)) p
    rw [this]
def needL (gs : List Grp) (l : List Str) : Nat := need gs l.length l
theorem needL_eq (gs : List Grp) (l : List Str) : needL gs l = if oneB gs l = true then 0 else minL (gs.filterMap (rowF (needL gs) l)) := by
  show need gs l.length l = _
  rw [need_stable gs (Nat.le_refl _) (Nat.le_succ _)]
  unfold need
  have : gs.filterMap (rowF (need gs l.length) l) = gs.filterMap (rowF (needL gs) l) := by
    congr 1
    funext p
    exact rowF_congr (fun k hk => need_stable gs (by omega) (Nat.le_refl _)) p
  rw [this]
theorem foldl_min_le : ∀ (r : List Nat) (a : Nat), r.foldl min a ≤ a ∧ ∀ x ∈ r, r.foldl min a ≤ x
  | [], a => ⟨Nat.le_refl _, by simp⟩
  | b :: r, a => by
    rw [List.foldl_cons]
    obtain ⟨h1, h2⟩ := foldl_min_le r (min a b)
    refine ⟨Nat.le_trans h1 (Nat.min_le_left _ _), fun x hx => ?_⟩
    rcases List.mem_cons.mp hx with rfl | hx
    · exact Nat.le_trans h1 (Nat.min_le_right _ _)
    · exact h2 x hx
theorem foldl_min_in : ∀ (r : List Nat) (a : Nat), r.foldl min a = a ∨ r.foldl min a ∈ r
  | [], a => .inl rfl
  | b :: r, a => by
    rw [List.foldl_cons]
    rcases foldl_min_in r (min a b) with h | h
    · rw [h]
      by_cases hab : a ≤ b
      · exact .inl (Nat.min_eq_left hab)
      · exact .inr (by rw [Nat.min_eq_right (by omega)]; exact List.mem_cons_self)
    · exact .inr (List.mem_cons_of_mem _ h)
theorem minL_le {r : List Nat} {x : Nat} (h : x ∈ r) : minL r ≤ x := by
  cases r with
  | nil => cases h
  | cons a r =>
    rcases List.mem_cons.mp h with rfl | h
    · exact (foldl_min_le r x).1
    · exact (foldl_min_le r a).2 x h
theorem minL_in {r : List Nat} (h : r ≠ []) : minL r ∈ r := by
  cases r with
  | nil => exact absurd rfl h
  | cons a r =>
    rcases foldl_min_in r a with h | h
    · show r.foldl min a ∈ a :: r
      rw [h]; exact List.mem_cons_self
    · exact List.mem_cons_of_mem _ h
theorem rows_ne {gs : List Grp} {l : List Str} (f : List Str → Nat) (h : oneB gs l = false) : gs.filterMap (rowF f l) ≠ [] := by
  obtain ⟨g, hg, h1, h2⟩ := split_of h
  refine List.ne_nil_of_mem (a := 1 + max (f (inP g.2 l)) (f (outP g.2 l))) (List.mem_filterMap.mpr ⟨g, hg, ?_⟩)
  unfold rowF
  rw [if_pos ⟨h1, h2⟩]
theorem needL_one {gs : List Grp} {l : List Str} (h : oneB gs l = true) : needL gs l = 0 := by rw [needL_eq, if_pos h]
theorem needL_le {gs : List Grp} {l : List Str} {g : Grp} (hg : g ∈ gs) (h1 : inP g.2 l ≠ []) (h2 : outP g.2 l ≠ []) : needL gs l ≤ 1 + max (needL gs (inP g.2 l)) (needL gs (outP g.2 l)) := by
  rw [needL_eq gs l]
  split
  · exact Nat.zero_le _
  · refine minL_le (List.mem_filterMap.mpr ⟨g, hg, ?_⟩)
    unfold rowF
    rw [if_pos ⟨h1, h2⟩]
theorem needL_at {gs : List Grp} {l : List Str} (h : oneB gs l = false) : ∃ g ∈ gs, inP g.2 l ≠ [] ∧ outP g.2 l ≠ [] ∧ needL gs l = 1 + max (needL gs (inP g.2 l)) (needL gs (outP g.2 l)) := by
  have h1 := minL_in (rows_ne (needL gs) h)
  obtain ⟨g, hg, h2⟩ := List.mem_filterMap.mp h1
  unfold rowF at h2
  split at h2
  · rename_i hh
    refine ⟨g, hg, hh.1, hh.2, ?_⟩
    rw [needL_eq, if_neg (by rw [h]; exact Bool.false_ne_true)]
    exact (Option.some.inj h2).symm
  · cases h2
theorem needL_lt (gs : List Grp) : ∀ {n : Nat} {l : List Str}, l.length ≤ n → l ≠ [] → needL gs l < l.length
  | 0, l, h, hn => absurd (List.eq_nil_of_length_eq_zero (Nat.le_zero.mp h)) hn
  | n + 1, l, h, hn => by
    have hp : 0 < l.length := List.length_pos_iff.mpr hn
    cases h1 : oneB gs l with
    | true => rw [needL_one h1]; exact hp
    | false =>
      obtain ⟨g, hg, h2, h3, e⟩ := needL_at h1
      have l1 := inP_len h3
      have l2 := outP_len h2
      have := needL_lt gs (n := n) (by omega) h2
      have := needL_lt gs (n := n) (by omega) h3
      omega
end FL
end L2

/-! M12: plans of looks -/
namespace L2
namespace FL
open PySem
inductive Plan where
  | fnd (l : List Str)
  | look (g : Str) (y n : Plan)
def encPl : Plan → D
  | .fnd l => .tuple [.str "found", .tuple (l.map fun x => (.str x : D))]
  | .look g y n => .tuple [.str "look", .str g, encPl y, encPl n]
def depPl : Plan → Nat
  | .fnd _ => 0
  | .look _ y n => max (depPl y) (depPl n) + 1
def PlOk (ns : List Str) (gs : List Grp) : Plan → Prop
  | .fnd l => (∀ x ∈ l, x ∈ ns) ∧ riseB (l.map fun x => (.str x : D)) = true
  | .look g y n => g ∈ gs.map (·.1) ∧ PlOk ns gs y ∧ PlOk ns gs n
open Classical in
noncomputable def plD (ns : List Str) (gs : List Grp) (d : D) : Bool := decide (∃ p, d = encPl p ∧ PlOk ns gs p)
theorem plD_iff {ns : List Str} {gs : List Grp} {d : D} : plD ns gs d = true ↔ ∃ p, d = encPl p ∧ PlOk ns gs p := by
  unfold plD
  simp
theorem plD_eq {ns : List Str} {gs : List Grp} {d : D} {b : Bool} (h : (∃ p, d = encPl p ∧ PlOk ns gs p) ↔ b = true) : plD ns gs d = b := by
  cases b with
  | true => exact plD_iff.mpr (h.mpr rfl)
  | false =>
    cases e : plD ns gs d with
    | false => rfl
    | true => exact absurd (h.mp (plD_iff.mp e)) Bool.false_ne_true
theorem plD_no {ns : List Str} {gs : List Grp} {d : D} (h : ∀ p, d ≠ encPl p) : plD ns gs d = false := plD_eq ⟨fun ⟨p, e, _⟩ => absurd e (h p), fun z => nomatch z⟩
theorem encPl_len {p : Plan} {ds : List D} (h : .tuple ds = encPl p) : ds.length = 2 ∨ ds.length = 4 := by
  cases p <;> (unfold encPl at h; injection h with h; rw [h])
  · exact .inl rfl
  · exact .inr rfl
def toldB (ns : List Str) : D → Bool
  | .tuple ds => ds.all (strIn (ns.map fun x => (.str x : D))) && riseB ds
  | _ => false
theorem inB_strs (ns : List Str) (x : Str) : inB (.str x) (ns.map fun x => (.str x : D)) = ns.contains x := any_strs ns x
theorem toldB_iff {ns : List Str} {d : D} : toldB ns d = true ↔ ∃ l : List Str, d = .tuple (l.map fun x => (.str x : D)) ∧ (∀ x ∈ l, x ∈ ns) ∧ riseB (l.map fun x => (.str x : D)) = true := by
  constructor
  · intro h
    unfold toldB at h
    split at h
    · rename_i ds
      obtain ⟨h1, h2⟩ := Bool.and_eq_true_iff.mp h
      obtain ⟨l, rfl, hl⟩ := FL.typed (enc := fun x => (.str x : D)) (P := fun x => x ∈ ns) (L := ds) fun d hd => by
        have h3 := List.all_eq_true.mp h1 d hd
        obtain ⟨h4, h5⟩ := Bool.and_eq_true_iff.mp h3
        obtain ⟨x, rfl⟩ := strB_str h4
        rw [inB_strs, List.contains_iff_mem] at h5
        exact ⟨x, rfl, h5⟩
      exact ⟨l, rfl, hl, h2⟩
    · cases h
  · rintro ⟨l, rfl, h1, h2⟩
    show (_ && _) = true
    rw [h2, Bool.and_true]
    refine List.all_eq_true.mpr fun d hd => ?_
    obtain ⟨x, hx, rfl⟩ := List.mem_map.mp hd
    show (strB _ && inB _ _) = true
    rw [inB_strs, List.contains_iff_mem.mpr (h1 x hx)]
    rfl
theorem lookNe : ("look" : Str) ≠ "found" := by decide +kernel
theorem plD_2 {ns : List Str} {gs : List Grp} {x : Str} {b : D} : plD ns gs (.tuple [.str x, b]) = (decide (x = "found") && toldB ns b) := by
  refine plD_eq ?_
  rw [Bool.and_eq_true, decide_eq_true_eq, toldB_iff]
  constructor
  · rintro ⟨p, e, hp⟩
    cases p with
    | fnd l =>
      unfold encPl at e
      injection e with e
      injection e with e1 e2
      injection e2 with e2
      injection e1 with e1
      exact ⟨e1, l, e2, hp⟩
    | look g y n =>
      unfold encPl at e
      injection e with e
      have := congrArg List.length e
      cases this
  · rintro ⟨rfl, l, rfl, h⟩
    exact ⟨.fnd l, rfl, h⟩
theorem plD_2n {ns : List Str} {gs : List Grp} {a b : D} (h : ∀ x, a ≠ .str x) : plD ns gs (.tuple [a, b]) = false := plD_no fun p e => by
  cases p with
  | fnd l =>
    unfold encPl at e
    injection e with e
    injection e with e1 e2
    exact h _ e1
  | look g y n =>
    unfold encPl at e
    injection e with e
    have := congrArg List.length e
    cases this
theorem plD_4 {ns : List Str} {gs : List Grp} {x g : Str} {c e : D} : plD ns gs (.tuple [.str x, .str g, c, e]) = (decide (x = "look") && ((gs.map (·.1)).contains g && (plD ns gs c && plD ns gs e))) := by
  refine plD_eq ?_
  rw [Bool.and_eq_true, decide_eq_true_eq, Bool.and_eq_true, List.contains_iff_mem, Bool.and_eq_true, plD_iff, plD_iff]
  constructor
  · rintro ⟨p, e0, hp⟩
    cases p with
    | fnd l =>
      unfold encPl at e0
      injection e0 with e0
      have := congrArg List.length e0
      cases this
    | look g' y n =>
      unfold encPl at e0
      injection e0 with e0
      injection e0 with e1 e0
      injection e0 with e2 e0
      injection e0 with e3 e0
      injection e0 with e4 e0
      injection e1 with e1
      injection e2 with e2
      subst e2
      exact ⟨e1, hp.1, ⟨y, e3, hp.2.1⟩, n, e4, hp.2.2⟩
  · rintro ⟨rfl, h1, ⟨y, rfl, h2⟩, n, rfl, h3⟩
    exact ⟨.look g y n, rfl, h1, h2, h3⟩
theorem plD_4n {ns : List Str} {gs : List Grp} {a b c e : D} (h : (∀ x, a ≠ .str x) ∨ ∀ x, b ≠ .str x) : plD ns gs (.tuple [a, b, c, e]) = false := plD_no fun p e0 => by
  cases p with
  | fnd l =>
    unfold encPl at e0
    injection e0 with e0
    have := congrArg List.length e0
    cases this
  | look g' y n =>
    unfold encPl at e0
    injection e0 with e0
    injection e0 with e1 e0
    injection e0 with e2 e0
    rcases h with h | h
    · exact h _ e1
    · exact h _ e2
theorem len24 {α : Type} {l : List α} (h : (decide (l.length = 2) || decide (l.length = 4)) = true) : (∃ a b, l = [a, b]) ∨ ∃ a b c d, l = [a, b, c, d] := by
  rcases Bool.or_eq_true_iff.mp h with h | h
  · have := of_decide_eq_true h
    match l, this with
    | [a, b], _ => exact .inl ⟨a, b, rfl⟩
  · have := of_decide_eq_true h
    match l, this with
    | [a, b, c, d], _ => exact .inr ⟨a, b, c, d, rfl⟩
theorem fNotIn_24 {n : Nat} : fNotIn (.int (n : Int)) (.tuple [.int 2, .int 4]) = some (.bool !(decide (n = 2) || decide (n = 4))) := by
  have e : inD (.int (n : Int)) (.tuple [.int 2, .int 4]) = if SeqAt.shaped (.int (n : Int)) = true ∧ SeqAt.shaped (.tuple [.int 2, .int 4]) = true then some ([(.int 2 : D), .int 4].any fun z => PyData.eqv z (.int (n : Int))) else none := rfl
  unfold fNotIn
  rw [e, if_pos ⟨rfl, rfl⟩]
  simp only [List.any_cons, List.any_nil, eqv_int, Bool.or_false, Option.map_some]
  congr 2
  have h2 : decide ((2 : Int) = (n : Int)) = decide (n = 2) := decide_eq_decide.mpr (by omega)
  have h3 : decide ((4 : Int) = (n : Int)) = decide (n = 4) := decide_eq_decide.mpr (by omega)
  rw [h2, h3]
/-! ### what a plan finds -/
def grpOf (gs : List Grp) (g : Str) : List Str := (lkG gs g).getD []
def findsB (gs : List Grp) : List Str → Plan → Int → Bool
  | lot, .fnd l, _ => lot.isEmpty || (oneB gs lot && decide (l = lot))
  | lot, .look g y n, m => lot.isEmpty || (decide (0 < m) && (findsB gs (inP (grpOf gs g) lot) y (m - 1) && findsB gs (outP (grpOf gs g) lot) n (m - 1)))
def road (gs : List Grp) (x : Str) : Plan → Nat × List Str
  | .fnd l => (0, l)
  | .look g y n => if (grpOf gs g).contains x = true then ((road gs x y).1 + 1, (road gs x y).2) else ((road gs x n).1 + 1, (road gs x n).2)
theorem grp_resp {gs : List Grp} {g x y : Str} (h : alB gs x y = true) : (grpOf gs g).contains x = (grpOf gs g).contains y := by
  unfold grpOf
  cases e : lkG gs g with
  | none => rfl
  | some l => exact alB_iff.mp h _ (mem_lkG e)
/-- a lot that parts no lamps alike -/
def Cl (gs : List Grp) (ns lot : List Str) : Prop := ∃ q : Str → Bool, lot = ns.filter q ∧ ∀ x ∈ ns, ∀ y ∈ ns, alB gs x y = true → q x = q y
theorem Cl.all {gs : List Grp} {ns : List Str} : Cl gs ns ns := ⟨fun _ => true, (List.filter_eq_self.mpr fun _ _ => rfl).symm, fun _ _ _ _ _ => rfl⟩
theorem Cl.inP {gs : List Grp} {ns lot : List Str} (g : Str) (h : Cl gs ns lot) : Cl gs ns (inP (grpOf gs g) lot) := by
  obtain ⟨q, rfl, hq⟩ := h
  refine ⟨fun x => q x && (grpOf gs g).contains x, ?_, fun x hx y hy ha => ?_⟩
  · unfold FL.inP
    rw [List.filter_filter]
    congr 1
    funext x
    rw [Bool.and_comm]
  · show (q x && _) = (q y && _)
    rw [hq x hx y hy ha, grp_resp ha]
theorem Cl.outP {gs : List Grp} {ns lot : List Str} (g : Str) (h : Cl gs ns lot) : Cl gs ns (outP (grpOf gs g) lot) := by
  obtain ⟨q, rfl, hq⟩ := h
  refine ⟨fun x => q x && !(grpOf gs g).contains x, ?_, fun x hx y hy ha => ?_⟩
  · unfold FL.outP
    rw [List.filter_filter]
    congr 1
    funext x
    rw [Bool.and_comm]
  · show (q x && !_) = (q y && !_)
    rw [hq x hx y hy ha, grp_resp ha]
theorem finds_iff {gs : List Grp} {ns : List Str} : ∀ {p : Plan} {lot : List Str} {m : Int}, Cl gs ns lot → 0 ≤ m → (findsB gs lot p m = true ↔ ∀ x ∈ lot, ((road gs x p).1 : Int) ≤ m ∧ (road gs x p).2 = ns.filter (alB gs x))
  | .fnd l, lot, m, hc, hm => by
    obtain ⟨q, rfl, hq⟩ := hc
    unfold findsB road
    rw [Bool.or_eq_true, List.isEmpty_iff, Bool.and_eq_true, decide_eq_true_eq, oneB_iff]
    have key : ∀ {x}, x ∈ ns.filter q → (∀ y ∈ ns.filter q, alB gs x y = true) → ns.filter (alB gs x) = ns.filter q := fun {x} hx h => by
      refine List.filter_congr fun y hy => ?_
      rw [Bool.eq_iff_iff]
      obtain ⟨x1, x2⟩ := List.mem_filter.mp hx
      exact ⟨fun ha => (hq x x1 y hy ha).symm.trans x2, fun hy2 => h y (List.mem_filter.mpr ⟨hy, hy2⟩)⟩
    constructor
    · rintro (h | ⟨h1, h2⟩) x hx
      · rw [h] at hx; cases hx
      · exact ⟨hm, h2.trans (key hx fun y hy => h1 x hx y hy).symm⟩
    · intro h
      by_cases he : ns.filter q = []
      · exact .inl he
      · refine .inr ?_
        have h1 : ∀ x ∈ ns.filter q, ∀ y ∈ ns.filter q, alB gs x y = true := fun x hx y hy => by
          have e1 : l = ns.filter (alB gs x) := (h x hx).2
          have e2 : l = ns.filter (alB gs y) := (h y hy).2
          have : y ∈ ns.filter (alB gs y) := List.mem_filter.mpr ⟨(List.mem_filter.mp hy).1, alB_refl gs y⟩
          rw [← e2, e1] at this
          exact (List.mem_filter.mp this).2
        refine ⟨h1, ?_⟩
        obtain ⟨x, hx⟩ := List.exists_mem_of_ne_nil _ he
        exact (h x hx).2.trans (key hx fun y hy => h1 x hx y hy)
  | .look g y n, lot, m, hc, hm => by
    unfold findsB
    rw [Bool.or_eq_true, List.isEmpty_iff, Bool.and_eq_true, decide_eq_true_eq, Bool.and_eq_true]
    by_cases he : lot = []
    · subst he
      simp
    by_cases h0 : 0 < m
    · rw [finds_iff (p := y) (hc.inP g) (by omega), finds_iff (p := n) (hc.outP g) (by omega)]
      constructor
      · rintro (h | ⟨_, h1, h2⟩) x hx
        · exact absurd h he
        · unfold road
          cases hx2 : (grpOf gs g).contains x with
          | true =>
            rw [if_pos rfl]
            obtain ⟨h3, h4⟩ := h1 x (List.mem_filter.mpr ⟨hx, hx2⟩)
            exact ⟨by push_cast; omega, h4⟩
          | false =>
            rw [if_neg Bool.false_ne_true]
            obtain ⟨h3, h4⟩ := h2 x (List.mem_filter.mpr ⟨hx, by rw [hx2]; rfl⟩)
            exact ⟨by push_cast; omega, h4⟩
      · intro h
        refine .inr ⟨h0, fun x hx => ?_, fun x hx => ?_⟩
        · obtain ⟨h1, h2⟩ := List.mem_filter.mp hx
          have := h x h1
          unfold road at this
          rw [if_pos h2] at this
          exact ⟨by have := this.1; push_cast at this; omega, this.2⟩
        · obtain ⟨h1, h2⟩ := List.mem_filter.mp hx
          have := h x h1
          unfold road at this
          rw [if_neg (by rw [Bool.not_eq_true'] at h2; rw [h2]; exact Bool.false_ne_true)] at this
          exact ⟨by have := this.1; push_cast at this; omega, this.2⟩
    · constructor
      · rintro (h | ⟨h, _⟩)
        · exact absurd h he
        · exact absurd h h0
      · intro h
        obtain ⟨x, hx⟩ := List.exists_mem_of_ne_nil _ he
        have := (h x hx).1
        unfold road at this
        split at this <;> (push_cast at this; omega)
theorem finds_mono {gs : List Grp} : ∀ {p : Plan} {lot : List Str} {m m' : Int}, m ≤ m' → findsB gs lot p m = true → findsB gs lot p m' = true
  | .fnd l, lot, m, m', h, hf => hf
  | .look g y n, lot, m, m', h, hf => by
    unfold findsB at hf ⊢
    rw [Bool.or_eq_true, Bool.and_eq_true, decide_eq_true_eq, Bool.and_eq_true] at hf ⊢
    exact hf.imp id fun ⟨h1, h2, h3⟩ => ⟨by omega, finds_mono (by omega) h2, finds_mono (by omega) h3⟩
/-- no plan finds with fewer looks -/
theorem finds_need {gs : List Grp} : ∀ {p : Plan} {lot : List Str} {m : Int}, 0 ≤ m → findsB gs lot p m = true → (needL gs lot : Int) ≤ m
  | .fnd l, lot, m, hm, hf => by
    unfold findsB at hf
    rw [Bool.or_eq_true, List.isEmpty_iff, Bool.and_eq_true] at hf
    have h1 : oneB gs lot = true := by
      rcases hf with rfl | h
      · rfl
      · exact h.1
    rw [needL_one h1]
    exact hm
  | .look g y n, lot, m, hm, hf => by
    unfold findsB at hf
    rw [Bool.or_eq_true, List.isEmpty_iff, Bool.and_eq_true, decide_eq_true_eq, Bool.and_eq_true] at hf
    rcases hf with rfl | ⟨h1, h2, h3⟩
    · rw [needL_one rfl]
      exact hm
    · have n1 := finds_need (by omega) h2
      have n2 := finds_need (by omega) h3
      by_cases e1 : inP (grpOf gs g) lot = []
      · have : outP (grpOf gs g) lot = lot := by
          unfold inP at e1
          unfold outP
          rw [List.filter_eq_nil_iff] at e1
          exact List.filter_eq_self.mpr fun x hx => by simpa using e1 x hx
        rw [this] at n2
        omega
      by_cases e2 : outP (grpOf gs g) lot = []
      · have : inP (grpOf gs g) lot = lot := by
          unfold outP at e2
          unfold inP
          rw [List.filter_eq_nil_iff] at e2
          exact List.filter_eq_self.mpr fun x hx => by simpa using e2 x hx
        rw [this] at n1
        omega
      · have hg : ∃ l, lkG gs g = some l := by
          cases e : lkG gs g with
          | none =>
            have : grpOf gs g = [] := by unfold grpOf; rw [e]; rfl
            rw [this] at e1
            exact absurd (List.filter_eq_nil_iff.mpr fun x hx => by simp) e1
          | some l => exact ⟨l, rfl⟩
        obtain ⟨l, hl⟩ := hg
        have : grpOf gs g = l := by unfold grpOf; rw [hl]; rfl
        rw [this] at e1 e2 n1 n2
        have := needL_le (gs := gs) (l := lot) (g := (g, l)) (mem_lkG hl) e1 e2
        dsimp only at this
        omega
/-! ### what is known of lots -/
def subs : List Str → List (List Str)
  | [] => [[]]
  | x :: r => subs r ++ (subs r).map (x :: ·)
theorem subs_len : ∀ l : List Str, (subs l).length = 2 ^ l.length
  | [] => rfl
  | x :: r => by
    unfold subs
    rw [List.length_append, List.length_map, subs_len r, List.length_cons, Nat.pow_succ]
    omega
theorem mem_subs {l m : List Str} (h : l.Sublist m) : l ∈ subs m := by
  induction h with
  | slnil => exact List.mem_singleton.mpr rfl
  | cons a _ ih => exact List.mem_append_left _ ih
  | cons_cons a _ ih => exact List.mem_append_right _ (List.mem_map.mpr ⟨_, ih, rfl⟩)
structure KI (gs : List Grp) (ns : List Str) (K : List (List Str × Nat)) : Prop where
  nd : (K.map (·.1)).Nodup
  ok : ∀ p ∈ K, p.1.Sublist ns ∧ p.2 = needL gs p.1
theorem KI.len {gs : List Grp} {ns : List Str} {K : List (List Str × Nat)} (h : KI gs ns K) (hn : ns.length ≤ 8) : K.length ≤ 256 := by
  have := nodup_len h.nd (m := subs ns) fun x hx => by
    obtain ⟨p, hp, rfl⟩ := List.mem_map.mp hx
    exact mem_subs (h.ok p hp).1
  rw [List.length_map, subs_len] at this
  have h2 : 2 ^ ns.length ≤ 2 ^ 8 := Nat.pow_le_pow_right (by decide) hn
  omega
theorem KI.nil {gs : List Grp} {ns : List Str} : KI gs ns [] := ⟨List.nodup_nil, fun p hp => nomatch hp⟩
theorem KI.put {gs : List Grp} {ns l : List Str} {K : List (List Str × Nat)} (h : KI gs ns K) (hl : l.Sublist ns) : KI gs ns (putA K l (needL gs l)) := ⟨putA_nodup h.nd, fun p hp => by
  rcases putA_mem hp with rfl | ⟨hp, _⟩
  · exact ⟨hl, rfl⟩
  · exact h.ok p hp⟩
theorem KI.at {gs : List Grp} {ns l : List Str} {K : List (List Str × Nat)} (h : KI gs ns K) {n : Nat} (e : lkA K l = some n) : n = needL gs l := (h.ok _ (lkA_mem e)).2
abbrev kdL (K : List (List Str × Nat)) : D := .dict ((.bool true, .none) :: K.map fun p => ((.tuple (p.1.map fun x => (.str x : D)) : D), (.int (p.2 : Int) : D)))
theorem look_kdL (K : List (List Str × Nat)) (l : List Str) : lookN (K.map fun p => ((.tuple (p.1.map fun x => (.str x : D)) : D), (.int (p.2 : Int) : D))) (keyS l) = (lkA K l).map fun n : Nat => (.int (n : Int) : D) :=
  lookN_gen (fun l : List Str => (.tuple (l.map fun x => (.str x : D)) : D)) keyS nkT_strs keyS_inj (fun n : Nat => (.int (n : Int) : D)) l K
theorem put_kdL (K : List (List Str × Nat)) (l : List Str) (n : Nat) : putN (K.map fun p => ((.tuple (p.1.map fun x => (.str x : D)) : D), (.int (p.2 : Int) : D))) (.tuple (l.map fun x => (.str x : D))) (keyS l) (.int (n : Int)) = (putA K l n).map fun p => ((.tuple (p.1.map fun x => (.str x : D)) : D), (.int (p.2 : Int) : D)) :=
  putN_gen (fun l : List Str => (.tuple (l.map fun x => (.str x : D)) : D)) keyS nkT_strs keyS_inj (fun n : Nat => (.int (n : Int) : D)) K l n
theorem dMinL_nats {r : List Nat} (h : r ≠ []) (hl : r.length ≤ 1000) : dMinL (.list (r.map fun n : Nat => (.int (n : Int) : D))) = some (.int (minL r : Int)) := by
  cases r with
  | nil => exact absurd rfl h
  | cons a r =>
    have h1 : ∀ d ∈ (a :: r).map (fun n : Nat => (.int (n : Int) : D)), ∃ i : Int, d = .int i := fun d hd => by
      obtain ⟨n, _, rfl⟩ := List.mem_map.mp hd
      exact ⟨_, rfl⟩
    have h2 : alikeB ((a :: r).map fun n : Nat => (.int (n : Int) : D)) = true := by
      unfold alikeB
      refine Bool.and_eq_true_iff.mpr ⟨List.all_eq_true.mpr fun x hx => List.all_eq_true.mpr fun y hy => ?_, List.all_eq_true.mpr fun x hx => ?_⟩
      · obtain ⟨i, rfl⟩ := h1 x hx
        obtain ⟨j, rfl⟩ := h1 y hy
        rfl
      · obtain ⟨i, rfl⟩ := h1 x hx
        rfl
    obtain ⟨h3, h4⟩ := lay_all (ds := (a :: r).map fun n : Nat => (.int (n : Int) : D)) (n := 0) fun d hd => by
      obtain ⟨i, rfl⟩ := h1 d hd
      exact ⟨rfl, Nat.le_refl _⟩
    unfold dMinL
    rw [List.map_cons] at h2 h3 h4 ⊢
    dsimp only
    rw [if_pos ⟨h2, h3, Nat.le_trans h4 (by decide)⟩]
    have e : (r.map fun n : Nat => (.int (n : Int) : D)) = (r.map fun n : Nat => (n : Int)).map PyData.int := by rw [List.map_map]; rfl
    rw [e, PySem.W.minD_ints]
    congr 2
    show _ = ((r.foldl min a : Nat) : Int)
    have : ∀ (r : List Nat) (a : Nat), (r.map fun n : Nat => (n : Int)).foldl min (a : Int) = ((r.foldl min a : Nat) : Int) := by
      intro r
      induction r with
      | nil => intro a; rfl
      | cons b r ih =>
        intro a
        rw [List.map_cons, List.foldl_cons, List.foldl_cons, ← ih]
        congr 1
        omega
    exact this r a
theorem riseB_of_pw : ∀ {ds : List D}, ds.Pairwise (fun a b => ltB a b = true) → riseB ds = true
  | [], _ => rfl
  | [_], _ => rfl
  | a :: b :: r, h => by
    rw [riseB, (List.pairwise_cons.mp h).1 b List.mem_cons_self, riseB_of_pw (List.pairwise_cons.mp h).2]
    rfl
theorem namesT_lt : (namesT.map fun x => (.str x : D)).Pairwise fun a b => ltB a b = true := by decide +kernel
theorem LmT.pw_lt {m : Int} {L : List Row} (h : LmT m L) : ((L.map (·.1)).map fun x => (.str x : D)).Pairwise fun a b => ltB a b = true := by
  obtain ⟨k, _, _, _, e⟩ := h.nm
  rw [e]
  exact namesT_lt.sublist ((List.take_sublist _ _).map _)
theorem fNe_sl2 {w n : Nat} {x : Str} (h : Th w n (.str x)) (hn : n ≤ 64) {y : Str} (hy : PyData.strOk y = true := by decide +kernel) : fNe (.str x) (.str y) = some (.bool (!decide (x = y))) := by
  unfold fNe
  have hs : SeqAt.shaped (.str y) = true := (Th.str (w := y.length) (n := 0) (Nat.le_refl _) hy).shaped (by omega)
  rw [if_pos ⟨h.shaped hn, hs⟩, eqv_str]
theorem fEq_n22 : fEq (.int ((2 : Nat) : Int)) (.int 2) = some (.bool true) := by rw [fEq_i]; rfl
theorem fEq_n42 : fEq (.int ((4 : Nat) : Int)) (.int 2) = some (.bool false) := by rw [fEq_i]; rfl
theorem fEq_n44 : fEq (.int ((4 : Nat) : Int)) (.int 4) = some (.bool true) := by rw [fEq_i]; rfl
theorem fEq_n24 : fEq (.int ((2 : Nat) : Int)) (.int 4) = some (.bool false) := by rw [fEq_i]; rfl
theorem lkG_contains (gs : List Grp) (x : Str) : (lkG gs x).isSome = (gs.map (·.1)).contains x := by
  unfold lkG
  rw [Option.isSome_map, Bool.eq_iff_iff, List.contains_iff_mem, List.find?_isSome, List.mem_map]
  constructor
  · rintro ⟨p, hp, h⟩
    exact ⟨p, hp, of_decide_eq_true h⟩
  · rintro ⟨p, hp, h⟩
    exact ⟨p, hp, decide_eq_true h⟩
theorem fNotIn_grps {gs : List Grp} {x : Str} : fNotIn (.str x) (.dict (gs.map fun g => ((.str g.1 : D), (.tuple (g.2.map PyData.str) : D)))) = some (.bool (!(gs.map (·.1)).contains x)) := by
  unfold fNotIn inD
  have h1 : okK (gs.map fun g => ((.str g.1 : D), (.tuple (g.2.map PyData.str) : D))) = true := okK_gen encSs gs
  have h2 : lookK (gs.map fun g => ((.str g.1 : D), (.tuple (g.2.map PyData.str) : D))) (.inr x) = (lkG gs x).map encSs := lookK_gen encSs x gs
  simp only [keyOf]
  rw [if_pos h1, h2, Option.isSome_map, lkG_contains]
  rfl
/-! ### while -/
theorem w_whileN {t : En → Option (Bool × En)} {b : En → Option Fl} {n : Nat} {ρ : En} {QS : Fl → Prop} : WS (whileS t b (n + 1)) ρ QS ↔ Wx t ρ fun c ρ1 => (c = false → QS (.nx ρ1)) ∧ (c = true → WS b ρ1 (Tn (fun ρ2 => WS (whileS t b n) ρ2 QS) QS)) := by
  unfold WS Wx
  rw [whileS]
  cases h : t ρ with
  | none => exact Iff.rfl
  | some p =>
    obtain ⟨c, ρ1⟩ := p
    cases c with
    | false => simp [Oq, Wp]
    | true =>
      show Wp (match b ρ1 with | none => _ | some (.nx ρ2) => _ | some (.ct ρ2) => _ | some (.bk ρ2) => _ | some (.rt d' ρ2) => _) QS ↔ (true = false → QS (.nx ρ1)) ∧ (true = true → Wp (b ρ1) _)
      cases h2 : b ρ1 with
      | none => simp [Wp]
      | some f => cases f <;> simp [Wp, Tn]
theorem allS_strs : ∀ a b : List Str, allS a (b.map fun x => (.str x : D)) = decide (a = b)
  | [], [] => rfl
  | [], _ :: _ => rfl
  | _ :: _, [] => rfl
  | x :: a, y :: b => by
    rw [List.map_cons, allS, allS_strs a b, Bool.eq_iff_iff]
    simp [isS]
theorem grpOf_ss {gs : List Grp} (hg : GsOk gs) (g : Str) : SsOk (grpOf gs g) := by
  unfold grpOf
  cases e : lkG gs g with
  | none => exact ⟨by decide, fun x hx => nomatch hx⟩
  | some l =>
    have := hg.tx _ (mem_lkG e)
    exact ⟨this.2.1, this.2.2⟩
theorem dIdx_grpOf {gs : List Grp} {g : Str} (h : g ∈ gs.map (·.1)) : dIdx (.dict (gs.map fun g => ((.str g.1 : D), (.tuple (g.2.map PyData.str) : D)))) (.str g) = some (.tuple ((grpOf gs g).map fun x => (.str x : D))) := by
  rw [dIdx_grps]
  have := lkG_contains gs g
  rw [List.contains_iff_mem.mpr h] at this
  obtain ⟨l, hl⟩ := Option.isSome_iff_exists.mp this
  unfold grpOf
  rw [hl]
  rfl
theorem fEqP : fEq (.str "found") (.str "found") = some (.bool true) ∧ fEq (.str "look") (.str "found") = some (.bool false) ∧ fEq (.str "look") (.str "look") = some (.bool true) ∧ fEq (.str "found") (.str "look") = some (.bool false) ∧ fNe (.str "found") (.str "found") = some (.bool false) := by
  have t1 : TxOk ("found" : Str) := ⟨by decide, by decide +kernel⟩
  have t2 : TxOk ("look" : Str) := ⟨by decide, by decide +kernel⟩
  refine ⟨?_, ?_, ?_, ?_, ?_⟩
  · rw [fEq_ss t1 t1, decide_eq_true rfl]
  · rw [fEq_ss t2 t1, decide_eq_false (by decide +kernel)]
  · rw [fEq_ss t2 t2, decide_eq_true rfl]
  · rw [fEq_ss t1 t2, decide_eq_false (by decide +kernel)]
  · rw [fNe_sl2 (t1.th 0) (by decide), decide_eq_true rfl]
    rfl
theorem PlOk.len {ns : List Str} {gs : List Grp} {l : List Str} (h : PlOk ns gs (.fnd l)) (hs : SsOk ns) (hl : l.length ≤ 1000) : SsOk l := ⟨hl, fun x hx => hs.tx x (h.1 x hx)⟩
theorem fNe_n22 : fNe (.int ((2 : Nat) : Int)) (.int 2) = some (.bool false) := by rw [fNe_i]; rfl
theorem road_ok {gs : List Grp} {ns : List Str} (hs : SsOk ns) {w : Nat} (hw : w ≤ 1000) {x : Str} : ∀ {p : Plan} {k : Nat}, Th w k (encPl p) → PlOk ns gs p → SsOk (road gs x p).2
  | .fnd l, k, hd, hp => by
    unfold encPl at hd
    obtain ⟨_, k', rfl, hm⟩ := hd.ofTuple
    have hd2 := hm (.tuple (l.map fun x => (.str x : D))) (by simp)
    refine hp.len hs ?_
    have := hd2.ofTuple.1
    rw [List.length_map] at this
    omega
  | .look g y z, k, hd, hp => by
    unfold encPl at hd
    obtain ⟨_, k', rfl, hm⟩ := hd.ofTuple
    unfold road
    split
    · exact road_ok hs hw (hm (encPl y) (by simp)) hp.2.1
    · exact road_ok hs hw (hm (encPl z) (by simp)) hp.2.2
theorem fNe_nilT {w n : Nat} {ds : List D} (h : Th w n (.tuple ds)) (hn : n ≤ 64) : fNe (.tuple ds) (.tuple []) = some (.bool (!ds.isEmpty)) := by
  have h0 : Th w 1 (.tuple []) := mem_th (n := 0) (fun d hd => nomatch hd) (Nat.zero_le _)
  unfold fNe
  rw [if_pos ⟨h.shaped hn, h0.shaped (by decide)⟩]
  refine congrArg (fun z => some (PyData.bool !z)) ?_
  cases ds <;> simp [PyData.eqv, PyData.eqvAll]
def itsPl : Plan → List D
  | .fnd l => [.str "found", .tuple (l.map fun x => (.str x : D))]
  | .look g y n => [.str "look", .str g, encPl y, encPl n]
theorem encPl_its (p : Plan) : encPl p = .tuple (itsPl p) := by cases p <;> (unfold encPl itsPl; rfl)
theorem dItemsS_pl (p : Plan) : dItemsS (encPl p) = some (itsPl p) := by rw [encPl_its]; rfl
theorem rise_nodup : ∀ {l : List Str}, riseB (l.map fun x => (.str x : D)) = true → l.Pairwise fun a b => a.cps.toList < b.cps.toList
  | [], _ => .nil
  | [_], _ => List.pairwise_singleton _ _
  | a :: b :: r, h => by
    rw [List.map_cons, List.map_cons, riseB] at h
    obtain ⟨h1, h2⟩ := Bool.and_eq_true_iff.mp h
    have ih := rise_nodup (l := b :: r) h2
    have hab : a.cps.toList < b.cps.toList := of_decide_eq_true h1
    refine List.pairwise_cons.mpr ⟨fun c hc => ?_, ih⟩
    rcases List.mem_cons.mp hc with rfl | hc
    · exact hab
    · exact List.lt_trans hab ((List.pairwise_cons.mp ih).1 c hc)
theorem rise_len {l ns : List Str} (h : riseB (l.map fun x => (.str x : D)) = true) (hs : ∀ x ∈ l, x ∈ ns) : l.length ≤ ns.length := by
  refine nodup_len ?_ hs
  exact (rise_nodup h).imp fun {a b} hab e => by
    subst e
    exact List.lt_irrefl _ hab
theorem encPl_th {ns : List Str} {gs : List Grp} (h8 : ns.length ≤ 8) (hn : ∀ x ∈ ns, ∀ n, Th 8 n (.str x)) (hg : ∀ x ∈ gs.map (·.1), ∀ n, Th 8 n (.str x)) : ∀ {p : Plan}, PlOk ns gs p → Th 8 (depPl p + 2) (encPl p)
  | .fnd l, hp => by
    unfold encPl depPl
    refine mem_th (fun d hd => ?_) (Nat.le_of_ble_eq_true rfl)
    simp only [List.mem_cons, List.not_mem_nil, or_false] at hd
    rcases hd with rfl | rfl
    · exact Th.str (by decide) (by decide +kernel)
    · refine mem_th (fun d hd => ?_) ?_
      · obtain ⟨x, hx, rfl⟩ := List.mem_map.mp hd
        exact hn x (hp.1 x hx) 0
      · rw [List.length_map]
        exact Nat.le_trans (rise_len hp.2 hp.1) h8
  | .look g y z, hp => by
    unfold encPl depPl
    refine mem_th (fun d hd => ?_) (Nat.le_of_ble_eq_true rfl)
    simp only [List.mem_cons, List.not_mem_nil, or_false] at hd
    rcases hd with rfl | rfl | rfl | rfl
    · exact Th.str (by decide) (by decide +kernel)
    · exact hg g hp.1 _
    · exact (encPl_th h8 hn hg hp.2.1).up (Nat.le_refl _) (by omega)
    · exact (encPl_th h8 hn hg hp.2.2).up (Nat.le_refl _) (by omega)
theorem need_le {gs : List Grp} {ns : List Str} (h8 : ns.length ≤ 8) : needL gs ns ≤ 8 := by
  cases ns with
  | nil => exact Nat.le_trans (Nat.le_of_eq (needL_one rfl)) (by decide)
  | cons a r =>
    have := needL_lt gs (Nat.le_refl (a :: r).length) (List.cons_ne_nil _ _)
    omega
end FL
end L2

/-! M20: the fewest words: from the last word back; all levels in rounds -/
namespace L2
namespace FL
open PySem
/-! ### what the new pieces mean -/
section
variable {ρ : En} {Q : D → En → Prop} {QL : List D → En → Prop} {QS : Fl → Prop}
theorem ww_lenSet {it : En → Option (List D × En)} {g : D → En → Option En} {t : En → Option (Bool × En)} {e : En → Option (D × En)} {vs : List Nat} : Wx (semLenSet it g t e vs) ρ Q ↔ Wx (semLc it g t e vs) ρ fun ys ρ1 => Wp (asInts ys) fun is => is.length ≤ 1000 ∧ Q (.int ((distI is).length : Nat)) ρ1 := by
  unfold semLenSet Wx
  rw [oq_bnd]
  refine Oq.congr fun ys r => ?_
  cases asInts ys with
  | none => exact Iff.rfl
  | some is => exact oq_ite
theorem ww_dispK {k v : En → Option (D × En)} : Wx (semDispK k v) ρ Q ↔ Wx k ρ fun y ρ1 => Wx v ρ1 fun d ρ2 => Wp (nkT y) fun _ => Q (.dict [(.bool true, .none), (y, d)]) ρ2 := by
  unfold semDispK Wx
  simp only [oq_bnd]
  refine Oq.congr fun y r => Oq.congr fun d r2 => ?_
  cases nkT y <;> exact Iff.rfl
def dInts : D → Option (List Int)
  | .list ds => asInts ds
  | _ => none
theorem ww_sortU {a : En → Option (D × En)} : Wx (semSortU a) ρ QL ↔ Wx a ρ fun d ρ1 => Wp (dInts d) fun is => is.length ≤ 60 ∧ QL ((sortU is).map fun i => .int i) ρ1 := by
  unfold semSortU Wx
  rw [oq_bnd]
  refine Oq.congr fun d r => ?_
  cases d <;> first | exact Iff.rfl | skip
  rename_i ds
  show Oq (match asInts ds with | some is => _ | none => _) QL ↔ Wp (asInts ds) _
  cases asInts ds with
  | none => exact Iff.rfl
  | some is => exact oq_ite
theorem ww_tri {i j k : Nat} {m b c : En → Option (D × En)} : WS (semTri i j k m b c) ρ QS ↔ Wx m ρ fun x ρ1 => Wx b ρ1 fun y ρ2 => Wx c ρ2 fun z ρ3 => QS (.nx (((ρ3.set i (.own x)).set j (.val y)).set k (.val z))) := by
  unfold semTri WS
  simp only [wp_bnd]
  exact Iff.rfl
end
theorem asInts_map (l : List Int) : asInts (l.map fun i => (.int i : D)) = some l := by
  induction l with
  | nil => rfl
  | cons i l ih => rw [List.map_cons, asInts, ih]; rfl
theorem distI_one {a : Int} {l : List Int} : (distI (a :: l)).length = 1 ↔ l.all (fun b => b == a) = true := by
  have key : ∀ (l m : List Int), m.length ≤ (l.foldl addI m).length ∧ (∀ b ∈ l, b ∉ m → m.length < (l.foldl addI m).length) ∧ ((∀ b ∈ l, b ∈ m) → l.foldl addI m = m) := by
    intro l
    induction l with
    | nil => intro m; exact ⟨Nat.le_refl _, (fun b hb => nomatch hb), fun _ => rfl⟩
    | cons c l ih =>
      intro m
      rw [List.foldl_cons]
      obtain ⟨h1, h2, h3⟩ := ih (addI m c)
      have hl := addI_len m c
      have hm : m.length ≤ (addI m c).length := by split at hl <;> omega
      refine ⟨Nat.le_trans hm h1, fun b hb hn => ?_, fun h => ?_⟩
      · rcases List.mem_cons.mp hb with rfl | hb
        · rw [if_neg (by rw [List.contains_iff_mem]; exact hn)] at hl
          omega
        · by_cases hbc : b ∈ addI m c
          · have : b = c := by
              have e := addI_has m c b
              rw [List.contains_iff_mem.mpr hbc] at e
              have e2 : m.contains b = false := by
                cases z : m.contains b with
                | false => rfl
                | true => exact absurd (List.contains_iff_mem.mp z) hn
              rw [e2, Bool.false_or] at e
              exact of_decide_eq_true e.symm
            subst this
            rw [if_neg (by rw [List.contains_iff_mem]; exact hn)] at hl
            omega
          · exact Nat.lt_of_le_of_lt hm (h2 b hb hbc)
      · have hc : m.contains c = true := List.contains_iff_mem.mpr (h c List.mem_cons_self)
        have e : addI m c = m := if_pos hc
        rw [e] at h3 ⊢
        exact h3 fun b hb => h b (List.mem_cons_of_mem _ hb)
  have e0 : distI (a :: l) = l.foldl addI [a] := rfl
  obtain ⟨h1, h2, h3⟩ := key l [a]
  rw [e0, List.all_eq_true]
  constructor
  · intro h b hb
    refine Classical.byContradiction fun hn => ?_
    have := h2 b hb fun z => hn (beq_iff_eq.mpr (List.mem_singleton.mp z))
    rw [h] at this
    exact absurd this (Nat.lt_irrefl 1)
  · intro h
    rw [h3 fun b hb => List.mem_singleton.mpr (eq_of_beq (h b hb))]
    rfl
/-! ### levels name by name -/
def val (s : List Row) (x : Str) : Int := (lk s x).getD 0
theorem val_setR {s : List Row} {x y : Str} {v : Int} (h : y ∈ s.map (·.1)) : val (setR s x v) y = if y = x then v else val s y := by
  unfold val
  rw [lk_setR]
  obtain ⟨w, hw⟩ := lk_some_of h
  split
  · rw [hw]; rfl
  · rfl
abbrev noLos : Nat → Str → Bool := fun _ _ => false
theorem val_fold {y : Str} {v : Int} : ∀ (l : List Str) {s : List Row}, y ∈ s.map (·.1) → val (l.foldl (fun s x => if noLos 0 x = true then s else setR s x v) s) y = if y ∈ l then v else val s y
  | [], s, h => by simp
  | x :: l, s, h => by
    rw [List.foldl_cons, if_neg Bool.false_ne_true, val_fold l (by rw [setR_fst]; exact h), val_setR h]
    by_cases h1 : y ∈ l
    · simp [h1]
    · by_cases h2 : y = x
      · simp [h2]
      · simp [h1, h2]
theorem val_aftW {ns : List Str} {gs : List Grp} {i : Nat} {w : Wd} {s : List Row} {y : Str} (h : y ∈ s.map (·.1)) : val (aftW ns gs noLos i w s) y = if y ∈ memW ns gs w.1 then w.2 else val s y := val_fold _ h
theorem rows_ext {s t : List Row} (e : s.map (·.1) = t.map (·.1)) (hn : (s.map (·.1)).Nodup) (h : ∀ x ∈ s.map (·.1), val s x = val t x) : s = t := by
  have h1 : s = (s.map (·.1)).map fun x => (x, val s x) := ((rows_back hn fun x v => (x, v)).trans (List.map_id' s)).symm
  have h2 : t = (t.map (·.1)).map fun x => (x, val t x) := ((rows_back (by rw [← e]; exact hn) fun x v => (x, v)).trans (List.map_id' t)).symm
  rw [h1, h2, ← e]
  exact List.map_congr_left fun x hx => by rw [h x hx]
/-- what is heard behind words, told one by one -/
def aft0 (ns : List Str) (gs : List Grp) : List Wd → List Row → List Row
  | [], s => s
  | w :: ws, s => aft0 ns gs ws (aftW ns gs noLos 0 w s)
theorem aft0_eq (ns : List Str) (gs : List Grp) (ws : List Wd) (s : List Row) : aft ns gs noLos ws s = aft0 ns gs ws s := by
  have go : ∀ (ws : List Wd) (k : Nat) (s : List Row), (ws.zipIdx k).foldl (fun s q => aftW ns gs noLos q.2 q.1 s) s = aft0 ns gs ws s := by
    intro ws
    induction ws with
    | nil => intro k s; rfl
    | cons w ws ih =>
      intro k s
      rw [List.zipIdx_cons, List.foldl_cons]
      exact ih (k + 1) _
  exact go ws 0 s
theorem losB_nil : losB [] = noLos := rfl
theorem aft0_fst (ns : List Str) (gs : List Grp) : ∀ (ws : List Wd) (s : List Row), (aft0 ns gs ws s).map (·.1) = s.map (·.1)
  | [], _ => rfl
  | w :: ws, s => (aft0_fst ns gs ws _).trans (aftW_fst ns gs noLos 0 w s)
theorem aft0_app (ns : List Str) (gs : List Grp) : ∀ (u v : List Wd) (s : List Row), aft0 ns gs (u ++ v) s = aft0 ns gs v (aft0 ns gs u s)
  | [], _, _ => rfl
  | w :: u, v, s => aft0_app ns gs u v _
/-! ### from the last word back -/
section
variable (f : Str → Int) (ns : List Str)
def leftW (m lot : List Str) : List Str := m.filter fun x => !lot.contains x
def uni (lot l : List Str) : List Str := ns.filter fun x => lot.contains x || l.contains x
def stepF (lot : List Str) (hm : List Str × List Str) : Option (Wd × List Str) := match leftW hm.2 lot with
  | [] => none
  | x :: r => if (r.all fun y => f y == f x) = true then some ((hm.1, f x), uni ns lot (x :: r)) else none
/-- the words told, the last one first, lead back to the lot -/
inductive Rch (hs : List (List Str × List Str)) : Nat → List Str → List Wd → Prop
  | zero : Rch hs 0 [] []
  | succ {k : Nat} {lot o : List Str} {ws : List Wd} {h : List Str × List Str} {w : Wd} : Rch hs k lot ws → h ∈ hs → stepF f ns lot h = some (w, o) → Rch hs (k + 1) o (ws ++ [w])
end
def headsM (ns : List Str) (gs : List Grp) : List (List Str × List Str) := (([("all" : Str)], ns) :: ns.map fun x => ([("lamp" : Str), x], [x])) ++ gs.map fun g => ([("group" : Str), g.1], g.2)
section
variable {f : Str → Int} {ns : List Str} {gs : List Grp} {hs : List (List Str × List Str)}
theorem stepF_some {lot o : List Str} {h : List Str × List Str} {w : Wd} (e : stepF f ns lot h = some (w, o)) : w.1 = h.1 ∧ o = uni ns lot (leftW h.2 lot) ∧ leftW h.2 lot ≠ [] ∧ ∀ x ∈ leftW h.2 lot, f x = w.2 := by
  unfold stepF at e
  cases hl : leftW h.2 lot with
  | nil => rw [hl] at e; cases e
  | cons x r =>
    rw [hl] at e
    dsimp only at e
    obtain ⟨h1, e⟩ := ite_sm e
    cases e
    refine ⟨rfl, rfl, List.cons_ne_nil _ _, fun y hy => ?_⟩
    rcases List.mem_cons.mp hy with rfl | hy
    · rfl
    · exact eq_of_beq (List.all_eq_true.mp h1 y hy)
theorem stepF_of {lot : List Str} {h : List Str × List Str} {v : Int} (hn : leftW h.2 lot ≠ []) (hv : ∀ x ∈ leftW h.2 lot, f x = v) : stepF f ns lot h = some ((h.1, v), uni ns lot (leftW h.2 lot)) := by
  unfold stepF
  cases hl : leftW h.2 lot with
  | nil => exact absurd hl hn
  | cons x r =>
    rw [hl] at hv
    dsimp only
    have h1 := hv x List.mem_cons_self
    rw [if_pos (List.all_eq_true.mpr fun y hy => beq_iff_eq.mpr ((hv y (List.mem_cons_of_mem _ hy)).trans h1.symm)), h1]
theorem mem_uni {lot l : List Str} {x : Str} : x ∈ uni ns lot l ↔ x ∈ ns ∧ (x ∈ lot ∨ x ∈ l) := by
  unfold uni
  rw [List.mem_filter, Bool.or_eq_true, List.contains_iff_mem, List.contains_iff_mem]
theorem mem_leftW {m lot : List Str} {x : Str} : x ∈ leftW m lot ↔ x ∈ m ∧ x ∉ lot := by
  unfold leftW
  rw [List.mem_filter, Bool.not_eq_true', ← Bool.not_eq_true, List.contains_iff_mem]
theorem Rch.len {k : Nat} {lot : List Str} {ws : List Wd} (r : Rch f ns hs k lot ws) : ws.length = k := by
  induction r with
  | zero => rfl
  | succ _ _ _ ih => rw [List.length_append, ih]; rfl
theorem Rch.z {lot : List Str} {ws : List Wd} (r : Rch f ns hs 0 lot ws) : lot = [] := by
  cases r
  rfl
theorem Rch.sub {k : Nat} {lot : List Str} {ws : List Wd} (r : Rch f ns hs k lot ws) : lot.Sublist ns := by
  cases r with
  | zero => exact List.nil_sublist _
  | succ _ _ e =>
    rw [(stepF_some e).2.1]
    exact List.filter_sublist
theorem Rch.ne {k : Nat} {lot : List Str} {ws : List Wd} (hm : ∀ h ∈ hs, ∀ x ∈ h.2, x ∈ ns) (r : Rch f ns hs (k + 1) lot ws) : lot ≠ [] := by
  cases r with
  | succ r hh e =>
    obtain ⟨_, h2, h3, _⟩ := stepF_some e
    obtain ⟨x, hx⟩ := List.exists_mem_of_ne_nil _ h3
    rw [h2]
    exact List.ne_nil_of_mem (mem_uni.mpr ⟨hm _ hh x (mem_leftW.mp hx).1, .inr hx⟩)
/-- heads and the lamps that they tell -/
structure HsOk (ns : List Str) (gs : List Grp) : Prop where
  nd : (gs.map (·.1)).Nodup
  sub : ∀ g ∈ gs, ∀ x ∈ g.2, x ∈ ns
theorem headsM_mem (hg : HsOk ns gs) {h : List Str × List Str} (hh : h ∈ headsM ns gs) : memW ns gs h.1 = h.2 ∧ (∀ x ∈ h.2, x ∈ ns) ∧ ∀ v, WdOk ns gs (h.1, v) := by
  unfold headsM at hh
  rcases List.mem_append.mp hh with hh | hh
  · rcases List.mem_cons.mp hh with rfl | hh
    · exact ⟨memW_all, fun x hx => hx, fun v => .inl rfl⟩
    · obtain ⟨x, hx, rfl⟩ := List.mem_map.mp hh
      refine ⟨memW_lamp, fun y hy => ?_, fun v => .inr (.inl ⟨x, hx, rfl⟩)⟩
      rw [List.mem_singleton.mp hy]
      exact hx
  · obtain ⟨g, hg', rfl⟩ := List.mem_map.mp hh
    exact ⟨memW_group hg' hg.nd, hg.sub g hg', fun v => .inr (.inr ⟨g, hg', rfl⟩)⟩
theorem headsM_of {w : Wd} (hg : HsOk ns gs) (hw : WdOk ns gs w) : (w.1, memW ns gs w.1) ∈ headsM ns gs := by
  unfold headsM
  rcases hw with h | ⟨x, hx, h⟩ | ⟨g, h1, h⟩ <;> rw [h]
  · exact List.mem_append_left _ List.mem_cons_self
  · rw [memW_lamp]
    exact List.mem_append_left _ (List.mem_cons_of_mem _ (List.mem_map.mpr ⟨x, hx, rfl⟩))
  · rw [memW_group h1 hg.nd]
    exact List.mem_append_right _ (List.mem_map.mpr ⟨g, h1, rfl⟩)
/-- what the words do: the lot gets what is due, all others stay -/
theorem Rch.does (hg : HsOk ns gs) {k : Nat} {lot : List Str} {ws : List Wd} (r : Rch f ns (headsM ns gs) k lot ws) : ∀ {s : List Row}, s.map (·.1) = ns → ∀ x ∈ ns, val (aft0 ns gs ws.reverse s) x = if x ∈ lot then f x else val s x := by
  induction r with
  | zero => intro s _ x _; simp [aft0]
  | @succ k lot o ws h w _ hh e ih =>
    intro s hs x hx
    obtain ⟨e1, e2, e3, e4⟩ := stepF_some e
    obtain ⟨m1, m2, _⟩ := headsM_mem hg hh
    rw [List.reverse_append, List.reverse_singleton, List.singleton_append]
    show val (aft0 ns gs ws.reverse (aftW ns gs noLos 0 w s)) x = _
    rw [ih (by rw [aftW_fst]; exact hs) x hx, val_aftW (by rw [hs]; exact hx), e1, m1, e2]
    by_cases h1 : x ∈ lot
    · rw [if_pos h1, if_pos (mem_uni.mpr ⟨hx, .inl h1⟩)]
    · rw [if_neg h1]
      by_cases h2 : x ∈ h.2
      · have hl := mem_leftW.mpr ⟨h2, h1⟩
        rw [if_pos h2, if_pos (mem_uni.mpr ⟨hx, .inr hl⟩), e4 x hl]
      · rw [if_neg h2, if_neg fun z => by
          rcases (mem_uni.mp z).2 with z | z
          · exact h1 z
          · exact h2 (mem_leftW.mp z).1]
theorem Rch.words (hg : HsOk ns gs) {k : Nat} {lot : List Str} {ws : List Wd} (r : Rch f ns (headsM ns gs) k lot ws) : ∀ w ∈ ws, WdOk ns gs w ∧ ∃ x ∈ ns, w.2 = f x := by
  induction r with
  | zero => intro w hw; cases hw
  | @succ k lot o ws h w _ hh e ih =>
    intro u hu
    rcases List.mem_append.mp hu with hu | hu
    · exact ih u hu
    · obtain rfl := List.mem_singleton.mp hu
      obtain ⟨e1, e2, e3, e4⟩ := stepF_some e
      obtain ⟨m1, m2, m3⟩ := headsM_mem hg hh
      obtain ⟨x, hx⟩ := List.exists_mem_of_ne_nil _ e3
      refine ⟨?_, x, m2 x (mem_leftW.mp hx).1, (e4 x hx).symm⟩
      have := m3 u.2
      rw [← e1] at this
      exact this
/-- a lot at which nothing is left to be told -/
def DoneL (f : Str → Int) (ns : List Str) (s : List Row) (lot : List Str) : Prop := ∀ x ∈ ns, x ∉ lot → val s x = f x
/-- whatever words heal, as many steps back or fewer lead to a lot that is done -/
theorem back_of (hg : HsOk ns gs) : ∀ (ws : List Wd) {s : List Row}, (∀ w ∈ ws, WdOk ns gs w) → s.map (·.1) = ns → (∀ x ∈ ns, val (aft0 ns gs ws s) x = f x) → ∃ k lot us, k ≤ ws.length ∧ Rch f ns (headsM ns gs) k lot us ∧ DoneL f ns s lot
  | [], s, _, _, h => ⟨0, [], [], Nat.le_refl _, .zero, fun x hx _ => h x hx⟩
  | w :: ws, s, hw, hs, h => by
    obtain ⟨k, lot, us, h1, h2, h3⟩ := back_of hg ws (s := aftW ns gs noLos 0 w s) (fun u hu => hw u (List.mem_cons_of_mem _ hu)) (by rw [aftW_fst]; exact hs) h
    have hm := headsM_of hg (hw w List.mem_cons_self)
    obtain ⟨m1, m2, _⟩ := headsM_mem hg hm
    have at1 : ∀ x ∈ ns, x ∉ lot → (if x ∈ memW ns gs w.1 then w.2 else val s x) = f x := fun x hx hn => by
      rw [← h3 x hx hn, val_aftW (by rw [hs]; exact hx)]
    by_cases hl : leftW (memW ns gs w.1) lot = []
    · refine ⟨k, lot, us, by rw [List.length_cons]; omega, h2, fun x hx hn => ?_⟩
      have := at1 x hx hn
      rw [if_neg fun z => by
        have := mem_leftW.mpr ⟨z, hn⟩
        rw [hl] at this
        cases this] at this
      exact this
    · have hv : ∀ x ∈ leftW (memW ns gs w.1) lot, f x = w.2 := fun x hx => by
        obtain ⟨a1, a2⟩ := mem_leftW.mp hx
        have := at1 x (m2 x a1) a2
        rw [if_pos a1] at this
        exact this.symm
      refine ⟨k + 1, _, _, by rw [List.length_cons]; omega, .succ h2 hm (stepF_of hl hv), fun x hx hn => ?_⟩
      have n1 : x ∉ lot := fun z => hn (mem_uni.mpr ⟨hx, .inl z⟩)
      have n2 : x ∉ memW ns gs w.1 := fun z => hn (mem_uni.mpr ⟨hx, .inr (mem_leftW.mpr ⟨z, n1⟩)⟩)
      have := at1 x hx n1
      rw [if_neg n2] at this
      exact this
/-- lamp by lamp all is healed -/
def oneByOne (f : Str → Int) (ns : List Str) : List Wd := ns.map fun x => ([("lamp" : Str), x], f x)
theorem oneByOne_ok {v : Wd} (h : v ∈ oneByOne f ns) : WdOk ns gs v ∧ ∃ x ∈ ns, v.2 = f x := by
  obtain ⟨x, hx, rfl⟩ := List.mem_map.mp h
  exact ⟨.inr (.inl ⟨x, hx, rfl⟩), x, hx, rfl⟩
theorem oneByOne_does : ∀ (l : List Str) {s : List Row} (x : Str), x ∈ s.map (·.1) → val (aft0 ns gs (l.map fun x => ([("lamp" : Str), x], f x)) s) x = if x ∈ l then f x else val s x
  | [], s, x, hx => by simp [aft0]
  | y :: l, s, x, hx => by
    show val (aft0 ns gs (l.map fun x => ([("lamp" : Str), x], f x)) (aftW ns gs noLos 0 ([("lamp" : Str), y], f y) s)) x = _
    rw [oneByOne_does l x (by rw [aftW_fst]; exact hx), val_aftW hx, memW_lamp]
    by_cases h1 : x ∈ l
    · simp [h1]
    · by_cases h2 : x = y
      · subst h2; simp
      · simp [h1, h2]
end
/-! ### the fewest words, as what they are -/
structure Few (ns : List Str) (gs : List Grp) (due s : List Row) (ws : List Wd) : Prop where
  ok : ∀ w ∈ ws, WdOk ns gs w ∧ ∃ x ∈ ns, w.2 = val due x
  heal : aft0 ns gs ws s = due
  few : ∀ us : List Wd, (∀ u ∈ us, WdOk ns gs u) → aft0 ns gs us s = due → ws.length ≤ us.length
section
variable {ns : List Str} {gs : List Grp} {due s : List Row}
theorem few_of (hg : HsOk ns gs) (hn : ns.Nodup) (hs : s.map (·.1) = ns) (hd : due.map (·.1) = ns) {k : Nat} {lot : List Str} {ws : List Wd} (r : Rch (val due) ns (headsM ns gs) k lot ws) (hdone : DoneL (val due) ns s lot)
    (hmin : ∀ j lot ws, j < k → Rch (val due) ns (headsM ns gs) j lot ws → ¬ DoneL (val due) ns s lot) : Few ns gs due s ws.reverse := by
  refine ⟨fun w hw => r.words hg w (List.mem_reverse.mp hw), ?_, fun us hu he => ?_⟩
  · refine rows_ext (by rw [aft0_fst, hs, hd]) (by rw [aft0_fst, hs]; exact hn) fun x hx => ?_
    rw [aft0_fst, hs] at hx
    rw [r.does hg hs x hx]
    by_cases h : x ∈ lot
    · rw [if_pos h]
    · rw [if_neg h]; exact hdone x hx h
  · obtain ⟨j, lot', us', h1, h2, h3⟩ := back_of (f := val due) hg us hu hs fun x _ => by rw [he]
    rw [List.length_reverse, r.len]
    exact Nat.le_trans (Nat.le_of_not_lt fun hlt => hmin j lot' us' hlt h2 h3) h1
theorem few_one (hg : HsOk ns gs) (hs : s.map (·.1) = ns) : ∃ j lot ws, j ≤ ns.length ∧ Rch (val due) ns (headsM ns gs) j lot ws ∧ DoneL (val due) ns s lot := by
  obtain ⟨j, lot, us, h1, h2, h3⟩ := back_of (f := val due) (gs := gs) hg (oneByOne (val due) ns) (s := s) (fun w hw => (oneByOne_ok hw).1) hs fun x hx => by
    unfold oneByOne
    rw [oneByOne_does ns x (by rw [hs]; exact hx), if_pos hx]
  exact ⟨j, lot, us, by rw [oneByOne, List.length_map] at h1; exact h1, h2, h3⟩
theorem Few.len (hn : ns.Nodup) (hd : due.map (·.1) = ns) (hs : s.map (·.1) = ns) {ws : List Wd} (h : Few ns gs due s ws) : ws.length ≤ ns.length := by
  have := h.few (oneByOne (val due) ns) (fun w hw => (oneByOne_ok hw).1) (rows_ext (by rw [aft0_fst, hs, hd]) (by rw [aft0_fst, hs]; exact hn) fun x hx => by
    rw [aft0_fst, hs] at hx
    unfold oneByOne
    rw [oneByOne_does ns x (by rw [hs]; exact hx), if_pos hx])
  rw [oneByOne, List.length_map] at this
  exact this
end
/-! ### a round: from the lots of so many steps to those of one more -/
abbrev LotK := List (List Str × List Wd)
def stepsL (f : Str → Int) (ns : List Str) (gs : List Grp) (lot : List Str) : List (Wd × List Str) := (headsM ns gs).filterMap (stepF f ns lot)
def roundL (f : Str → Int) (ns : List Str) (gs : List Grp) (K : LotK) (ls : List (List Str)) : LotK := ls.foldl (fun fr lot => (stepsL f ns gs lot).foldl (fun fr p => putA fr p.2 (((lkA K lot).getD []) ++ [p.1])) fr) []
structure KL (f : Str → Int) (ns : List Str) (gs : List Grp) (k : Nat) (K : LotK) : Prop where
  nd : (K.map (·.1)).Nodup
  snd : ∀ p ∈ K, Rch f ns (headsM ns gs) k p.1 p.2
  all : ∀ lot ws, Rch f ns (headsM ns gs) k lot ws → lot ∈ K.map (·.1)
section
variable {f : Str → Int} {ns : List Str} {gs : List Grp}
theorem KL.zero : KL f ns gs 0 [([], [])] := by
  refine ⟨by simp, fun p hp => ?_, fun lot ws r => ?_⟩
  · obtain rfl := List.mem_singleton.mp hp
    exact .zero
  · cases r
    exact List.mem_cons_self
theorem putA_fst {α β : Type} [DecidableEq α] (s : List (α × β)) (a : α) (b : β) (x : α) : x ∈ (putA s a b).map (·.1) ↔ x = a ∨ x ∈ s.map (·.1) := by
  constructor
  · intro h
    obtain ⟨p, hp, rfl⟩ := List.mem_map.mp h
    rcases putA_mem hp with rfl | ⟨hp, _⟩
    · exact .inl rfl
    · exact .inr (List.mem_map_of_mem hp)
  · intro h
    by_cases e : x = a
    · have := lkA_mem (putA_same s a b)
      rw [e]
      exact List.mem_map_of_mem this
    · have h := h.resolve_left e
      obtain ⟨c, hc⟩ := lkA_some h
      have := lkA_mem ((putA_other s b e).trans hc)
      exact List.mem_map_of_mem this
/-- what holds while a round's new lots are made: P of those that are stored -/
structure RoundI (f : Str → Int) (ns : List Str) (gs : List Grp) (k : Nat) (fr : LotK) : Prop where
  nd : (fr.map (·.1)).Nodup
  snd : ∀ p ∈ fr, Rch f ns (headsM ns gs) (k + 1) p.1 p.2
theorem RoundI.put {k : Nat} {fr : LotK} (h : RoundI f ns gs k fr) {o : List Str} {ws : List Wd} (r : Rch f ns (headsM ns gs) (k + 1) o ws) : RoundI f ns gs k (putA fr o ws) := by
  refine ⟨putA_nodup h.nd, fun p hp => ?_⟩
  rcases putA_mem hp with rfl | ⟨hp, _⟩
  · exact r
  · exact h.snd p hp
theorem round_in {k : Nat} {lot : List Str} {us : List Wd} (r : Rch f ns (headsM ns gs) k lot us) : ∀ (l : List (Wd × List Str)), (∀ p ∈ l, p ∈ stepsL f ns gs lot) → ∀ {fr : LotK}, RoundI f ns gs k fr → RoundI f ns gs k (l.foldl (fun fr p => putA fr p.2 (us ++ [p.1])) fr) ∧ (∀ x, x ∈ (l.foldl (fun fr p => putA fr p.2 (us ++ [p.1])) fr).map (·.1) ↔ x ∈ l.map (·.2) ∨ x ∈ fr.map (·.1))
  | [], _, fr, h => ⟨h, fun x => by simp⟩
  | p :: l, hl, fr, h => by
    obtain ⟨hh, h1, h2⟩ := List.mem_filterMap.mp (hl p List.mem_cons_self)
    obtain ⟨a, b⟩ := round_in r l (fun q hq => hl q (List.mem_cons_of_mem _ hq)) (h.put (.succ r h1 h2))
    refine ⟨a, fun x => ?_⟩
    rw [List.foldl_cons, b x, putA_fst, List.map_cons, List.mem_cons]
    constructor
    · rintro (z | z | z)
      · exact .inl (.inr z)
      · exact .inl (.inl z)
      · exact .inr z
    · rintro ((z | z) | z)
      · exact .inr (.inl z)
      · exact .inl z
      · exact .inr (.inr z)
theorem round_out {k : Nat} {K : LotK} (hK : KL f ns gs k K) : ∀ (ls : List (List Str)), (∀ l ∈ ls, l ∈ K.map (·.1)) → ∀ {fr : LotK}, RoundI f ns gs k fr →
    RoundI f ns gs k (ls.foldl (fun fr lot => (stepsL f ns gs lot).foldl (fun fr p => putA fr p.2 (((lkA K lot).getD []) ++ [p.1])) fr) fr) ∧ ∀ x, (x ∈ fr.map (·.1) ∨ ∃ lot ∈ ls, x ∈ (stepsL f ns gs lot).map (·.2)) → x ∈ (ls.foldl (fun fr lot => (stepsL f ns gs lot).foldl (fun fr p => putA fr p.2 (((lkA K lot).getD []) ++ [p.1])) fr) fr).map (·.1)
  | [], _, fr, h => ⟨h, fun x hx => by
    rcases hx with hx | ⟨_, h, _⟩
    · exact hx
    · cases h⟩
  | lot :: ls, hl, fr, h => by
    obtain ⟨us, hu⟩ := lkA_some (hl lot List.mem_cons_self)
    have r : Rch f ns (headsM ns gs) k lot us := hK.snd _ (lkA_mem hu)
    obtain ⟨a, b⟩ := round_in r (stepsL f ns gs lot) (fun p hp => hp) h
    have e : (fun (fr : LotK) (p : Wd × List Str) => putA fr p.2 (((lkA K lot).getD []) ++ [p.1])) = fun fr p => putA fr p.2 (us ++ [p.1]) := by
      funext fr p
      rw [hu]
      rfl
    rw [List.foldl_cons, e]
    obtain ⟨c, d⟩ := round_out hK ls (fun l h => hl l (List.mem_cons_of_mem _ h)) a
    refine ⟨c, fun x hx => d x ?_⟩
    rcases hx with hx | ⟨l, h1, h2⟩
    · exact .inl ((b x).mpr (.inr hx))
    · rcases List.mem_cons.mp h1 with rfl | h1
      · exact .inl ((b x).mpr (.inl h2))
      · exact .inr ⟨l, h1, h2⟩
theorem KL.next {k : Nat} {K : LotK} (hK : KL f ns gs k K) {ls : List (List Str)} (hp : ls.Perm (K.map (·.1))) : KL f ns gs (k + 1) (roundL f ns gs K ls) := by
  obtain ⟨a, b⟩ := round_out hK ls (fun l hl => hp.mem_iff.mp hl) (fr := []) ⟨List.nodup_nil, fun p hp => nomatch hp⟩
  refine ⟨a.nd, a.snd, fun lot ws r => ?_⟩
  cases r with
  | succ r hh e =>
    refine b _ (.inr ⟨_, hp.mem_iff.mpr (hK.all _ _ r), ?_⟩)
    exact List.mem_map.mpr ⟨_, List.mem_filterMap.mpr ⟨_, hh, e⟩, rfl⟩
/-- few lots -/
def subsL : List Str → List (List Str)
  | [] => [[]]
  | x :: l => subsL l ++ (subsL l).map (x :: ·)
theorem subsL_len : ∀ l : List Str, (subsL l).length = 2 ^ l.length
  | [] => rfl
  | x :: l => by
    unfold subsL
    rw [List.length_append, List.length_map, subsL_len l, List.length_cons, Nat.pow_succ]
    omega
theorem subsL_mem : ∀ {l m : List Str}, m.Sublist l → m ∈ subsL l
  | [], m, h => by
    cases h
    exact List.mem_cons_self
  | x :: l, m, h => by
    unfold subsL
    cases h with
    | cons _ h => exact List.mem_append_left _ (subsL_mem h)
    | cons_cons _ h => exact List.mem_append_right _ (List.mem_map_of_mem (subsL_mem h))
theorem lots_few {ls : List (List Str)} (hn : ls.Nodup) (hs : ∀ l ∈ ls, l.Sublist ns) (h8 : ns.length ≤ 8) : ls.length ≤ 256 := by
  have h1 := nodup_len hn fun l hl => subsL_mem (hs l hl)
  rw [subsL_len] at h1
  exact Nat.le_trans h1 (Nat.pow_le_pow_right (by decide) h8)
theorem KL.len {k : Nat} {K : LotK} (hK : KL f ns gs k K) (h8 : ns.length ≤ 8) : K.length ≤ 256 := by
  have := lots_few hK.nd (fun l hl => by
    obtain ⟨p, hp, rfl⟩ := List.mem_map.mp hl
    exact (hK.snd p hp).sub) h8
  rwa [List.length_map] at this
theorem RoundI.len {k : Nat} {K : LotK} (hK : RoundI f ns gs k K) (h8 : ns.length ≤ 8) : K.length ≤ 256 := by
  have := lots_few hK.nd (fun l hl => by
    obtain ⟨p, hp, rfl⟩ := List.mem_map.mp hl
    exact (hK.snd p hp).sub) h8
  rwa [List.length_map] at this
end
/-! ### lots as data, sorted -/
def sortLs (ls : List (List Str)) : List (List Str) := ls.mergeSort fun a b => PySem.W.dataLe false id (strsD a) (strsD b)
theorem sortLs_perm (ls : List (List Str)) : (sortLs ls).Perm ls := List.mergeSort_perm _ _
theorem sortD_lots (ls : List (List Str)) : sortD (ls.map strsD) = (sortLs ls).map strsD := by
  unfold sortD sortLs
  exact (List.map_mergeSort (f := strsD) fun a _ b _ => rfl).symm
theorem alikeAll_strs : ∀ a b : List Str, PySem.W.alikeAll (a.map fun x => (.str x : D)) (b.map fun x => (.str x : D)) = true
  | [], _ => by simp [PySem.W.alikeAll]
  | _ :: _, [] => by simp [PySem.W.alikeAll]
  | x :: a, y :: b => by
    rw [List.map_cons, List.map_cons, PySem.W.alikeAll, alikeAll_strs a b]
    rfl
theorem alike_strs (a b : List Str) : PySem.W.alike (strsD a) (strsD b) = true := by
  unfold strsD
  rw [PySem.W.alike]
  exact alikeAll_strs a b
theorem lay_strs : ∀ {l : List Str}, (∀ x ∈ l, TxOk x) → PyData.canLayAll0 (l.map fun x => (.str x : D)) = true
  | [], _ => by simp [PyData.canLayAll0]
  | x :: l, h => by
    rw [List.map_cons, PyData.canLayAll0, lay_strs fun y hy => h y (List.mem_cons_of_mem _ hy)]
    have := (h x List.mem_cons_self).2
    simp [PyData.canLay0, this]
theorem dep_strs : ∀ l : List Str, PyData.depthAll (l.map fun x => (.str x : D)) = 0
  | [] => by simp [PyData.depthAll]
  | x :: l => by
    rw [List.map_cons, PyData.depthAll, dep_strs l]
    rfl
theorem lay_lots : ∀ {ls : List (List Str)}, (∀ l ∈ ls, ∀ x ∈ l, TxOk x) → PyData.canLayAll0 (ls.map strsD) = true
  | [], _ => by simp [PyData.canLayAll0]
  | l :: ls, h => by
    rw [List.map_cons, PyData.canLayAll0, lay_lots fun y hy => h y (List.mem_cons_of_mem _ hy)]
    unfold strsD
    rw [PyData.canLay0, lay_strs (h l List.mem_cons_self)]
    rfl
theorem dep_lots : ∀ ls : List (List Str), PyData.depthAll (ls.map strsD) ≤ 1
  | [] => by simp [PyData.depthAll]
  | l :: ls => by
    rw [List.map_cons, PyData.depthAll]
    unfold strsD
    rw [PyData.depth, dep_strs]
    have := dep_lots ls
    unfold strsD at this
    omega
theorem sortB_lots {ls : List (List Str)} (h : ∀ l ∈ ls, l ≠ []) : sortB (ls.map strsD) = true := by
  unfold sortB
  rw [Bool.and_eq_true, Bool.or_eq_true]
  refine ⟨List.all_eq_true.mpr fun x hx => List.all_eq_true.mpr fun y hy => ?_, .inl (List.all_eq_true.mpr fun x hx => ?_)⟩
  · obtain ⟨a, _, rfl⟩ := List.mem_map.mp hx
    obtain ⟨b, _, rfl⟩ := List.mem_map.mp hy
    exact alike_strs a b
  · obtain ⟨a, ha, rfl⟩ := List.mem_map.mp hx
    cases a with
    | nil => exact absurd rfl (h _ ha)
    | cons x a => rfl
theorem sortB1_lots {ls : List (List Str)} (h : (∀ l ∈ ls, l ≠ []) ∨ ls.length ≤ 1) : sortB1 (ls.map strsD) = true := by
  unfold sortB1
  rw [Bool.or_eq_true]
  rcases h with h | h
  · exact .inl (sortB_lots h)
  · refine .inr (Bool.and_eq_true_iff.mpr ⟨decide_eq_true (by rw [List.length_map]; exact h), List.all_eq_true.mpr fun x hx => ?_⟩)
    obtain ⟨a, ha, rfl⟩ := List.mem_map.mp hx
    rw [alike_strs]
    rfl
/-- texts of a tuple sorted -/
theorem dSortedT_strs {l : List Str} (ht : ∀ x ∈ l, TxOk x) : dSortedT (.tuple (l.map fun x => (.str x : D))) = some ((sortSt l).map fun x => (.str x : D)) := by
  have h1 : sortB (l.map fun x => (.str x : D)) = true := by
    unfold sortB
    rw [Bool.and_eq_true, Bool.or_eq_true]
    refine ⟨List.all_eq_true.mpr fun x hx => List.all_eq_true.mpr fun y hy => ?_, .inr (List.all_eq_true.mpr fun x hx => ?_)⟩
    · obtain ⟨a, _, rfl⟩ := List.mem_map.mp hx
      obtain ⟨b, _, rfl⟩ := List.mem_map.mp hy
      rfl
    · obtain ⟨a, _, rfl⟩ := List.mem_map.mp hx
      rfl
  have h2 : sortD (l.map fun x => (.str x : D)) = (sortSt l).map fun x => (.str x : D) := by
    unfold sortD sortSt
    refine (List.map_mergeSort (f := fun x => (.str x : D)) fun a _ b _ => ?_).symm
    have := congrFun (congrFun (PySem.W.dataLe_str (β := Str) id) a) b
    have e : PySem.W.dataLe false id (PyData.str a) (PyData.str b) = decide (a.cps.toList ≤ b.cps.toList) := this
    rw [e, Bool.eq_iff_iff, decide_eq_true_eq]
    exact leSt_iff
  show (if _ then _ else _) = _
  rw [if_pos ⟨by unfold sortB1; rw [h1]; rfl, lay_strs ht, by rw [dep_strs]; decide⟩, h2]
/-- names in order -/
structure NsOk (ns : List Str) : Prop where
  le8 : ns.length ≤ 8
  tx : ∀ x ∈ ns, TxOk x
  nd : ns.Nodup
  pw : ns.Pairwise fun a b => leSt a b = true
theorem sort_uni {ns lot l : List Str} (hn : NsOk ns) (h1 : lot.Sublist ns) (h2 : l.Nodup) (h3 : ∀ x ∈ l, x ∈ ns ∧ x ∉ lot) : sortSt (lot ++ l) = uni ns lot l := by
  have p1 : (uni ns lot l).Pairwise fun a b => leSt a b = true := hn.pw.sublist List.filter_sublist
  have n1 : (uni ns lot l).Nodup := hn.nd.sublist List.filter_sublist
  have n2 : (lot ++ l).Nodup := List.nodup_append.mpr ⟨hn.nd.sublist h1, h2, fun x hx y hy e => (h3 y hy).2 (e ▸ hx)⟩
  have pm : (uni ns lot l).Perm (lot ++ l) := (List.perm_ext_iff_of_nodup n1 n2).mpr fun x => by
    rw [mem_uni, List.mem_append]
    exact ⟨fun h => h.2, fun h => ⟨h.elim (fun z => h1.subset z) fun z => (h3 x z).1, h⟩⟩
  exact (List.Perm.eq_of_pairwise (le := fun a b => leSt a b = true) (fun a b _ _ a1 a2 => leSt_antisymm a1 a2) p1 (List.pairwise_mergeSort leSt_trans leSt_total _) (pm.trans (List.mergeSort_perm _ _).symm)).symm
/-- a dict of lots, their words -/
abbrev wordsD (ws : List Wd) : D := .list (ws.map encW)
abbrev lotD (K : LotK) : List (D × D) := K.map fun p => (strsD p.1, wordsD p.2)
theorem look_lotD (K : LotK) (l : List Str) : lookN (lotD K) (keyS l) = (lkA K l).map wordsD := lookN_gen strsD keyS nkT_strs keyS_inj wordsD l K
theorem put_lotD (K : LotK) (l : List Str) (ws : List Wd) : putN (lotD K) (strsD l) (keyS l) (wordsD ws) = lotD (putA K l ws) := putN_gen strsD keyS nkT_strs keyS_inj wordsD K l ws
theorem dSortedK_lots {K : LotK} (ht : ∀ p ∈ K, ∀ x ∈ p.1, TxOk x) (h : (∀ p ∈ K, p.1 ≠ []) ∨ K.length ≤ 1) : dSortedK (.dict ((.bool true, .none) :: lotD K)) = some ((sortLs (K.map (·.1))).map strsD) := by
  have e : (lotD K).map (·.1) = (K.map (·.1)).map strsD := by
    rw [List.map_map, List.map_map]
    rfl
  show (if _ then _ else _) = _
  rw [e, if_pos ⟨sortB1_lots (h.imp (fun h l hl => by
    obtain ⟨p, hp, rfl⟩ := List.mem_map.mp hl
    exact h p hp) fun h => by rw [List.length_map]; exact h), lay_lots (fun l hl => by
    obtain ⟨p, hp, rfl⟩ := List.mem_map.mp hl
    exact ht p hp), Nat.le_trans (dep_lots _) (by decide)⟩, sortD_lots]
theorem dIdx_lotD (K : LotK) (l : List Str) : dIdx (.dict ((.bool true, .none) :: lotD K)) (strsD l) = (lkA K l).map wordsD := by
  have h : keyOf (strsD l) = none := rfl
  unfold dIdx
  simp only [h, nkT_strs]
  exact look_lotD K l
/-! ### what the defs read -/
theorem dIdx_rowsD (s : List Row) (x : Str) : dIdx (.dict (s.map fun p => ((.str p.1 : D), (.int p.2 : D)))) (.str x) = (lk s x).map .int := dIdx_rows
def doneB (f : Str → Int) (s : List Row) (lot : List Str) : Bool := s.all fun p => lot.contains p.1 || decide (p.2 = f p.1)
theorem doneB_iff {f : Str → Int} {s : List Row} {ns lot : List Str} (hn : ns.Nodup) (hs : s.map (·.1) = ns) : doneB f s lot = true ↔ DoneL f ns s lot := by
  have hv : ∀ p ∈ s, val s p.1 = p.2 := fun p hp => by
    have : lk s p.1 = some p.2 := by
      have := lk_map_mem (fun q => q.2) hp (by rw [hs]; exact hn)
      simpa using this
    unfold val
    rw [this]
    rfl
  unfold doneB DoneL
  rw [List.all_eq_true]
  constructor
  · intro h x hx hl
    rw [← hs] at hx
    obtain ⟨p, hp, rfl⟩ := List.mem_map.mp hx
    rw [hv p hp]
    have := h p hp
    rw [Bool.or_eq_true, List.contains_iff_mem, decide_eq_true_eq] at this
    exact this.resolve_left hl
  · intro h p hp
    rw [Bool.or_eq_true, List.contains_iff_mem, decide_eq_true_eq]
    by_cases hl : p.1 ∈ lot
    · exact .inl hl
    · refine .inr ?_
      rw [← hv p hp]
      exact h p.1 (by rw [← hs]; exact List.mem_map_of_mem (f := fun p : Row => p.1) hp) hl
structure GW (ns : List Str) (gs : List Grp) : Prop where
  ok : HsOk ns gs
  len : gs.length ≤ 6
  sl : ∀ g ∈ gs, g.2.Sublist ns
theorem headsM_sl {ns : List Str} {gs : List Grp} (hg : GW ns gs) {h : List Str × List Str} (hh : h ∈ headsM ns gs) : h.2.Sublist ns ∧ h.1.length ≤ 2 := by
  unfold headsM at hh
  rcases List.mem_append.mp hh with hh | hh
  · rcases List.mem_cons.mp hh with rfl | hh
    · exact ⟨List.Sublist.refl _, Nat.le_succ 1⟩
    · obtain ⟨x, hx, rfl⟩ := List.mem_map.mp hh
      exact ⟨List.singleton_sublist.mpr hx, Nat.le_refl _⟩
  · obtain ⟨g, hg', rfl⟩ := List.mem_map.mp hh
    exact ⟨hg.sl g hg', Nat.le_refl _⟩
abbrev encSt (p : Wd × List Str) : D := .tuple [encW p.1, strsD p.2]
abbrev encH (h : List Str × List Str) : D := .tuple [strsD h.1, strsD h.2]
end FL
end L2

/-! M21: all levels that words lead to, in rounds -/
namespace L2
namespace FL
open PySem
/-! ### rows as keys -/
def keyP (p : Row) : NestedKey := .tup [.text p.1, .num p.2]
def keyR (s : List Row) : NestedKey := .tup (s.map keyP)
abbrev rowsD (s : List Row) : D := .tuple (s.map encP)
theorem nk_encP (p : Row) : nkOf (encP p) = some (keyP p) := by
  unfold encP keyP
  rw [nkOf]
  rfl
theorem nks_rows : ∀ s : List Row, nksOf (s.map encP) = some (s.map keyP)
  | [] => rfl
  | p :: s => by
    rw [List.map_cons, nksOf, nk_encP, nks_rows s]
    rfl
theorem depth_keyP : ∀ s : List Row, NestedKey.depthAll (s.map keyP) ≤ 1
  | [] => Nat.zero_le _
  | p :: s => by
    have e : (keyP p).depth = 1 := rfl
    rw [List.map_cons, NestedKey.depthAll, e]
    have := depth_keyP s
    omega
theorem nkT_rows (s : List Row) : nkT (.tuple (s.map encP)) = some (keyR s) := by
  have h1 : nkOf (.tuple (s.map encP)) = some (.tup (s.map keyP)) := by
    rw [nkOf, nks_rows]
    rfl
  have h2 : (NestedKey.tup (s.map keyP)).depth ≤ 8 := by
    rw [NestedKey.depth]
    have := depth_keyP s
    omega
  have h3 : isTupD (.tuple (s.map encP)) = true := rfl
  unfold nkT keyR
  simp only [h1, h2, h3, if_true]
theorem keyR_inj (a b : List Row) (h : keyR a = keyR b) : a = b := by
  unfold keyR at h
  injection h with h
  exact (List.map_inj_right fun x y h => by
    obtain ⟨x1, x2⟩ := x
    obtain ⟨y1, y2⟩ := y
    unfold keyP at h
    injection h with h
    injection h with h1 h2
    injection h1 with h1
    injection h2 with h2 _
    injection h2 with h2
    dsimp only at h1 h2
    rw [h1, h2]).mp h
abbrev kdR (S : List (List Row)) : List (D × D) := S.map fun t => ((.tuple (t.map encP) : D), (.bool true : D))
theorem look_kdR (S : List (List Row)) (t : List Row) : (lookN (kdR S) (keyR t)).isSome = decide (t ∈ S) := by
  have h := lookN_gen rowsD keyR nkT_rows keyR_inj (fun b : Bool => (.bool b : D)) t (S.map fun k => (k, true))
  rw [List.map_map] at h
  have h : lookN (kdR S) (keyR t) = _ := h
  rw [h, Option.isSome_map, Bool.eq_iff_iff, decide_eq_true_eq]
  cases e : lkA (S.map fun k => (k, true)) t with
  | none =>
    have := lkA_none.mp e
    rw [List.map_map] at this
    simp at this
    simp [this]
  | some b =>
    obtain ⟨k, hk, e3⟩ := List.mem_map.mp (lkA_mem e)
    cases e3
    simp [hk]
theorem put_kdR {S : List (List Row)} {t : List Row} (h : t ∉ S) : putN (kdR S) (.tuple (t.map encP)) (keyR t) (.bool true) = kdR (S ++ [t]) := by
  unfold putN
  rw [look_kdR, if_neg (by simp [h])]
  unfold kdR
  rw [List.map_append]
  rfl
/-! ### rounds -/
section
variable (ns : List Str) (gs : List Grp) (W : List Wd)
def bfW (t : List Row) (q : List (List Row) × List (List Row)) (w : Wd) : List (List Row) × List (List Row) := if aftW ns gs noLos 0 w t ∈ q.1 then q else (q.1 ++ [aftW ns gs noLos 0 w t], q.2 ++ [aftW ns gs noLos 0 w t])
def bfT (q : List (List Row) × List (List Row)) (t : List Row) : List (List Row) × List (List Row) := W.foldl (bfW ns gs t) q
/-- what is known behind m rounds from s: S seen, R the last ones -/
structure Bf (s : List Row) (m : Nat) (S R : List (List Row)) : Prop where
  nd : S.Nodup
  snd : ∀ t ∈ S, ∃ ws : List Wd, (∀ w ∈ ws, w ∈ W) ∧ ws.length ≤ m ∧ aft0 ns gs ws s = t
  all : ∀ ws : List Wd, (∀ w ∈ ws, w ∈ W) → ws.length ≤ m → aft0 ns gs ws s ∈ S
  sub : ∀ t ∈ R, t ∈ S
  cl : ∀ t ∈ S, t ∉ R → ∀ w ∈ W, aftW ns gs noLos 0 w t ∈ S
/-- .. within a round -/
structure BfI (S R : List (List Row)) (q : List (List Row) × List (List Row)) : Prop where
  eq : q.1 = S ++ q.2
  nd : q.1.Nodup
  new : ∀ o ∈ q.2, ∃ t ∈ R, ∃ w ∈ W, o = aftW ns gs noLos 0 w t
end
section
variable {ns : List Str} {gs : List Grp} {W : List Wd} {s : List Row} {m : Nat} {S R : List (List Row)}
theorem Bf.zero : Bf ns gs W s 0 [s] [s] := by
  refine ⟨by simp, fun t ht => ?_, fun ws hw hl => ?_, fun t ht => ht, fun t ht hn => absurd ht hn⟩
  · obtain rfl := List.mem_singleton.mp ht
    exact ⟨[], (fun w hw => nomatch hw), Nat.le_refl _, rfl⟩
  · obtain rfl := List.eq_nil_of_length_eq_zero (Nat.le_zero.mp hl)
    exact List.mem_cons_self
theorem BfI.put {q : List (List Row) × List (List Row)} (h : BfI ns gs W S R q) {t : List Row} {w : Wd} (ht : t ∈ R) (hw : w ∈ W) : BfI ns gs W S R (bfW ns gs t q w) ∧ (∀ o ∈ q.1, o ∈ (bfW ns gs t q w).1) ∧ aftW ns gs noLos 0 w t ∈ (bfW ns gs t q w).1 := by
  unfold bfW
  split
  · rename_i hm
    exact ⟨h, fun o ho => ho, hm⟩
  · rename_i hm
    refine ⟨⟨by rw [h.eq, List.append_assoc], ?_, fun o ho => ?_⟩, fun o ho => List.mem_append_left _ ho, List.mem_append_right _ List.mem_cons_self⟩
    · refine List.nodup_append.mpr ⟨h.nd, by simp, fun x hx y hy => ?_⟩
      rw [List.mem_singleton.mp hy]
      rintro rfl
      exact hm hx
    · rcases List.mem_append.mp ho with ho | ho
      · exact h.new o ho
      · exact ⟨t, ht, w, hw, List.mem_singleton.mp ho⟩
theorem bf_in {t : List Row} (ht : t ∈ R) : ∀ (l : List Wd), (∀ w ∈ l, w ∈ W) → ∀ {q : List (List Row) × List (List Row)}, BfI ns gs W S R q → BfI ns gs W S R (l.foldl (bfW ns gs t) q) ∧ (∀ o ∈ q.1, o ∈ (l.foldl (bfW ns gs t) q).1) ∧ ∀ w ∈ l, aftW ns gs noLos 0 w t ∈ (l.foldl (bfW ns gs t) q).1
  | [], _, q, h => ⟨h, fun o ho => ho, fun w hw => nomatch hw⟩
  | w :: l, hl, q, h => by
    obtain ⟨a1, a2, a3⟩ := h.put ht (hl w List.mem_cons_self)
    obtain ⟨b1, b2, b3⟩ := bf_in ht l (fun u hu => hl u (List.mem_cons_of_mem _ hu)) a1
    refine ⟨b1, fun o ho => b2 o (a2 o ho), fun u hu => ?_⟩
    rcases List.mem_cons.mp hu with rfl | hu
    · exact b2 _ a3
    · exact b3 u hu
theorem bf_out : ∀ (l : List (List Row)), (∀ t ∈ l, t ∈ R) → ∀ {q : List (List Row) × List (List Row)}, BfI ns gs W S R q → BfI ns gs W S R (l.foldl (bfT ns gs W) q) ∧ (∀ o ∈ q.1, o ∈ (l.foldl (bfT ns gs W) q).1) ∧ ∀ t ∈ l, ∀ w ∈ W, aftW ns gs noLos 0 w t ∈ (l.foldl (bfT ns gs W) q).1
  | [], _, q, h => ⟨h, fun o ho => ho, fun t ht => nomatch ht⟩
  | t :: l, hl, q, h => by
    obtain ⟨a1, a2, a3⟩ := bf_in (hl t List.mem_cons_self) W (fun w hw => hw) h
    obtain ⟨b1, b2, b3⟩ := bf_out l (fun u hu => hl u (List.mem_cons_of_mem _ hu)) a1
    refine ⟨b1, fun o ho => b2 o (a2 o ho), fun u hu w hw => ?_⟩
    rcases List.mem_cons.mp hu with rfl | hu
    · exact b2 _ (a3 w hw)
    · exact b3 u hu w hw
theorem BfI.start (h : S.Nodup) : BfI ns gs W S R (S, []) := ⟨by simp, h, fun o ho => nomatch ho⟩
theorem Bf.next (h : Bf ns gs W s m S R) : Bf ns gs W s (m + 1) (R.foldl (bfT ns gs W) (S, [])).1 (R.foldl (bfT ns gs W) (S, [])).2 := by
  obtain ⟨a1, a2, a3⟩ := bf_out (W := W) R (fun t ht => ht) (BfI.start (ns := ns) (gs := gs) (R := R) h.nd)
  generalize R.foldl (bfT ns gs W) (S, []) = q at a1 a2 a3
  refine ⟨a1.nd, fun t ht => ?_, fun ws hw hl => ?_, fun t ht => by rw [a1.eq]; exact List.mem_append_right _ ht, fun t ht hn w hw => ?_⟩
  · rw [a1.eq] at ht
    rcases List.mem_append.mp ht with ht | ht
    · obtain ⟨ws, h1, h2, h3⟩ := h.snd t ht
      exact ⟨ws, h1, by omega, h3⟩
    · obtain ⟨t0, h1, w, hw, rfl⟩ := a1.new t ht
      obtain ⟨ws, h3, h4, h5⟩ := h.snd t0 (h.sub t0 h1)
      refine ⟨ws ++ [w], fun u hu => ?_, by rw [List.length_append, List.length_singleton]; omega, ?_⟩
      · rcases List.mem_append.mp hu with hu | hu
        · exact h3 u hu
        · rw [List.mem_singleton.mp hu]; exact hw
      · rw [aft0_app, h5]
        rfl
  · rcases List.eq_nil_or_concat ws with rfl | ⟨us, w, rfl⟩
    · exact a2 _ (h.all [] (fun u hu => nomatch hu) (Nat.zero_le _))
    · rw [List.concat_eq_append] at hw hl ⊢
      rw [List.length_append, List.length_singleton] at hl
      have h1 := h.all us (fun u hu => hw u (List.mem_append_left _ hu)) (by omega)
      have h2 : w ∈ W := hw w (List.mem_append_right _ List.mem_cons_self)
      rw [aft0_app]
      show aftW ns gs noLos 0 w (aft0 ns gs us s) ∈ q.1
      by_cases hr : aft0 ns gs us s ∈ R
      · exact a3 _ hr w h2
      · exact a2 _ (h.cl _ h1 hr w h2)
  · have hS : t ∈ S := by
      rw [a1.eq] at ht
      exact (List.mem_append.mp ht).resolve_right hn
    by_cases hr : t ∈ R
    · exact a3 t hr w hw
    · exact a2 _ (h.cl t hS hr w hw)
end
/-! ### few levels, few rows -/
def LvT (s : List Row) : Prop := ∀ p ∈ s, p.2 = 0 ∨ p.2 = 50 ∨ p.2 = 100
theorem LvT.setR {s : List Row} {x : Str} {v : Int} (h : LvT s) (hv : v = 0 ∨ v = 50 ∨ v = 100) : LvT (setR s x v) := fun p hp => by
  obtain ⟨q, hq, rfl⟩ := List.mem_map.mp hp
  show (if q.1 = x then (q.1, v) else q).2 = 0 ∨ _ ∨ _
  split
  · exact hv
  · exact h q hq
theorem LvT.aftW {ns : List Str} {gs : List Grp} {i : Nat} {w : Wd} (hv : w.2 = 0 ∨ w.2 = 50 ∨ w.2 = 100) {s : List Row} (h : LvT s) : LvT (aftW ns gs noLos i w s) := by
  unfold FL.aftW
  generalize memW ns gs w.1 = l
  induction l generalizing s with
  | nil => exact h
  | cons x l ih =>
    rw [List.foldl_cons, if_neg Bool.false_ne_true]
    exact ih (h.setR hv)
def allSt : List Str → List (List Row)
  | [] => [[]]
  | x :: r => (allSt r).map ((x, (0 : Int)) :: ·) ++ ((allSt r).map ((x, (50 : Int)) :: ·) ++ (allSt r).map ((x, (100 : Int)) :: ·))
theorem allSt_len : ∀ l : List Str, (allSt l).length = 3 ^ l.length
  | [] => rfl
  | x :: l => by
    unfold allSt
    rw [List.length_append, List.length_append, List.length_map, List.length_map, List.length_map, allSt_len l, List.length_cons, Nat.pow_succ]
    omega
theorem allSt_mem : ∀ {l : List Str} {s : List Row}, s.map (·.1) = l → LvT s → s ∈ allSt l
  | [], s, h, _ => by
    rw [List.map_eq_nil_iff.mp h]
    exact List.mem_cons_self
  | x :: l, [], h, _ => by cases h
  | x :: l, (y, v) :: s, h, hv => by
    rw [List.map_cons, List.cons.injEq] at h
    obtain ⟨h1, h2⟩ := h
    dsimp only at h1
    subst h1
    have ih := allSt_mem h2 fun p hp => hv p (List.mem_cons_of_mem _ hp)
    unfold allSt
    rcases hv (y, v) List.mem_cons_self with e | e | e <;> (dsimp only at e; subst e)
    · exact List.mem_append_left _ (List.mem_map_of_mem ih)
    · exact List.mem_append_right _ (List.mem_append_left _ (List.mem_map_of_mem ih))
    · exact List.mem_append_right _ (List.mem_append_right _ (List.mem_map_of_mem ih))
theorem states_few {ns : List Str} {S : List (List Row)} (hn : S.Nodup) (hf : ∀ t ∈ S, t.map (·.1) = ns) (hl : ∀ t ∈ S, LvT t) (h8 : ns.length ≤ 8) : S.length ≤ 6561 := by
  have h1 := nodup_len hn fun t ht => allSt_mem (hf t ht) (hl t ht)
  rw [allSt_len] at h1
  exact Nat.le_trans h1 (Nat.pow_le_pow_right (by decide) h8)
/-! ### the words of a round -/
def wordsR (s : List Row) (gs : List Grp) (lv : List Int) : List Wd := (headsS s gs).flatMap fun h => lv.map fun v => (h, v)
theorem wordsR_mem {s : List Row} {gs : List Grp} {lv : List Int} {w : Wd} : w ∈ wordsR s gs lv ↔ WdOk (s.map (·.1)) gs w ∧ w.2 ∈ lv := by
  unfold wordsR
  rw [List.mem_flatMap]
  constructor
  · rintro ⟨h, hh, hw⟩
    obtain ⟨v, hv, rfl⟩ := List.mem_map.mp hw
    exact ⟨headsS_ok hh v, hv⟩
  · rintro ⟨hw, hv⟩
    refine ⟨w.1, ?_, List.mem_map.mpr ⟨w.2, hv, rfl⟩⟩
    unfold headsS
    rcases hw with h | ⟨x, hx, h⟩ | ⟨g, h1, h⟩ <;> rw [h]
    · exact List.mem_append_left _ (List.mem_append_left _ List.mem_cons_self)
    · obtain ⟨p, hp, rfl⟩ := List.mem_map.mp hx
      exact List.mem_append_left _ (List.mem_append_right _ (List.mem_map.mpr ⟨p, hp, rfl⟩))
    · exact List.mem_append_right _ (List.mem_map.mpr ⟨g, h1, rfl⟩)
theorem headsS_2 {s : List Row} {gs : List Grp} : ∀ h ∈ headsS s gs, h.length ≤ 2 := fun h hh => by
  unfold headsS at hh
  rcases List.mem_append.mp hh with hh | hh
  · rcases List.mem_append.mp hh with hh | hh
    · rw [List.mem_singleton.mp hh]; exact Nat.le_succ 1
    · obtain ⟨p, _, rfl⟩ := List.mem_map.mp hh
      exact Nat.le_refl _
  · obtain ⟨g, _, rfl⟩ := List.mem_map.mp hh
    exact Nat.le_refl _
theorem sortU_mem (is : List Int) (j : Int) : j ∈ sortU is ↔ j ∈ is := by
  unfold sortU
  rw [(List.mergeSort_perm _ _).mem_iff]
  exact distI_mem is j
theorem sortU_len (is : List Int) : (sortU is).length ≤ is.length := by
  unfold sortU
  rw [List.length_mergeSort]
  exact distI_len is
/-! ### what is drawn -/
theorem namesT_pw : namesT.Pairwise fun a b => leSt a b = true := by decide +kernel
theorem LmT.nsOk {m : Int} {L : List Row} (h : LmT m L) : NsOk (L.map (·.1)) := by
  obtain ⟨k, _, _, h1, h2⟩ := h.nm
  rw [h2]
  refine ⟨by rw [List.length_take]; omega, fun x hx => namesT_ok x (List.mem_of_mem_take hx), namesT_nd.sublist (List.take_sublist _ _), namesT_pw.sublist (List.take_sublist _ _)⟩
theorem GrT.gw {m : Int} {L : List Row} {gs : List Grp} (hL : LmT m L) (h : GrT L gs) : GW (L.map (·.1)) gs := ⟨⟨(h.ok hL).nd, h.memN⟩, h.len, fun g hg => (h.mem g hg).2⟩
theorem GrT.take {L : List Row} {gs : List Grp} (h : GrT L gs) (j : Nat) : GrT L (gs.take j) := by
  obtain ⟨k, k1, k2⟩ := h.nm
  exact ⟨⟨min j k, by omega, by rw [List.map_take, k2, List.take_take]⟩, fun g hg => h.mem g (List.mem_of_mem_take hg)⟩
theorem HdT.rsOk {ns : List Str} {s : List Row} (hn : NsOk ns) (h : HdT ns s) : RsOk s := by
  refine ⟨?_, fun p hp => hn.tx p.1 (by rw [← h.nm]; exact List.mem_map_of_mem (f := fun p : Row => p.1) hp), by rw [h.nm]; exact hn.nd⟩
  have := congrArg List.length h.nm
  rw [List.length_map] at this
  have := hn.le8
  omega
theorem val_in {s : List Row} {ns : List Str} (hn : ns.Nodup) (hs : s.map (·.1) = ns) {x : Str} (hx : x ∈ ns) : val s x ∈ s.map (·.2) := by
  rw [← hs] at hx
  obtain ⟨p, hp, rfl⟩ := List.mem_map.mp hx
  have : lk s p.1 = some p.2 := by
    have := lk_map_mem (fun q => q.2) hp (by rw [hs]; exact hn)
    simpa using this
  unfold val
  rw [this]
  exact List.mem_map_of_mem (f := fun q : Row => q.2) hp
theorem HdT.val {ns : List Str} {s : List Row} (hn : ns.Nodup) (h : HdT ns s) {x : Str} (hx : x ∈ ns) : FL.val s x = 0 ∨ FL.val s x = 50 ∨ FL.val s x = 100 := by
  obtain ⟨p, hp, e⟩ := List.mem_map.mp (val_in hn h.nm hx)
  rw [← e]
  exact h.lv p hp
/-- a told word is a word -/
theorem wordB_of {L : List Row} {gs : List Grp} {w : Wd} (hw : WdOk (L.map (·.1)) gs w) (h0 : 0 ≤ w.2) (h1 : w.2 ≤ 100) : wordB (L.map fun p => (.str p.1 : D)) (gs.map fun p => (.str p.1 : D)) (encW w) = true := by
  have hi : intB 0 100 (.int w.2) = true := by
    show (decide (0 ≤ w.2) && decide (w.2 ≤ 100)) = true
    rw [decide_eq_true h0, decide_eq_true h1]
    rfl
  have hm : w.1 ∈ headsS L gs := by
    unfold headsS
    rcases hw with h | ⟨x, hx, h⟩ | ⟨g, h1, h⟩ <;> rw [h]
    · exact List.mem_append_left _ (List.mem_append_left _ List.mem_cons_self)
    · obtain ⟨p, hp, rfl⟩ := List.mem_map.mp hx
      exact List.mem_append_left _ (List.mem_append_right _ (List.mem_map.mpr ⟨p, hp, rfl⟩))
    · exact List.mem_append_right _ (List.mem_map.mpr ⟨g, h1, rfl⟩)
  have self : ∀ l : List Str, allS l (l.map fun x => (.str x : D)) = true := by
    intro l
    induction l with
    | nil => rfl
    | cons x l ih =>
      rw [List.map_cons, allS, ih, isS_iff.mpr rfl]
      rfl
  have ha : ((headsS L gs).any fun h => allS h (w.1.map fun x => (.str x : D))) = true := List.any_eq_true.mpr ⟨w.1, hm, self w.1⟩
  unfold encW
  rcases hw with h | ⟨x, hx, h⟩ | ⟨g, _, h⟩ <;> rw [h] at ha ⊢
  · show wordB _ _ (.tuple [.str "all", .int w.2]) = true
    rw [wordB_2, hi]
    exact ha
  · show wordB _ _ (.tuple [.str "lamp", .str x, .int w.2]) = true
    rw [wordB_3, hi]
    exact ha
  · show wordB _ _ (.tuple [.str "group", .str g.1, .int w.2]) = true
    rw [wordB_3, hi]
    exact ha
theorem few_same {ns : List Str} {gs : List Grp} {due : List Row} {ws : List Wd} (h : Few ns gs due due ws) : ws = [] := by
  have := h.few [] (fun u hu => nomatch hu) rfl
  exact List.eq_nil_of_length_eq_zero (Nat.le_zero.mp this)
theorem wd_th {ns : List Str} {gs : List Grp} (hn : NsOk ns) (hg : GW ns gs) {w : Wd} (hw : WdOk ns gs w) (ht : ∀ g ∈ gs, TxOk g.1) : Th 1000 2 (encW w) := by
  obtain ⟨t1, t2, t3⟩ := txHeads
  have key : w.1.length ≤ 2 ∧ ∀ x ∈ w.1, TxOk x := by
    rcases hw with h | ⟨x, hx, h⟩ | ⟨g, h1, h⟩ <;> rw [h]
    · exact ⟨Nat.le_succ 1, fun y hy => by rw [List.mem_singleton.mp hy]; exact t1⟩
    · refine ⟨Nat.le_refl _, fun y hy => ?_⟩
      rcases List.mem_cons.mp hy with rfl | hy
      · exact t2
      · rw [List.mem_singleton.mp hy]; exact hn.tx x hx
    · refine ⟨Nat.le_refl _, fun y hy => ?_⟩
      rcases List.mem_cons.mp hy with rfl | hy
      · exact t3
      · rw [List.mem_singleton.mp hy]; exact ht g h1
  refine mem_th (fun d hd => ?_) (by rw [List.length_append, List.length_map, List.length_singleton]; omega)
  rcases List.mem_append.mp hd with hd | hd
  · obtain ⟨x, hx, rfl⟩ := List.mem_map.mp hd
    exact (key.2 x hx).th 1
  · rw [List.mem_singleton.mp hd]
    exact Th.int
end FL
end L2

/-! M22: the last level told to a lamp; words that go together; names exchanged -/
namespace L2
namespace FL
open PySem
section
variable {ρ : En} {Q : D → En → Prop} {QL : List D → En → Prop}
def intD : D → Option Int
  | .int n => some n
  | _ => none
def dzD : D → D → Option D
  | .list xs, .list ys => (keysD xs).map fun ks => .dict (mergeD [] (ks.zip ys))
  | _, _ => none
theorem ww_listRg {a : En → Option (D × En)} : Wx (semListRg a) ρ QL ↔ Wx a ρ fun d ρ1 => Wp (intD d) fun n => (0 ≤ n ∧ n ≤ 4000) ∧ QL (rangeD 0 n.toNat) ρ1 := by
  unfold semListRg Wx
  rw [oq_bnd]
  refine Oq.congr fun d r => ?_
  cases d <;> first | exact Iff.rfl | exact oq_ite
theorem ww_GLst {k : Nat} {g : List D → En → Option En} {ds : List D} {QE : En → Prop} : WG (semGLst k g) (.list ds) ρ QE ↔ ds.length = k ∧ WGs g ds ρ QE := wp_ite
theorem ww_dz {a b : En → Option (D × En)} : Wx (semDZ a b) ρ Q ↔ Wx a ρ fun x ρ1 => Wx b ρ1 fun y ρ2 => Wp (dzD x y) fun d => Q d ρ2 := by
  unfold semDZ Wx
  simp only [oq_bnd]
  refine Oq.congr fun x r => Oq.congr fun y r2 => ?_
  cases x <;> first | exact Iff.rfl | skip
  cases y <;> first | exact Iff.rfl | skip
  rename_i xs ys
  show Oq ((keysD xs).map fun ks => (PyData.dict (mergeD [] (ks.zip ys)), r2)) Q ↔ Wp ((keysD xs).map fun ks => PyData.dict (mergeD [] (ks.zip ys))) fun d => Q d r2
  cases keysD xs <;> exact Iff.rfl
end
/-! ### the last level told -/
section
variable (ns : List Str) (gs : List Grp)
def lastV : List Wd → Str → Option Int
  | [], _ => none
  | w :: ws, x => (lastV ws x).or (if x ∈ memW ns gs w.1 then some w.2 else none)
end
section
variable {ns : List Str} {gs : List Grp} {s due : List Row}
theorem lastV_app (v : List Wd) (x : Str) : ∀ u : List Wd, lastV ns gs (u ++ v) x = (lastV ns gs v x).or (lastV ns gs u x)
  | [] => by simp [lastV]
  | w :: u => by
    rw [List.cons_append, lastV, lastV_app v x u, lastV, Option.or_assoc]
theorem lastV_none {x : Str} : ∀ {u : List Wd}, lastV ns gs u x = none ↔ ∀ w ∈ u, x ∉ memW ns gs w.1
  | [] => by simp [lastV]
  | w :: u => by
    rw [lastV, Option.or_eq_none_iff, lastV_none]
    simp only [List.forall_mem_cons]
    rw [and_comm]
    refine and_congr_left fun _ => ?_
    split
    · rename_i h; simp [h]
    · rename_i h; simp [h]
theorem val_aft0 {x : Str} : ∀ (ws : List Wd) {s : List Row}, x ∈ s.map (·.1) → val (aft0 ns gs ws s) x = (lastV ns gs ws x).getD (val s x)
  | [], s, _ => rfl
  | w :: ws, s, hx => by
    show val (aft0 ns gs ws (aftW ns gs noLos 0 w s)) x = _
    rw [val_aft0 ws (by rw [aftW_fst]; exact hx), val_aftW hx, lastV]
    cases lastV ns gs ws x with
    | some v => rfl
    | none =>
      rw [Option.none_or]
      split <;> rfl
theorem heals_iff (hn : ns.Nodup) (hs : s.map (·.1) = ns) (hd : due.map (·.1) = ns) {ws : List Wd} : aft0 ns gs ws s = due ↔ ∀ x ∈ ns, (lastV ns gs ws x).getD (val s x) = val due x := by
  constructor
  · intro h x hx
    rw [← val_aft0 ws (by rw [hs]; exact hx), h]
  · intro h
    refine rows_ext (by rw [aft0_fst, hs, hd]) (by rw [aft0_fst, hs]; exact hn) fun x hx => ?_
    rw [aft0_fst, hs] at hx
    rw [val_aft0 ws (by rw [hs]; exact hx)]
    exact h x hx
/-- told behind words that heal, from elsewhere -/
theorem heals_three (hn : ns.Nodup) {b : List Row} (hs : s.map (·.1) = ns) (hb : b.map (·.1) = ns) (hd : due.map (·.1) = ns) {ws w0 w1 : List Wd} (h : aft0 ns gs ws s = due) (h0 : aft0 ns gs w0 s = b) (h1 : aft0 ns gs w1 b = due) : aft0 ns gs (ws ++ w0 ++ w1) b = due := by
  rw [heals_iff hn hb hd]
  rw [heals_iff hn hs hd] at h
  rw [heals_iff hn hs hb] at h0
  rw [heals_iff hn hb hd] at h1
  intro x hx
  have e := h x hx
  have e0 := h0 x hx
  have e1 := h1 x hx
  rw [lastV_app, lastV_app]
  cases z1 : lastV ns gs w1 x with
  | some v => rw [z1] at e1; exact e1
  | none =>
    rw [z1] at e1
    cases z0 : lastV ns gs w0 x with
    | some v =>
      rw [z0] at e0
      exact Eq.trans e0 e1
    | none =>
      rw [z0] at e0
      cases z : lastV ns gs ws x with
      | some v => rw [z] at e; exact e
      | none => exact e1
theorem heals_two (hn : ns.Nodup) (hs : s.map (·.1) = ns) (hd : due.map (·.1) = ns) {ws : List Wd} (h : aft0 ns gs ws s = due) : aft0 ns gs (ws ++ ws) s = due := by
  rw [heals_iff hn hs hd] at h ⊢
  intro x hx
  rw [lastV_app]
  have e := h x hx
  cases z : lastV ns gs ws x with
  | some v => rw [z] at e; exact e
  | none => rw [z] at e; exact e
/-! ### fewer groups -/
theorem mem_less {gs' : List Grp} (hn : (gs.map (·.1)).Nodup) (hn' : (gs'.map (·.1)).Nodup) (hl : ∀ g ∈ gs', g ∈ gs) {w : Wd} (hw : WdOk ns gs' w) : WdOk ns gs w ∧ memW ns gs w.1 = memW ns gs' w.1 := by
  rcases hw with h | ⟨x, hx, h⟩ | ⟨g, h1, h⟩
  · exact ⟨.inl h, by rw [h]; rfl⟩
  · exact ⟨.inr (.inl ⟨x, hx, h⟩), by rw [h, memW_lamp, memW_lamp]⟩
  · exact ⟨.inr (.inr ⟨g, hl g h1, h⟩), by rw [h, memW_group h1 hn', memW_group (hl g h1) hn]⟩
theorem aft0_less {gs' : List Grp} (hn : (gs.map (·.1)).Nodup) (hn' : (gs'.map (·.1)).Nodup) (hl : ∀ g ∈ gs', g ∈ gs) : ∀ {ws : List Wd}, (∀ w ∈ ws, WdOk ns gs' w) → ∀ s : List Row, aft0 ns gs ws s = aft0 ns gs' ws s
  | [], _, _ => rfl
  | w :: ws, h, s => by
    show aft0 ns gs ws (aftW ns gs noLos 0 w s) = aft0 ns gs' ws (aftW ns gs' noLos 0 w s)
    have e : aftW ns gs noLos 0 w s = aftW ns gs' noLos 0 w s := by
      unfold aftW
      rw [(mem_less hn hn' hl (h w List.mem_cons_self)).2]
    rw [e, aft0_less hn hn' hl fun u hu => h u (List.mem_cons_of_mem _ hu)]
theorem Few.less {gs' : List Grp} (hn : (gs.map (·.1)).Nodup) (hn' : (gs'.map (·.1)).Nodup) (hl : ∀ g ∈ gs', g ∈ gs) {ws us : List Wd} (h : Few ns gs due s ws) (h' : Few ns gs' due s us) : ws.length ≤ us.length :=
  h.few us (fun u hu => (mem_less hn hn' hl (h'.ok u hu).1).1) (by rw [aft0_less hn hn' hl fun u hu => (h'.ok u hu).1]; exact h'.heal)
/-! ### each word is the last one of some lamp -/
theorem Few.lasts (hn : ns.Nodup) (hs : s.map (·.1) = ns) (hd : due.map (·.1) = ns) {u v : List Wd} {w : Wd} (h : Few ns gs due s (u ++ w :: v)) : ∃ x ∈ memW ns gs w.1, ∀ y ∈ v, x ∉ memW ns gs y.1 := by
  refine Classical.byContradiction fun hc => ?_
  have hall : ∀ x ∈ memW ns gs w.1, lastV ns gs v x ≠ none := fun x hx z => hc ⟨x, hx, lastV_none.mp z⟩
  have := h.few (u ++ v) (fun y hy => (h.ok y (by
    rcases List.mem_append.mp hy with hy | hy
    · exact List.mem_append_left _ hy
    · exact List.mem_append_right _ (List.mem_cons_of_mem _ hy))).1) (by
    rw [heals_iff hn hs hd]
    have h2 := (heals_iff hn hs hd).mp h.heal
    intro x hx
    rw [← h2 x hx, lastV_app, lastV_app, lastV]
    by_cases hm : x ∈ memW ns gs w.1
    · cases z : lastV ns gs v x with
      | none => exact absurd z (hall x hm)
      | some a => rfl
    · rw [if_neg hm, Option.or_none])
  rw [List.length_append, List.length_append, List.length_cons] at this
  omega
end
/-! ### the places of the last words -/
theorem putA_iff {s : List Row} {a : Str} {b : Int} {p : Row} : p ∈ putA s a b ↔ p = (a, b) ∨ (p ∈ s ∧ p.1 ≠ a) := by
  constructor
  · exact putA_mem
  · rintro (rfl | ⟨h, hn⟩)
    · exact lkA_mem (putA_same s a b)
    · unfold putA
      split
      · exact List.mem_map.mpr ⟨p, h, if_neg hn⟩
      · exact List.mem_append_left _ h
def putsA (l : List Str) (v : Int) (s : List Row) : List Row := l.foldl (fun s x => putA s x v) s
theorem putsA_nodup {v : Int} : ∀ {l : List Str} {s : List Row}, (s.map (·.1)).Nodup → ((putsA l v s).map (·.1)).Nodup
  | [], _, h => h
  | x :: l, s, h => putsA_nodup (l := l) (putA_nodup h)
theorem putsA_iff {v : Int} {p : Row} : ∀ {l : List Str} {s : List Row}, p ∈ putsA l v s ↔ (p.1 ∈ l ∧ p.2 = v) ∨ (p ∈ s ∧ p.1 ∉ l)
  | [], s => by simp [putsA]
  | x :: l, s => by
    show p ∈ putsA l v (putA s x v) ↔ _
    rw [putsA_iff, putA_iff]
    by_cases h1 : p.1 ∈ l
    · simp [h1]
    · by_cases h2 : p.1 = x
      · have : p = (x, v) ↔ p.2 = v := ⟨fun e => by rw [e], fun e => by rw [← h2, ← e]⟩
        rw [this]
        have h3 : x ∉ l := fun z => h1 (h2 ▸ z)
        simp [h2, h3]
      · have : p ≠ (x, v) := fun e => h2 (by rw [e])
        simp [h1, h2, this]
section
variable {ns : List Str} {gs : List Grp} {s due : List Row}
def toldI (ns : List Str) (gs : List Grp) (qs : List (Wd × Nat)) : List Row := qs.foldl (fun s q => putsA (memW ns gs q.1.1) (q.2 : Int) s) []
theorem toldI_snoc (qs : List (Wd × Nat)) (q : Wd × Nat) : toldI ns gs (qs ++ [q]) = putsA (memW ns gs q.1.1) (q.2 : Int) (toldI ns gs qs) := by
  unfold toldI
  rw [List.foldl_append]
  rfl
theorem toldI_go : ∀ (qs : List (Wd × Nat)) {s : List Row}, (s.map (·.1)).Nodup → ((qs.foldl (fun s q => putsA (memW ns gs q.1.1) (q.2 : Int) s) s).map (·.1)).Nodup ∧ (∀ p ∈ qs.foldl (fun s q => putsA (memW ns gs q.1.1) (q.2 : Int) s) s, p ∈ s ∨ ∃ q ∈ qs, p.2 = (q.2 : Int) ∧ p.1 ∈ memW ns gs q.1.1) ∧
    ∀ p ∈ s, (∀ q ∈ qs, p.1 ∉ memW ns gs q.1.1) → p ∈ qs.foldl (fun s q => putsA (memW ns gs q.1.1) (q.2 : Int) s) s
  | [], s, h => ⟨h, fun p hp => .inl hp, fun p hp _ => hp⟩
  | q :: qs, s, h => by
    obtain ⟨a, b, c⟩ := toldI_go qs (putsA_nodup (l := memW ns gs q.1.1) (v := (q.2 : Int)) h)
    refine ⟨a, fun p hp => ?_, fun p hp hq => ?_⟩
    · rcases b p hp with h1 | ⟨r, hr, h2⟩
      · rcases putsA_iff.mp h1 with ⟨h2, h3⟩ | ⟨h2, h3⟩
        · exact .inr ⟨q, List.mem_cons_self, h3, h2⟩
        · exact .inl h2
      · exact .inr ⟨r, List.mem_cons_of_mem _ hr, h2⟩
    · exact c p (putsA_iff.mpr (.inr ⟨hp, hq q List.mem_cons_self⟩)) fun r hr => hq r (List.mem_cons_of_mem _ hr)
theorem toldI_nodup (qs : List (Wd × Nat)) : ((toldI ns gs qs).map (·.1)).Nodup := (toldI_go (ns := ns) (gs := gs) qs (s := []) List.nodup_nil).1
theorem toldI_of {qs : List (Wd × Nat)} {p : Row} (h : p ∈ toldI ns gs qs) : ∃ q ∈ qs, p.2 = (q.2 : Int) ∧ p.1 ∈ memW ns gs q.1.1 := ((toldI_go (ns := ns) (gs := gs) qs (s := []) List.nodup_nil).2.1 p h).resolve_left (fun z => nomatch z)
theorem toldI_in {qs qs' : List (Wd × Nat)} {q : Wd × Nat} {x : Str} (hx : x ∈ memW ns gs q.1.1) (h : ∀ r ∈ qs', x ∉ memW ns gs r.1.1) : (x, (q.2 : Int)) ∈ toldI ns gs (qs ++ q :: qs') := by
  have e : toldI ns gs (qs ++ q :: qs') = qs'.foldl (fun s q => putsA (memW ns gs q.1.1) (q.2 : Int) s) (toldI ns gs (qs ++ [q])) := by
    unfold toldI
    rw [← List.foldl_append]
    simp
  rw [e]
  refine (toldI_go (ns := ns) (gs := gs) qs' (toldI_nodup _)).2.2 _ ?_ h
  rw [toldI_snoc]
  exact putsA_iff.mpr (.inl ⟨hx, rfl⟩)
theorem toldI_sub (hg : ∀ w : Wd, WdOk ns gs w → ∀ x ∈ memW ns gs w.1, x ∈ ns) {qs : List (Wd × Nat)} (hq : ∀ q ∈ qs, WdOk ns gs q.1) : (toldI ns gs qs).length ≤ ns.length := by
  have := nodup_len (toldI_nodup (ns := ns) (gs := gs) qs) (m := ns) fun x hx => by
    obtain ⟨p, hp, rfl⟩ := List.mem_map.mp hx
    obtain ⟨q, h1, _, h2⟩ := toldI_of hp
    exact hg q.1 (hq q h1) _ h2
  rwa [List.length_map] at this
/-- the places of the words that are some lamp's last ones: all -/
theorem Few.places (hn : ns.Nodup) (hs : s.map (·.1) = ns) (hd : due.map (·.1) = ns) {ws : List Wd} (h : Few ns gs due s ws) : sortU ((toldI ns gs ws.zipIdx).map (·.2)) = (List.range ws.length).map fun i : Nat => (i : Int) := by
  refine sortU_eq ?_ fun k => ?_
  · rw [List.pairwise_map]
    exact List.pairwise_lt_range.imp fun h => by omega
  · constructor
    · intro hk
      obtain ⟨i, hi, rfl⟩ := List.mem_map.mp hk
      have hi := List.mem_range.mp hi
      have e : ws = ws.take i ++ ws[i] :: ws.drop (i + 1) := by simp
      have h' : Few ns gs due s (ws.take i ++ ws[i] :: ws.drop (i + 1)) := by rw [← e]; exact h
      obtain ⟨x, hx, hv⟩ := h'.lasts hn hs hd
      refine List.mem_map.mpr ⟨(x, (i : Int)), ?_, rfl⟩
      have e2 : ws.zipIdx = (ws.take i).zipIdx ++ (ws[i], i) :: (ws.drop (i + 1)).zipIdx (i + 1) := by
        conv => lhs; rw [e]
        rw [List.zipIdx_append, List.zipIdx_cons, List.length_take, Nat.min_eq_left (by omega), Nat.zero_add]
      rw [e2]
      refine toldI_in (q := (ws[i], i)) hx fun r hr => hv r.1 ?_
      exact List.fst_mem_of_mem_zipIdx hr
    · intro hk
      obtain ⟨p, hp, rfl⟩ := List.mem_map.mp hk
      obtain ⟨q, hq, e, _⟩ := toldI_of hp
      refine List.mem_map.mpr ⟨q.2, ?_, e.symm⟩
      have := List.snd_lt_of_mem_zipIdx hq
      rw [List.mem_range]
      omega
end
theorem putD_put (s : List Row) (x : Str) (v : Int) : putD (s.map fun p => ((.str p.1 : D), (.int p.2 : D))) (.inr x) (.int v) = (putA s x v).map fun p => ((.str p.1 : D), (.int p.2 : D)) := by
  by_cases h : x ∈ s.map (·.1)
  · rw [putD_rows v h]
    obtain ⟨b, hb⟩ := lkA_some h
    unfold putA setR
    rw [hb, Option.isSome_some, if_pos rfl]
  · unfold putD putA
    rw [lkA_none.mpr h, if_neg, if_neg (by simp), List.map_append]
    · rfl
    · intro z
      obtain ⟨q, hq, e⟩ := List.any_eq_true.mp z
      obtain ⟨p, hp, rfl⟩ := List.mem_map.mp hq
      have e : (some (.inr p.1) : Option Key) = some (.inr x) := of_decide_eq_true e
      injection e with e
      injection e with e
      exact h (List.mem_map.mpr ⟨p, hp, e⟩)
theorem mergeD_puts (v : Int) : ∀ (l : List Str) (s : List Row), mergeD (s.map fun p => ((.str p.1 : D), (.int p.2 : D))) (l.map fun x => ((.inr x : Key), (.int v : D))) = (putsA l v s).map fun p => ((.str p.1 : D), (.int p.2 : D))
  | [], s => rfl
  | x :: l, s => by
    have h := mergeD_puts v l (putA s x v)
    rw [← putD_put] at h
    exact h
theorem unD_puts (v : Int) (l : List Str) : unD (l.map fun x => ((.str x : D), (.int v : D))) = some (l.map fun x => ((.inr x : Key), (.int v : D))) := by
  have := unD_map (l.map fun x => ((.inr x : Key), (.int v : D)))
  rw [List.map_map] at this
  exact this
theorem okK_puts (v : Int) (l : List Str) : okK (l.map fun x => ((.str x : D), (.int v : D))) = true := by
  unfold okK
  rw [List.all_map]
  exact List.all_eq_true.mpr fun p _ => rfl
theorem dDict_puts (v : Int) {l : List Str} (h : l.Nodup) : dDict (.list (l.map fun x => (.tuple [.str x, .int v] : D))) = some (.dict (l.map fun x => ((.str x : D), (.int v : D)))) := by
  have := dDict_prs (f := fun i : Int => (.int i : D)) (s := l.map fun x => (x, v)) (by rw [List.map_map]; simpa [Function.comp_def] using h)
  rw [List.map_map, List.map_map] at this
  exact this
end FL
end L2

/-! M23: names exchanged -/
namespace L2
namespace FL
open PySem
def renR (r : Str → Str) (s : List Row) : List Row := s.map fun p => (r p.1, p.2)
def renG (r : Str → Str) (g : Grp) : Grp := (g.1, g.2.map r)
def renW (r : Str → Str) (w : Wd) : Wd := match w.1 with
  | [k, x] => if k = "lamp" then ([k, r x], w.2) else w
  | _ => w
section
variable {r : Str → Str} {ns : List Str} {gs : List Grp} {s due : List Row}
theorem renR_fst (s : List Row) : (renR r s).map (·.1) = (s.map (·.1)).map r := by
  unfold renR
  rw [List.map_map, List.map_map]
  rfl
theorem renG_fst (gs : List Grp) : (gs.map (renG r)).map (·.1) = gs.map (·.1) := by
  rw [List.map_map]
  rfl
theorem renW_ok (hn : (gs.map (·.1)).Nodup) {w : Wd} (hw : WdOk ns gs w) : WdOk (ns.map r) (gs.map (renG r)) (renW r w) ∧ memW (ns.map r) (gs.map (renG r)) (renW r w).1 = (memW ns gs w.1).map r ∧ (renW r w).2 = w.2 := by
  obtain ⟨h, v⟩ := w
  rcases hw with h1 | ⟨x, hx, h1⟩ | ⟨g, hg, h1⟩ <;> (have h1 : h = _ := h1; subst h1)
  · exact ⟨.inl rfl, rfl, rfl⟩
  · have e : renW r (([("lamp" : Str), x] : List Str), v) = ([("lamp" : Str), r x], v) := by
      unfold renW
      exact if_pos rfl
    rw [e]
    refine ⟨.inr (.inl ⟨r x, List.mem_map_of_mem hx, rfl⟩), ?_, rfl⟩
    rw [memW_lamp, memW_lamp]
    rfl
  · have e : renW r (([("group" : Str), g.1] : List Str), v) = ([("group" : Str), g.1], v) := by
      unfold renW
      exact if_neg groupNe
    rw [e]
    have hm : renG r g ∈ gs.map (renG r) := List.mem_map_of_mem hg
    refine ⟨.inr (.inr ⟨renG r g, hm, rfl⟩), ?_, rfl⟩
    have := memW_group (ns := ns.map r) hm (by rw [renG_fst]; exact hn)
    rw [memW_group hg hn]
    exact this
theorem renW_of {u : Wd} (hu : WdOk (ns.map r) (gs.map (renG r)) u) : ∃ w, WdOk ns gs w ∧ renW r w = u := by
  obtain ⟨h, v⟩ := u
  rcases hu with h1 | ⟨x, hx, h1⟩ | ⟨g, hg, h1⟩ <;> (have h1 : h = _ := h1; subst h1)
  · exact ⟨([("all" : Str)], v), .inl rfl, rfl⟩
  · obtain ⟨y, hy, rfl⟩ := List.mem_map.mp hx
    refine ⟨([("lamp" : Str), y], v), .inr (.inl ⟨y, hy, rfl⟩), ?_⟩
    unfold renW
    exact if_pos rfl
  · obtain ⟨f, hf, rfl⟩ := List.mem_map.mp hg
    refine ⟨([("group" : Str), f.1], v), .inr (.inr ⟨f, hf, rfl⟩), ?_⟩
    unfold renW
    exact if_neg groupNe
theorem renW_all {us : List Wd} (hu : ∀ u ∈ us, WdOk (ns.map r) (gs.map (renG r)) u) : ∃ ws : List Wd, (∀ w ∈ ws, WdOk ns gs w) ∧ ws.map (renW r) = us := by
  induction us with
  | nil => exact ⟨[], (fun w hw => nomatch hw), rfl⟩
  | cons u us ih =>
    obtain ⟨ws, h1, h2⟩ := ih fun v hv => hu v (List.mem_cons_of_mem _ hv)
    obtain ⟨w, h3, h4⟩ := renW_of (hu u List.mem_cons_self)
    refine ⟨w :: ws, fun v hv => ?_, by rw [List.map_cons, h4, h2]⟩
    rcases List.mem_cons.mp hv with rfl | hv
    · exact h3
    · exact h1 v hv
theorem renR_set (inj : ∀ a ∈ ns, ∀ b ∈ ns, r a = r b → a = b) {x : Str} {v : Int} (hs : ∀ p ∈ s, p.1 ∈ ns) (hx : x ∈ ns) : setR (renR r s) (r x) v = renR r (setR s x v) := by
  unfold setR renR
  rw [List.map_map, List.map_map]
  refine List.map_congr_left fun p hp => ?_
  show (if r p.1 = r x then (r p.1, v) else (r p.1, p.2)) = (r (if p.1 = x then (p.1, v) else p).1, (if p.1 = x then (p.1, v) else p).2)
  by_cases e : p.1 = x
  · rw [if_pos e, if_pos (by rw [e])]
  · rw [if_neg e, if_neg fun z => e (inj _ (hs p hp) _ hx z)]
theorem ren_fold (inj : ∀ a ∈ ns, ∀ b ∈ ns, r a = r b → a = b) {v : Int} : ∀ (l : List Str) {s : List Row}, (∀ x ∈ l, x ∈ ns) → s.map (·.1) = ns → (l.map r).foldl (fun s x => if noLos 0 x = true then s else setR s x v) (renR r s) = renR r (l.foldl (fun s x => if noLos 0 x = true then s else setR s x v) s)
  | [], _, _, _ => rfl
  | x :: l, s, hl, hs => by
    rw [List.map_cons, List.foldl_cons, List.foldl_cons, if_neg Bool.false_ne_true, if_neg Bool.false_ne_true, renR_set inj (fun p hp => by rw [← hs]; exact List.mem_map_of_mem (f := fun p : Row => p.1) hp) (hl x List.mem_cons_self)]
    exact ren_fold inj l (fun y hy => hl y (List.mem_cons_of_mem _ hy)) (by rw [setR_fst]; exact hs)
theorem ren_aft0 (hg : HsOk ns gs) (inj : ∀ a ∈ ns, ∀ b ∈ ns, r a = r b → a = b) : ∀ {ws : List Wd} {s : List Row}, (∀ w ∈ ws, WdOk ns gs w) → s.map (·.1) = ns → aft0 (ns.map r) (gs.map (renG r)) (ws.map (renW r)) (renR r s) = renR r (aft0 ns gs ws s)
  | [], _, _, _ => rfl
  | w :: ws, s, hw, hs => by
    obtain ⟨h1, h2, h3⟩ := renW_ok (r := r) hg.nd (hw w List.mem_cons_self)
    have e : aftW (ns.map r) (gs.map (renG r)) noLos 0 (renW r w) (renR r s) = renR r (aftW ns gs noLos 0 w s) := by
      unfold aftW
      rw [h2, h3]
      exact ren_fold inj _ (memW_in (hw w List.mem_cons_self) hg.sub hg.nd) hs
    show aft0 _ _ (ws.map (renW r)) (aftW (ns.map r) (gs.map (renG r)) noLos 0 (renW r w) (renR r s)) = renR r (aft0 ns gs ws (aftW ns gs noLos 0 w s))
    rw [e, ren_aft0 hg inj (fun u hu => hw u (List.mem_cons_of_mem _ hu)) (by rw [aftW_fst]; exact hs)]
theorem renR_inj : ∀ {s t : List Row}, s.map (·.1) = t.map (·.1) → renR r s = renR r t → s = t
  | [], [], _, _ => rfl
  | [], _ :: _, h, _ => nomatch h
  | _ :: _, [], h, _ => nomatch h
  | (a, b) :: s, (c, d) :: t, h, e => by
    rw [List.map_cons, List.map_cons] at h
    obtain ⟨h1, h2⟩ := List.cons.inj h
    have e : (r a, b) :: renR r s = (r c, d) :: renR r t := e
    obtain ⟨e1, e2⟩ := List.cons.inj e
    have h1 : a = c := h1
    have e3 : b = d := congrArg Prod.snd e1
    rw [h1, e3, renR_inj h2 e2]
theorem Few.ren (hg : HsOk ns gs) (inj : ∀ a ∈ ns, ∀ b ∈ ns, r a = r b → a = b) (hs : s.map (·.1) = ns) (hd : due.map (·.1) = ns) {ws us : List Wd} (h : Few ns gs due s ws) (h' : Few (ns.map r) (gs.map (renG r)) (renR r due) (renR r s) us) : us.length = ws.length := by
  have a := h'.few (ws.map (renW r)) (fun u hu => by
    obtain ⟨w, hw, rfl⟩ := List.mem_map.mp hu
    exact (renW_ok hg.nd (h.ok w hw).1).1) (by rw [ren_aft0 hg inj (fun w hw => (h.ok w hw).1) hs, h.heal])
  rw [List.length_map] at a
  obtain ⟨vs, h1, h2⟩ := renW_all fun u hu => (h'.ok u hu).1
  have e := h'.heal
  rw [← h2, ren_aft0 hg inj h1 hs] at e
  have b := h.few vs h1 (renR_inj (by rw [aft0_fst, hs, hd]) e)
  have c := congrArg List.length h2
  rw [List.length_map] at c
  omega
end
/-! ### names of one's own -/
def freshN : List Str := ["a", "az", "b", "bzzzzzzz", "c"]
def renOf (ns : List Str) (x : Str) : Str := (lkG (ns.zip freshN) x).getD ""
theorem ren_take : ∀ {ns fr : List Str}, ns.Nodup → ns.length ≤ fr.length → ns.map (fun x => (lkG (ns.zip fr) x).getD "") = fr.take ns.length
  | [], fr, _, _ => by simp
  | x :: ns, [], _, h => by simp at h
  | x :: ns, f :: fr, hn, h => by
    have hn := List.nodup_cons.mp hn
    rw [List.map_cons, List.length_cons, List.take_succ_cons, ← ren_take (ns := ns) (fr := fr) hn.2 (by simpa using h)]
    have e0 : lkG ((x :: ns).zip (f :: fr)) x = some f := by
      unfold lkG
      rw [List.zip_cons_cons, List.find?_cons, decide_eq_true (show (x, f).1 = x from rfl)]
      rfl
    rw [e0]
    refine congrArg (f :: ·) (List.map_congr_left fun y hy => ?_)
    have : y ≠ x := fun z => hn.1 (z ▸ hy)
    unfold lkG
    rw [List.zip_cons_cons, List.find?_cons, decide_eq_false (show ¬ (x, f).1 = y from fun z => this z.symm)]
theorem renOf_map {ns : List Str} (hn : ns.Nodup) (h5 : ns.length ≤ 5) : ns.map (renOf ns) = freshN.take ns.length := ren_take hn h5
theorem freshN_ok : ∀ x ∈ freshN, TxOk x := by
  intro x hx
  simp only [freshN, List.mem_cons, List.not_mem_nil, or_false] at hx
  rcases hx with rfl | rfl | rfl | rfl | rfl <;> exact ⟨by decide, by decide +kernel⟩
theorem freshN_nd : freshN.Nodup := by decide +kernel
theorem freshN_pw : freshN.Pairwise fun a b => leSt a b = true := by decide +kernel
theorem renOf_ns {ns : List Str} (hn : ns.Nodup) (h5 : ns.length ≤ 5) : NsOk (ns.map (renOf ns)) := by
  rw [renOf_map hn h5]
  exact ⟨by rw [List.length_take]; omega, fun x hx => freshN_ok x (List.mem_of_mem_take hx), freshN_nd.sublist (List.take_sublist _ _), freshN_pw.sublist (List.take_sublist _ _)⟩
theorem inj_of_nodup {r : Str → Str} : ∀ {ns : List Str}, (ns.map r).Nodup → ∀ a ∈ ns, ∀ b ∈ ns, r a = r b → a = b
  | [], _, _, h, _, _, _ => nomatch h
  | x :: ns, h, a, ha, b, hb, e => by
    rw [List.map_cons] at h
    have h := List.nodup_cons.mp h
    rcases List.mem_cons.mp ha with e1 | ha1
    · rcases List.mem_cons.mp hb with e2 | hb1
      · rw [e1, e2]
      · exact absurd (List.mem_map.mpr ⟨b, hb1, by rw [← e, e1]⟩) h.1
    · rcases List.mem_cons.mp hb with e2 | hb1
      · exact absurd (List.mem_map.mpr ⟨a, ha1, by rw [e, e2]⟩) h.1
      · exact inj_of_nodup h.2 a ha1 b hb1 e
theorem renG_gw {r : Str → Str} {ns : List Str} {gs : List Grp} (h : GW ns gs) : GW (ns.map r) (gs.map (renG r)) := by
  refine ⟨⟨by rw [renG_fst]; exact h.ok.nd, fun g hg x hx => ?_⟩, by rw [List.length_map]; exact h.len, fun g hg => ?_⟩
  · obtain ⟨f, hf, rfl⟩ := List.mem_map.mp hg
    obtain ⟨y, hy, rfl⟩ := List.mem_map.mp hx
    exact List.mem_map_of_mem (h.ok.sub f hf y hy)
  · obtain ⟨f, hf, rfl⟩ := List.mem_map.mp hg
    exact (h.sl f hf).map r
abbrev newD (ns : List Str) : D := .dict ((ns.zip freshN).map fun p => ((.str p.1 : D), (.str p.2 : D)))
theorem keysD_strs : ∀ ns : List Str, keysD (ns.map fun x => (.str x : D)) = some (ns.map .inr)
  | [] => rfl
  | x :: ns => by
    rw [List.map_cons, keysD, keysD_strs ns]
    rfl
theorem dzD_new {ns : List Str} (hn : ns.Nodup) (h5 : ns.length ≤ 5) : dzD (.list (ns.map fun x => (.str x : D))) (.list [.str "a", .str "az", .str "b", .str "bzzzzzzz", .str "c"]) = some (newD ns) := by
  show (keysD _).map _ = _
  rw [keysD_strs, Option.map_some]
  have e : ([.str "a", .str "az", .str "b", .str "bzzzzzzz", .str "c"] : List D) = freshN.map fun x => (.str x : D) := rfl
  rw [e, List.zip_map, mergeD_nodup]
  · rw [List.nil_append, List.map_map]
    rfl
  · rw [List.map_map]
    have h2 : ((ns.zip freshN).map ((fun p : Key × D => p.1) ∘ Prod.map (Sum.inr : Str → Key) fun x => (.str x : D))) = ((ns.zip freshN).map (·.1)).map .inr := by rw [List.map_map]; rfl
    rw [h2]
    have h3 : ((ns.zip freshN).map (·.1)).Nodup := by
      rw [List.map_fst_zip (l₁ := ns) (l₂ := freshN) h5]
      exact hn
    exact List.Pairwise.map _ (fun a b hab e => hab (Sum.inr.inj e)) h3
  · intro p _ q hq
    cases hq
theorem dIdx_new {ns : List Str} (hn : ns.Nodup) (h5 : ns.length ≤ 5) {x : Str} (hx : x ∈ ns) : dIdx (newD ns) (.str x) = some (.str (renOf ns x)) := by
  have e : dIdx (newD ns) (.str x) = (lkG (ns.zip freshN) x).map .str := by
    show (if okK _ = true then lookK _ _ else none) = _
    exact (if_pos (okK_gen PyData.str _)).trans (lookK_gen PyData.str x _)
  have h2 : ((ns.zip freshN).map (·.1)) = ns := by
    exact List.map_fst_zip (l₁ := ns) (l₂ := freshN) h5
  have hz : ∃ b, lkG (ns.zip freshN) x = some b := by
    rw [← h2] at hx
    obtain ⟨p, hp, rfl⟩ := List.mem_map.mp hx
    exact ⟨p.2, lkG_mem hp (by rw [h2]; exact hn)⟩
  obtain ⟨b, hb⟩ := hz
  rw [e, hb]
  unfold renOf
  rw [hb]
  rfl
end FL
end L2

namespace L2
namespace FL
namespace Law
open PySem PySem.Spec PyProof.Rows
def topS (i : Nat) : Stmt := PySem.Challenge.pw_lamprank_k16_whole_words_go_together.main.body.getD i (.Pass ⟨0, 0, 0, 0⟩)
abbrev s_names_of : Stmt := topS 1
abbrev nm_names_of : Nm where
  N := ["lamps", "row"]
  sc := defScope s_names_of
  Γ := []
  cs := []
  IO := []
  cf := fun _ => true
def b_names_of : CB (nm_names_of) := (bCons (sRet (eFrz (nLc (iV (eName 0 "lamps" ⟨3, 30, 3, 35⟩ (by rfl) (by rfl))) (mkS [(".0", .local), ("row", .local)] []) [("row", 1)] (gNm 1 "row" ⟨3, 23, 3, 26⟩ (by rfl) (by rfl) (by rfl)) tsNil (eIdx (eName 1 "row" ⟨3, 12, 3, 15⟩ (by rfl) (by rfl)) (eInt 0 0 ⟨3, 16, 3, 17⟩) ⟨3, 12, 3, 18⟩) ⟨3, 11, 3, 36⟩ (by first | exact trivial | exact ⟨_, _, _, rfl⟩) (by rfl) (by rfl))) ⟨3, 4, 3, 36⟩)
 bNil)
def p_names_of : Prom := promB "names_of" ["lamps"] b_names_of
def m_names_of : En → Option Fl := (semSeq (semRet (semFrz (semLc (semV (rd 0)) (semG 1) semYes (semBin dIdx (rd 1) (cst (.int 0))) [1])))
 semNext)
theorem sem_names_of : (b_names_of).sem = m_names_of := by rfl
theorem run_names_of : p_names_of.sem = runD [] 2 m_names_of := by show runD _ _ _ = _; rw [sem_names_of]; rfl
theorem nps_names_of : (p_names_of).ps.length = 1 := rfl
theorem sc_names_of : FnScope ["lamps", "row"] ["lamps"] (defScope s_names_of) := ⟨rfl, rfl, rfl, by decide +kernel, rfl, by decide +kernel, by decide +kernel⟩
theorem syn_names_of : (b_names_of).syn = defBody s_names_of := by rfl

abbrev s_members : Stmt := topS 3
abbrev nm_members : Nm where
  N := ["names", "groups", "word"]
  sc := defScope s_members
  Γ := []
  cs := []
  IO := []
  cf := fun _ => true
def b_members : CB (nm_members) := (bCons (sIf (tCp cEq (eIdx (eName 2 "word" ⟨6, 7, 6, 11⟩ (by rfl) (by rfl)) (eInt 0 0 ⟨6, 12, 6, 13⟩) ⟨6, 7, 6, 14⟩) (eStr "all" 0 ⟨6, 18, 6, 23⟩) ⟨6, 7, 6, 23⟩)
 (bCons (sRet (eB1 bTuple (eName 0 "names" ⟨7, 21, 7, 26⟩ (by rfl) (by rfl)) ⟨7, 15, 7, 20⟩ ⟨7, 15, 7, 27⟩ (List.mem_of_getElem? (i := 4) rfl) (by rfl)) ⟨7, 8, 7, 27⟩)
 bNil)
 bNil ⟨6, 4, 7, 27⟩)
 (bCons (sRet (eIf (tCp cEq (eIdx (eName 2 "word" ⟨8, 25, 8, 29⟩ (by rfl) (by rfl)) (eInt 0 0 ⟨8, 30, 8, 31⟩) ⟨8, 25, 8, 32⟩) (eStr "lamp" 0 ⟨8, 36, 8, 42⟩) ⟨8, 25, 8, 42⟩) (eTup (aCons (eIdx (eName 2 "word" ⟨8, 12, 8, 16⟩ (by rfl) (by rfl)) (eInt 1 0 ⟨8, 17, 8, 18⟩) ⟨8, 12, 8, 19⟩) aNil) 0 ⟨8, 11, 8, 21⟩) (eIdx (eB1 bDict (eName 1 "groups" ⟨8, 53, 8, 59⟩ (by rfl) (by rfl)) ⟨8, 48, 8, 52⟩ ⟨8, 48, 8, 60⟩ (List.mem_of_getElem? (i := 6) rfl) (by rfl)) (eIdx (eName 2 "word" ⟨8, 61, 8, 65⟩ (by rfl) (by rfl)) (eInt 1 0 ⟨8, 66, 8, 67⟩) ⟨8, 61, 8, 68⟩) ⟨8, 48, 8, 69⟩) ⟨8, 11, 8, 69⟩) ⟨8, 4, 8, 69⟩)
 bNil))
def p_members : Prom := promB "members" ["names", "groups", "word"] b_members
def m_members : En → Option Fl := (semSeq (semIfS (semT (semBin fEq (semBin dIdx (rd 2) (cst (.int 0))) (cst (.str "all"))))
 (semSeq (semRet (semUn dTuple (rd 0)))
 semNext)
 semNext)
 (semSeq (semRet (semIf (semT (semBin fEq (semBin dIdx (rd 2) (cst (.int 0))) (cst (.str "lamp")))) (semTup (semCons (semBin dIdx (rd 2) (cst (.int 1))) semNil)) (semBin dIdx (semUn dDict (rd 1)) (semBin dIdx (rd 2) (cst (.int 1))))))
 semNext))
theorem sem_members : (b_members).sem = m_members := by rfl
theorem run_members : p_members.sem = runD [] 3 m_members := by show runD _ _ _ = _; rw [sem_members]; rfl
theorem nps_members : (p_members).ps.length = 3 := rfl
theorem sc_members : FnScope ["names", "groups", "word"] ["names", "groups", "word"] (defScope s_members) := ⟨rfl, rfl, rfl, by decide +kernel, rfl, by decide +kernel, by decide +kernel⟩
theorem syn_members : (b_members).syn = defBody s_members := by rfl

abbrev s_heard_after : Stmt := topS 4
abbrev nm_heard_after : Nm where
  N := ["heard", "groups", "words", "losses", "now", "place", "word", "name"]
  sc := defScope s_heard_after
  Γ := [p_names_of, p_members]
  cs := []
  IO := []
  cf := fun _ => true
def b_heard_after : CB (nm_heard_after) := (bCons (sAsgM 4 "now" (mDict (eName 0 "heard" ⟨10, 15, 10, 20⟩ (by rfl) (by rfl)) ⟨10, 10, 10, 14⟩ ⟨10, 10, 10, 21⟩ (by rfl)) ⟨10, 4, 10, 7⟩ ⟨10, 4, 10, 21⟩ (by rfl) (by rfl) (by rfl) (by rfl))
 (bCons (sFor (gTp (gsCons (gNm 5 "place" ⟨11, 8, 11, 13⟩ (by rfl) (by rfl) (by rfl)) (gsCons (gNm 6 "word" ⟨11, 15, 11, 19⟩ (by rfl) (by rfl) (by rfl)) gsNil)) 0 ⟨11, 8, 11, 19⟩) (iEn (eName 2 "words" ⟨11, 33, 11, 38⟩ (by rfl) (by rfl)) ⟨11, 23, 11, 32⟩ ⟨11, 23, 11, 39⟩ (by rfl))
 (bCons (sFor (gNm 7 "name" ⟨12, 12, 12, 16⟩ (by rfl) (by rfl) (by rfl)) (iV (eCall p_members (aCons (eCall p_names_of (aCons (eName 0 "heard" ⟨12, 37, 12, 42⟩ (by rfl) (by rfl)) aNil) ⟨12, 28, 12, 36⟩ ⟨12, 28, 12, 43⟩ (List.mem_of_getElem? (i := 0) rfl) (by rfl) (by exact List.cons_ne_nil _ _)) (aCons (eName 1 "groups" ⟨12, 45, 12, 51⟩ (by rfl) (by rfl)) (aCons (eName 6 "word" ⟨12, 53, 12, 57⟩ (by rfl) (by rfl)) aNil))) ⟨12, 20, 12, 27⟩ ⟨12, 20, 12, 58⟩ (List.mem_of_getElem? (i := 1) rfl) (by rfl) (by exact List.cons_ne_nil _ _)))
 (bCons (sIf (tCp cNotIn (eTup (aCons (eName 5 "place" ⟨13, 16, 13, 21⟩ (by rfl) (by rfl)) (aCons (eName 7 "name" ⟨13, 23, 13, 27⟩ (by rfl) (by rfl)) aNil)) 0 ⟨13, 15, 13, 28⟩) (eName 3 "losses" ⟨13, 36, 13, 42⟩ (by rfl) (by rfl)) ⟨13, 15, 13, 42⟩)
 (bCons (sDPut 4 "now" (eName 7 "name" ⟨14, 20, 14, 24⟩ (by rfl) (by rfl)) (eIdx (eName 6 "word" ⟨14, 28, 14, 32⟩ (by rfl) (by rfl)) (eNeg (eInt 1 0 ⟨14, 34, 14, 35⟩) ⟨14, 33, 14, 35⟩) ⟨14, 28, 14, 36⟩) ⟨14, 16, 14, 19⟩ ⟨14, 16, 14, 25⟩ ⟨14, 16, 14, 36⟩ (by rfl) (by rfl) (by rfl))
 bNil)
 bNil ⟨13, 12, 14, 36⟩)
 bNil) ⟨12, 8, 14, 36⟩ (by first | exact trivial | exact ⟨_, _, _, rfl⟩))
 bNil) ⟨11, 4, 14, 36⟩ (by first | exact trivial | exact ⟨_, _, _, rfl⟩))
 (bCons (sRet (eB1 bTuple (eFrz (nLc (iV (eCall p_names_of (aCons (eName 0 "heard" ⟨15, 57, 15, 62⟩ (by rfl) (by rfl)) aNil) ⟨15, 48, 15, 56⟩ ⟨15, 48, 15, 63⟩ (List.mem_of_getElem? (i := 0) rfl) (by rfl) (by exact List.cons_ne_nil _ _))) (mkS [(".0", .local), ("name", .local), ("now", .free)] []) [("name", 7)] (gNm 7 "name" ⟨15, 40, 15, 44⟩ (by rfl) (by rfl) (by rfl)) tsNil (eTup (aCons (eName 7 "name" ⟨15, 19, 15, 23⟩ (by rfl) (by rfl)) (aCons (oDIdx 4 "now" (eName 7 "name" ⟨15, 29, 15, 33⟩ (by rfl) (by rfl)) ⟨15, 25, 15, 28⟩ ⟨15, 25, 15, 34⟩ (by rfl) (by rfl)) aNil)) 0 ⟨15, 18, 15, 35⟩) ⟨15, 17, 15, 64⟩ (by first | exact trivial | exact ⟨_, _, _, rfl⟩) (by rfl) (by rfl))) ⟨15, 11, 15, 16⟩ ⟨15, 11, 15, 65⟩ (List.mem_of_getElem? (i := 4) rfl) (by rfl)) ⟨15, 4, 15, 65⟩)
 bNil)))
def p_heard_after : Prom := promK "heard_after" ["heard", "groups", "words", "losses"] b_heard_after
def m_heard_after : En → Option Fl := (semSeq (semAsgM 4 (semUn dDict (rd 0)))
 (semSeq (semFor (semEnum (rd 2)) (semGTup 2 (semGCons (semG 5) (semGCons (semG 6) semGNil)))
 (semSeq (semFor (semV (semCall p_members (semCons (semCall p_names_of (semCons (rd 0) semNil)) (semCons (rd 1) (semCons (rd 6) semNil))))) (semG 7)
 (semSeq (semIfS (semT (semBin fNotIn (semTup (semCons (rd 5) (semCons (rd 7) semNil))) (rd 3)))
 (semSeq (semDPut 4 (rd 7) (semBin dIdx (rd 6) (semUn fNeg (cst (.int 1)))))
 semNext)
 semNext)
 semNext))
 semNext))
 (semSeq (semRet (semUn dTuple (semFrz (semLc (semV (semCall p_names_of (semCons (rd 0) semNil))) (semG 7) semYes (semTup (semCons (rd 7) (semCons (semODIdx 4 (rd 7)) semNil))) [7]))))
 semNext)))
theorem sem_heard_after : (b_heard_after).sem = m_heard_after := by rfl
theorem run_heard_after : p_heard_after.sem = runD [] 8 m_heard_after := by show runD _ _ _ = _; rw [sem_heard_after]; rfl
theorem nps_heard_after : (p_heard_after).ps.length = 4 := rfl
theorem sc_heard_after : FnScope ["heard", "groups", "words", "losses", "now", "place", "word", "name"] ["heard", "groups", "words", "losses"] (defScope s_heard_after) := ⟨rfl, rfl, rfl, by decide +kernel, rfl, by decide +kernel, by decide +kernel⟩
theorem syn_heard_after : (b_heard_after).syn = defBody s_heard_after := by rfl

abbrev s_told_to : Stmt := topS 5
abbrev nm_told_to : Nm where
  N := ["names", "groups", "found", "name", "some"]
  sc := defScope s_told_to
  Γ := []
  cs := []
  IO := []
  cf := fun _ => true
def b_told_to : CB (nm_told_to) := (bCons (sAsg 2 "found" (eAdd (eFrz (nList (aCons (eTup (aCons (eTup (aCons (eStr "all" 0 ⟨17, 15, 17, 20⟩) aNil) 0 ⟨17, 14, 17, 22⟩) (aCons (eB1 bTuple (eName 0 "names" ⟨17, 30, 17, 35⟩ (by rfl) (by rfl)) ⟨17, 24, 17, 29⟩ ⟨17, 24, 17, 36⟩ (List.mem_of_getElem? (i := 4) rfl) (by rfl)) aNil)) 0 ⟨17, 13, 17, 37⟩) aNil) ⟨17, 12, 17, 38⟩)) (eFrz (nLc (iV (eName 0 "names" ⟨17, 80, 17, 85⟩ (by rfl) (by rfl))) (mkS [(".0", .local), ("name", .local)] []) [("name", 3)] (gNm 3 "name" ⟨17, 72, 17, 76⟩ (by rfl) (by rfl) (by rfl)) tsNil (eTup (aCons (eTup (aCons (eStr "lamp" 0 ⟨17, 44, 17, 50⟩) (aCons (eName 3 "name" ⟨17, 52, 17, 56⟩ (by rfl) (by rfl)) aNil)) 0 ⟨17, 43, 17, 57⟩) (aCons (eTup (aCons (eName 3 "name" ⟨17, 60, 17, 64⟩ (by rfl) (by rfl)) aNil) 0 ⟨17, 59, 17, 66⟩) aNil)) 0 ⟨17, 42, 17, 67⟩) ⟨17, 41, 17, 86⟩ (by first | exact trivial | exact ⟨_, _, _, rfl⟩) (by rfl) (by rfl))) ⟨17, 12, 17, 86⟩) ⟨17, 4, 17, 9⟩ ⟨17, 4, 17, 86⟩ (by rfl) (by rfl) (by rfl) (by rfl))
 (bCons (sRet (eAdd (eName 2 "found" ⟨18, 11, 18, 16⟩ (by rfl) (by rfl)) (eFrz (nLc (iV (eName 1 "groups" ⟨18, 62, 18, 68⟩ (by rfl) (by rfl))) (mkS [(".0", .local), ("name", .local), ("some", .local)] []) [("name", 3), ("some", 4)] (gTp (gsCons (gNm 3 "name" ⟨18, 48, 18, 52⟩ (by rfl) (by rfl) (by rfl)) (gsCons (gNm 4 "some" ⟨18, 54, 18, 58⟩ (by rfl) (by rfl) (by rfl)) gsNil)) 0 ⟨18, 48, 18, 58⟩) tsNil (eTup (aCons (eTup (aCons (eStr "group" 0 ⟨18, 22, 18, 29⟩) (aCons (eName 3 "name" ⟨18, 31, 18, 35⟩ (by rfl) (by rfl)) aNil)) 0 ⟨18, 21, 18, 36⟩) (aCons (eName 4 "some" ⟨18, 38, 18, 42⟩ (by rfl) (by rfl)) aNil)) 0 ⟨18, 20, 18, 43⟩) ⟨18, 19, 18, 69⟩ (by first | exact trivial | exact ⟨_, _, _, rfl⟩) (by rfl) (by rfl))) ⟨18, 11, 18, 69⟩) ⟨18, 4, 18, 69⟩)
 bNil))
def p_told_to : Prom := promB "told_to" ["names", "groups"] b_told_to
def m_told_to : En → Option Fl := (semSeq (semAsg 2 (semBin fAdd (semFrz (semLst (semCons (semTup (semCons (semTup (semCons (cst (.str "all")) semNil)) (semCons (semUn dTuple (rd 0)) semNil))) semNil))) (semFrz (semLc (semV (rd 0)) (semG 3) semYes (semTup (semCons (semTup (semCons (cst (.str "lamp")) (semCons (rd 3) semNil))) (semCons (semTup (semCons (rd 3) semNil)) semNil))) [3]))))
 (semSeq (semRet (semBin fAdd (rd 2) (semFrz (semLc (semV (rd 1)) (semGTup 2 (semGCons (semG 3) (semGCons (semG 4) semGNil))) semYes (semTup (semCons (semTup (semCons (cst (.str "group")) (semCons (rd 3) semNil))) (semCons (rd 4) semNil))) [3, 4]))))
 semNext))
theorem sem_told_to : (b_told_to).sem = m_told_to := by rfl
theorem run_told_to : p_told_to.sem = runD [] 5 m_told_to := by show runD _ _ _ = _; rw [sem_told_to]; rfl
theorem nps_told_to : (p_told_to).ps.length = 2 := rfl
theorem sc_told_to : FnScope ["names", "groups", "found", "name", "some"] ["names", "groups"] (defScope s_told_to) := ⟨rfl, rfl, rfl, by decide +kernel, rfl, by decide +kernel, by decide +kernel⟩
theorem syn_told_to : (b_told_to).syn = defBody s_told_to := by rfl

abbrev s_steps : Stmt := topS 6
abbrev nm_steps : Nm where
  N := ["due", "groups", "lot", "told", "found", "head", "some", "left", "name"]
  sc := defScope s_steps
  Γ := [p_told_to, p_names_of]
  cs := []
  IO := []
  cf := fun _ => true
def b_steps : CB (nm_steps) := (bCons (sAsg 3 "told" (eB1 bDict (eName 0 "due" ⟨20, 16, 20, 19⟩ (by rfl) (by rfl)) ⟨20, 11, 20, 15⟩ ⟨20, 11, 20, 20⟩ (List.mem_of_getElem? (i := 6) rfl) (by rfl)) ⟨20, 4, 20, 8⟩ ⟨20, 4, 20, 20⟩ (by rfl) (by rfl) (by rfl) (by rfl))
 (bCons (sAsgN 4 "found" (nList aNil ⟨21, 12, 21, 14⟩) ⟨21, 4, 21, 9⟩ ⟨21, 4, 21, 14⟩ (by rfl) (by rfl) (by rfl) (by rfl))
 (bCons (sFor (gTp (gsCons (gNm 5 "head" ⟨22, 8, 22, 12⟩ (by rfl) (by rfl) (by rfl)) (gsCons (gNm 6 "some" ⟨22, 14, 22, 18⟩ (by rfl) (by rfl) (by rfl)) gsNil)) 0 ⟨22, 8, 22, 18⟩) (iV (eCall p_told_to (aCons (eCall p_names_of (aCons (eName 0 "due" ⟨22, 39, 22, 42⟩ (by rfl) (by rfl)) aNil) ⟨22, 30, 22, 38⟩ ⟨22, 30, 22, 43⟩ (List.mem_of_getElem? (i := 1) rfl) (by rfl) (by exact List.cons_ne_nil _ _)) (aCons (eName 1 "groups" ⟨22, 45, 22, 51⟩ (by rfl) (by rfl)) aNil)) ⟨22, 22, 22, 29⟩ ⟨22, 22, 22, 52⟩ (List.mem_of_getElem? (i := 0) rfl) (by rfl) (by exact List.cons_ne_nil _ _)))
 (bCons (sLcV 7 "left" (iV (eName 6 "some" ⟨23, 33, 23, 37⟩ (by rfl) (by rfl))) (mkS [(".0", .local), ("name", .local), ("lot", .free)] []) [("name", 8)] (gNm 8 "name" ⟨23, 25, 23, 29⟩ (by rfl) (by rfl) (by rfl)) (tsOne (tCp cNotIn (eName 8 "name" ⟨23, 41, 23, 45⟩ (by rfl) (by rfl)) (eName 2 "lot" ⟨23, 53, 23, 56⟩ (by rfl) (by rfl)) ⟨23, 41, 23, 56⟩)) (eName 8 "name" ⟨23, 16, 23, 20⟩ (by rfl) (by rfl)) ⟨23, 8, 23, 12⟩ ⟨23, 15, 23, 57⟩ ⟨23, 8, 23, 57⟩ (by rfl) (by rfl) (by rfl) (by rfl) (by first | exact trivial | exact ⟨_, _, _, rfl⟩) (by rfl) (by rfl) (by rfl) (by rfl))
 (bCons (sIf (tBool .And (wAnd (tCp cNe (eName 7 "left" ⟨24, 11, 24, 15⟩ (by rfl) (by rfl)) (eFrz (nList aNil ⟨24, 19, 24, 21⟩)) ⟨24, 11, 24, 21⟩) (w1 .And (tCp cEq (eLenSet (iV (eName 7 "left" ⟨24, 54, 24, 58⟩ (by rfl) (by rfl))) (mkS [(".0", .local), ("name", .local), ("told", .free)] []) [("name", 8)] (gNm 8 "name" ⟨24, 46, 24, 50⟩ (by rfl) (by rfl) (by rfl)) tsNil (eIdx (eName 3 "told" ⟨24, 31, 24, 35⟩ (by rfl) (by rfl)) (eName 8 "name" ⟨24, 36, 24, 40⟩ (by rfl) (by rfl)) ⟨24, 31, 24, 41⟩) ⟨24, 26, 24, 29⟩ ⟨24, 30, 24, 59⟩ ⟨24, 26, 24, 60⟩ (by rfl) (by first | exact trivial | exact ⟨_, _, _, rfl⟩) (by rfl) (by rfl)) (eInt 1 0 ⟨24, 64, 24, 65⟩) ⟨24, 26, 24, 65⟩))) ⟨24, 11, 24, 65⟩)
 (bCons (sExpr (oAppend 4 "found" (eTup (aCons (eAdd (eName 5 "head" ⟨25, 26, 25, 30⟩ (by rfl) (by rfl)) (eTup (aCons (eIdx (eName 3 "told" ⟨25, 34, 25, 38⟩ (by rfl) (by rfl)) (eIdx (eName 7 "left" ⟨25, 39, 25, 43⟩ (by rfl) (by rfl)) (eInt 0 0 ⟨25, 44, 25, 45⟩) ⟨25, 39, 25, 46⟩) ⟨25, 34, 25, 47⟩) aNil) 0 ⟨25, 33, 25, 49⟩) ⟨25, 26, 25, 49⟩) (aCons (eB1 bTuple (eFrz (nB1 bSortedT (eAdd (eName 2 "lot" ⟨25, 64, 25, 67⟩ (by rfl) (by rfl)) (eB1 bTuple (eName 7 "left" ⟨25, 76, 25, 80⟩ (by rfl) (by rfl)) ⟨25, 70, 25, 75⟩ ⟨25, 70, 25, 81⟩ (List.mem_of_getElem? (i := 4) rfl) (by rfl)) ⟨25, 64, 25, 81⟩) ⟨25, 57, 25, 63⟩ ⟨25, 57, 25, 82⟩ (List.mem_of_getElem? (i := 11) rfl) (by rfl))) ⟨25, 51, 25, 56⟩ ⟨25, 51, 25, 83⟩ (List.mem_of_getElem? (i := 4) rfl) (by rfl)) aNil)) 0 ⟨25, 25, 25, 84⟩) ⟨25, 12, 25, 17⟩ ⟨25, 12, 25, 24⟩ ⟨25, 12, 25, 85⟩ (by rfl) (by rfl) (by rfl)) ⟨25, 12, 25, 85⟩ (by rfl))
 bNil)
 bNil ⟨24, 8, 25, 85⟩)
 bNil)) ⟨22, 4, 25, 85⟩ (by first | exact trivial | exact ⟨_, _, _, rfl⟩))
 (bCons (sRet (eName 4 "found" ⟨26, 11, 26, 16⟩ (by rfl) (by rfl)) ⟨26, 4, 26, 16⟩)
 bNil))))
def p_steps : Prom := promB "steps" ["due", "groups", "lot"] b_steps
def m_steps : En → Option Fl := (semSeq (semAsg 3 (semUn dDict (rd 0)))
 (semSeq (semAsgN 4 (semLst semNil))
 (semSeq (semFor (semV (semCall p_told_to (semCons (semCall p_names_of (semCons (rd 0) semNil)) (semCons (rd 1) semNil)))) (semGTup 2 (semGCons (semG 5) (semGCons (semG 6) semGNil)))
 (semSeq (semAsg 7 (semFrz (semLc (semV (rd 6)) (semG 8) (semT (semBin fNotIn (rd 8) (rd 2))) (rd 8) [8])))
 (semSeq (semIfS (semAnd (semT (semBin fNe (rd 7) (semFrz (semLst semNil)))) (semT (semBin fEq (semLenSet (semV (rd 7)) (semG 8) semYes (semBin dIdx (rd 3) (rd 8)) [8]) (cst (.int 1)))))
 (semSeq (semDrop (semApp 4 (semTup (semCons (semBin fAdd (rd 5) (semTup (semCons (semBin dIdx (rd 3) (semBin dIdx (rd 7) (cst (.int 0)))) semNil))) (semCons (semUn dTuple (semFrz (semN1 dSortedT (semBin fAdd (rd 2) (semUn dTuple (rd 7)))))) semNil)))))
 semNext)
 semNext)
 semNext)))
 (semSeq (semRet (rd 4))
 semNext))))
theorem sem_steps : (b_steps).sem = m_steps := by rfl
theorem run_steps : p_steps.sem = runD [] 9 m_steps := by show runD _ _ _ = _; rw [sem_steps]; rfl
theorem nps_steps : (p_steps).ps.length = 3 := rfl
theorem sc_steps : FnScope ["due", "groups", "lot", "told", "found", "head", "some", "left", "name"] ["due", "groups", "lot"] (defScope s_steps) := ⟨rfl, rfl, rfl, by decide +kernel, rfl, by decide +kernel, by decide +kernel⟩
theorem syn_steps : (b_steps).syn = defBody s_steps := by rfl

abbrev s_is_done : Stmt := topS 7
abbrev nm_is_done : Nm where
  N := ["heard", "due", "lot", "one", "level"]
  sc := defScope s_is_done
  Γ := []
  cs := []
  IO := []
  cf := fun _ => true
def b_is_done : CB (nm_is_done) := (bCons (sRet (eB1 bAll (eFrz (nLc (iV (eName 0 "heard" ⟨28, 72, 28, 77⟩ (by rfl) (by rfl))) (mkS [(".0", .local), ("one", .local), ("level", .local), ("dict", .globalImplicit), ("due", .free), ("lot", .free)] []) [("one", 3), ("level", 4)] (gTp (gsCons (gNm 3 "one" ⟨28, 58, 28, 61⟩ (by rfl) (by rfl) (by rfl)) (gsCons (gNm 4 "level" ⟨28, 63, 28, 68⟩ (by rfl) (by rfl) (by rfl)) gsNil)) 0 ⟨28, 58, 28, 68⟩) tsNil (eBool .Or (vOr (eC cIn (eName 3 "one" ⟨28, 16, 28, 19⟩ (by rfl) (by rfl)) (eName 2 "lot" ⟨28, 23, 28, 26⟩ (by rfl) (by rfl)) ⟨28, 16, 28, 26⟩) (v1 .Or (eC cEq (eName 4 "level" ⟨28, 30, 28, 35⟩ (by rfl) (by rfl)) (eIdx (eB1 bDict (eName 1 "due" ⟨28, 44, 28, 47⟩ (by rfl) (by rfl)) ⟨28, 39, 28, 43⟩ ⟨28, 39, 28, 48⟩ (List.mem_of_getElem? (i := 6) rfl) (by rfl)) (eName 3 "one" ⟨28, 49, 28, 52⟩ (by rfl) (by rfl)) ⟨28, 39, 28, 53⟩) ⟨28, 30, 28, 53⟩))) ⟨28, 16, 28, 53⟩) ⟨28, 15, 28, 78⟩ (by first | exact trivial | exact ⟨_, _, _, rfl⟩) (by rfl) (by rfl))) ⟨28, 11, 28, 14⟩ ⟨28, 11, 28, 79⟩ (List.mem_of_getElem? (i := 2) rfl) (by rfl)) ⟨28, 4, 28, 79⟩)
 bNil)
def p_is_done : Prom := promB "is_done" ["heard", "due", "lot"] b_is_done
def m_is_done : En → Option Fl := (semSeq (semRet (semUn dAll (semFrz (semLc (semV (rd 0)) (semGTup 2 (semGCons (semG 3) (semGCons (semG 4) semGNil))) semYes (semOrV (semBin fIn (rd 3) (rd 2)) (semBin fEq (rd 4) (semBin dIdx (semUn dDict (rd 1)) (rd 3)))) [3, 4]))))
 semNext)
theorem sem_is_done : (b_is_done).sem = m_is_done := by rfl
theorem run_is_done : p_is_done.sem = runD [] 5 m_is_done := by show runD _ _ _ = _; rw [sem_is_done]; rfl
theorem nps_is_done : (p_is_done).ps.length = 3 := rfl
theorem sc_is_done : FnScope ["heard", "due", "lot", "one", "level"] ["heard", "due", "lot"] (defScope s_is_done) := ⟨rfl, rfl, rfl, by decide +kernel, rfl, by decide +kernel, by decide +kernel⟩
theorem syn_is_done : (b_is_done).syn = defBody s_is_done := by rfl

abbrev s_fewest_words : Stmt := topS 8
abbrev fuel_fewest_words : Nat := 60
abbrev nm_fewest_words : Nm where
  N := ["heard", "due", "groups", "rows", "lot", "fresh", "word", "other"]
  sc := defScope s_fewest_words
  Γ := [p_steps, p_is_done]
  cs := []
  IO := []
  cf := fun _ => true
def b_fewest_words : CB (nm_fewest_words) := (bCons (sAsg 3 "rows" (eFrzM (mDispK (eTup aNil 0 ⟨30, 12, 30, 14⟩) (eFrz (nList aNil ⟨30, 16, 30, 18⟩)) ⟨30, 11, 30, 19⟩)) ⟨30, 4, 30, 8⟩ ⟨30, 4, 30, 19⟩ (by rfl) (by rfl) (by rfl) (by rfl))
 (bCons (sWhile fuel_fewest_words (tVal (eBl true 0 ⟨31, 10, 31, 14⟩))
 (bCons (sFor (gNm 4 "lot" ⟨32, 12, 32, 15⟩ (by rfl) (by rfl) (by rfl)) (iV (eFrz (nB1 bSortedK (eName 3 "rows" ⟨32, 26, 32, 30⟩ (by rfl) (by rfl)) ⟨32, 19, 32, 25⟩ ⟨32, 19, 32, 31⟩ (List.mem_of_getElem? (i := 11) rfl) (by rfl))))
 (bCons (sIf (tVal (eCall p_is_done (aCons (eName 0 "heard" ⟨33, 23, 33, 28⟩ (by rfl) (by rfl)) (aCons (eName 1 "due" ⟨33, 30, 33, 33⟩ (by rfl) (by rfl)) (aCons (eName 4 "lot" ⟨33, 35, 33, 38⟩ (by rfl) (by rfl)) aNil))) ⟨33, 15, 33, 22⟩ ⟨33, 15, 33, 39⟩ (List.mem_of_getElem? (i := 1) rfl) (by rfl) (by exact List.cons_ne_nil _ _)))
 (bCons (sRet (eRev (eIdx (eName 3 "rows" ⟨34, 23, 34, 27⟩ (by rfl) (by rfl)) (eName 4 "lot" ⟨34, 28, 34, 31⟩ (by rfl) (by rfl)) ⟨34, 23, 34, 32⟩) 0 ⟨34, 36, 34, 37⟩ ⟨34, 35, 34, 37⟩ ⟨34, 33, 34, 37⟩ ⟨34, 23, 34, 38⟩) ⟨34, 16, 34, 38⟩)
 bNil)
 bNil ⟨33, 12, 34, 38⟩)
 bNil) ⟨32, 8, 34, 38⟩ (by first | exact trivial | exact ⟨_, _, _, rfl⟩))
 (bCons (sAsgM 5 "fresh" (mEmptyK ⟨35, 16, 35, 18⟩) ⟨35, 8, 35, 13⟩ ⟨35, 8, 35, 18⟩ (by rfl) (by rfl) (by rfl) (by rfl))
 (bCons (sFor (gNm 4 "lot" ⟨36, 12, 36, 15⟩ (by rfl) (by rfl) (by rfl)) (iV (eFrz (nB1 bSortedK (eName 3 "rows" ⟨36, 26, 36, 30⟩ (by rfl) (by rfl)) ⟨36, 19, 36, 25⟩ ⟨36, 19, 36, 31⟩ (List.mem_of_getElem? (i := 11) rfl) (by rfl))))
 (bCons (sFor (gTp (gsCons (gNm 6 "word" ⟨37, 16, 37, 20⟩ (by rfl) (by rfl) (by rfl)) (gsCons (gNm 7 "other" ⟨37, 22, 37, 27⟩ (by rfl) (by rfl) (by rfl)) gsNil)) 0 ⟨37, 16, 37, 27⟩) (iV (eCall p_steps (aCons (eName 1 "due" ⟨37, 37, 37, 40⟩ (by rfl) (by rfl)) (aCons (eName 2 "groups" ⟨37, 42, 37, 48⟩ (by rfl) (by rfl)) (aCons (eName 4 "lot" ⟨37, 50, 37, 53⟩ (by rfl) (by rfl)) aNil))) ⟨37, 31, 37, 36⟩ ⟨37, 31, 37, 54⟩ (List.mem_of_getElem? (i := 0) rfl) (by rfl) (by exact List.cons_ne_nil _ _)))
 (bCons (sKPut 5 "fresh" (eName 7 "other" ⟨38, 22, 38, 27⟩ (by rfl) (by rfl)) (eAdd (eIdx (eName 3 "rows" ⟨38, 31, 38, 35⟩ (by rfl) (by rfl)) (eName 4 "lot" ⟨38, 36, 38, 39⟩ (by rfl) (by rfl)) ⟨38, 31, 38, 40⟩) (eFrz (nList (aCons (eName 6 "word" ⟨38, 44, 38, 48⟩ (by rfl) (by rfl)) aNil) ⟨38, 43, 38, 49⟩)) ⟨38, 31, 38, 49⟩) ⟨38, 16, 38, 21⟩ ⟨38, 16, 38, 28⟩ ⟨38, 16, 38, 49⟩ (by rfl) (by rfl) (by rfl))
 bNil) ⟨37, 12, 38, 49⟩ (by first | exact trivial | exact ⟨_, _, _, rfl⟩))
 bNil) ⟨36, 8, 38, 49⟩ (by first | exact trivial | exact ⟨_, _, _, rfl⟩))
 (bCons (sAsg 3 "rows" (eName 5 "fresh" ⟨39, 15, 39, 20⟩ (by rfl) (by rfl)) ⟨39, 8, 39, 12⟩ ⟨39, 8, 39, 20⟩ (by rfl) (by rfl) (by rfl) (by rfl))
 bNil)))) ⟨31, 4, 39, 20⟩)
 bNil))
def p_fewest_words : Prom := promB "fewest_words" ["heard", "due", "groups"] b_fewest_words
def wt0_fewest_words : En → Option (Bool × En) := (semT (cst (.bool true)))
def wb0_fewest_words : En → Option Fl := (semSeq (semFor (semV (semFrz (semN1 dSortedK (rd 3)))) (semG 4)
 (semSeq (semIfS (semT (semCall p_is_done (semCons (rd 0) (semCons (rd 1) (semCons (rd 4) semNil)))))
 (semSeq (semRet (semUn dRev (semBin dIdx (rd 3) (rd 4))))
 semNext)
 semNext)
 semNext))
 (semSeq (semAsgM 5 semEmptyK)
 (semSeq (semFor (semV (semFrz (semN1 dSortedK (rd 3)))) (semG 4)
 (semSeq (semFor (semV (semCall p_steps (semCons (rd 1) (semCons (rd 2) (semCons (rd 4) semNil))))) (semGTup 2 (semGCons (semG 6) (semGCons (semG 7) semGNil)))
 (semSeq (semKPut 5 (rd 7) (semBin fAdd (semBin dIdx (rd 3) (rd 4)) (semFrz (semLst (semCons (rd 6) semNil)))))
 semNext))
 semNext))
 (semSeq (semAsg 3 (rd 5))
 semNext))))
def m_fewest_words : En → Option Fl := (semSeq (semAsg 3 (semDispK (semTup semNil) (semFrz (semLst semNil))))
 (semSeq (whileS wt0_fewest_words wb0_fewest_words fuel_fewest_words)
 semNext))
theorem sem_fewest_words : (b_fewest_words).sem = m_fewest_words := by rfl
theorem run_fewest_words : p_fewest_words.sem = runD [] 8 m_fewest_words := by show runD _ _ _ = _; rw [sem_fewest_words]; rfl
theorem nps_fewest_words : (p_fewest_words).ps.length = 3 := rfl
theorem sc_fewest_words : FnScope ["heard", "due", "groups", "rows", "lot", "fresh", "word", "other"] ["heard", "due", "groups"] (defScope s_fewest_words) := ⟨rfl, rfl, rfl, by decide +kernel, rfl, by decide +kernel, by decide +kernel⟩
theorem syn_fewest_words : (b_fewest_words).syn = defBody s_fewest_words := by rfl

abbrev s__law_draw : Stmt := topS 10
abbrev nm__law_draw : Nm where
  N := ["_law_tape", "_law_many", "_law_prime", "_law_found", "_law_cell"]
  sc := defScope s__law_draw
  Γ := []
  cs := []
  IO := [0]
  cf := fun _ => true
def b__law_draw : CB (nm__law_draw) := (bCons (sAsg 2 "_law_prime" (eInt 2305843009213693951 0 ⟨42, 17, 42, 36⟩) ⟨42, 4, 42, 14⟩ ⟨42, 4, 42, 36⟩ (by rfl) (by rfl) (by rfl) (by rfl))
 (bCons (sIf (tCp cLt (oIdx 0 "_law_tape" (eInt 2 0 ⟨43, 17, 43, 18⟩) ⟨43, 7, 43, 16⟩ ⟨43, 7, 43, 19⟩ (by rfl) (by rfl)) (eName 1 "_law_many" ⟨43, 22, 43, 31⟩ (by rfl) (by rfl)) ⟨43, 7, 43, 31⟩)
 (bCons (sAsg 4 "_law_cell" (eInt 0 0 ⟨44, 20, 44, 21⟩) ⟨44, 8, 44, 17⟩ ⟨44, 8, 44, 21⟩ (by rfl) (by rfl) (by rfl) (by rfl))
 (bCons (sIf (tCp cGt (eB1 bLen (oIdx 0 "_law_tape" (eInt 0 0 ⟨45, 25, 45, 26⟩) ⟨45, 15, 45, 24⟩ ⟨45, 15, 45, 27⟩ (by rfl) (by rfl)) ⟨45, 11, 45, 14⟩ ⟨45, 11, 45, 28⟩ (List.mem_of_getElem? (i := 0) rfl) (by rfl)) (eInt 0 0 ⟨45, 31, 45, 32⟩) ⟨45, 11, 45, 32⟩)
 (bCons (sAsg 4 "_law_cell" (eIdx (oIdx 0 "_law_tape" (eInt 0 0 ⟨46, 34, 46, 35⟩) ⟨46, 24, 46, 33⟩ ⟨46, 24, 46, 36⟩ (by rfl) (by rfl)) (eMod (oIdx 0 "_law_tape" (eInt 1 0 ⟨46, 47, 46, 48⟩) ⟨46, 37, 46, 46⟩ ⟨46, 37, 46, 49⟩ (by rfl) (by rfl)) (eB1 bLen (oIdx 0 "_law_tape" (eInt 0 0 ⟨46, 66, 46, 67⟩) ⟨46, 56, 46, 65⟩ ⟨46, 56, 46, 68⟩ (by rfl) (by rfl)) ⟨46, 52, 46, 55⟩ ⟨46, 52, 46, 69⟩ (List.mem_of_getElem? (i := 0) rfl) (by rfl)) ⟨46, 37, 46, 69⟩) ⟨46, 24, 46, 70⟩) ⟨46, 12, 46, 21⟩ ⟨46, 12, 46, 70⟩ (by rfl) (by rfl) (by rfl) (by rfl))
 bNil)
 bNil ⟨45, 8, 46, 70⟩)
 (bCons (sIf (tBool .Or (wOr (tCp cGe (oIdx 0 "_law_tape" (eInt 1 0 ⟨47, 21, 47, 22⟩) ⟨47, 11, 47, 20⟩ ⟨47, 11, 47, 23⟩ (by rfl) (by rfl)) (eB1 bLen (oIdx 0 "_law_tape" (eInt 0 0 ⟨47, 41, 47, 42⟩) ⟨47, 31, 47, 40⟩ ⟨47, 31, 47, 43⟩ (by rfl) (by rfl)) ⟨47, 27, 47, 30⟩ ⟨47, 27, 47, 44⟩ (List.mem_of_getElem? (i := 0) rfl) (by rfl)) ⟨47, 11, 47, 44⟩) (w1 .Or (tCp cLt (eName 4 "_law_cell" ⟨47, 48, 47, 57⟩ (by rfl) (by rfl)) (ePow (eInt 10 0 ⟨47, 60, 47, 62⟩) (eInt 18 0 ⟨47, 66, 47, 68⟩) ⟨47, 60, 47, 68⟩) ⟨47, 48, 47, 68⟩))) ⟨47, 11, 47, 68⟩)
 (bCons (sAsg 4 "_law_cell" (eMod (eAdd (eName 4 "_law_cell" ⟨48, 25, 48, 34⟩ (by rfl) (by rfl)) (eMul (eInt 1000003 0 ⟨48, 37, 48, 44⟩) (oIdx 0 "_law_tape" (eInt 1 0 ⟨48, 57, 48, 58⟩) ⟨48, 47, 48, 56⟩ ⟨48, 47, 48, 59⟩ (by rfl) (by rfl)) ⟨48, 37, 48, 59⟩) ⟨48, 25, 48, 59⟩) (eName 2 "_law_prime" ⟨48, 63, 48, 73⟩ (by rfl) (by rfl)) ⟨48, 24, 48, 73⟩) ⟨48, 12, 48, 21⟩ ⟨48, 12, 48, 73⟩ (by rfl) (by rfl) (by rfl) (by rfl))
 (bCons (sAsg 4 "_law_cell" (eMod (eAdd (eAdd (eMul (eName 4 "_law_cell" ⟨49, 25, 49, 34⟩ (by rfl) (by rfl)) (eName 4 "_law_cell" ⟨49, 37, 49, 46⟩ (by rfl) (by rfl)) ⟨49, 25, 49, 46⟩) (eMul (eInt 1181783497276652981 0 ⟨49, 49, 49, 68⟩) (eName 4 "_law_cell" ⟨49, 71, 49, 80⟩ (by rfl) (by rfl)) ⟨49, 49, 49, 80⟩) ⟨49, 25, 49, 80⟩) (eInt 2049848353892358983 0 ⟨49, 83, 49, 102⟩) ⟨49, 25, 49, 102⟩) (eName 2 "_law_prime" ⟨49, 106, 49, 116⟩ (by rfl) (by rfl)) ⟨49, 24, 49, 116⟩) ⟨49, 12, 49, 21⟩ ⟨49, 12, 49, 116⟩ (by rfl) (by rfl) (by rfl) (by rfl))
 (bCons (sAsg 4 "_law_cell" (eMod (eAdd (eMul (eName 4 "_law_cell" ⟨50, 25, 50, 34⟩ (by rfl) (by rfl)) (eName 4 "_law_cell" ⟨50, 37, 50, 46⟩ (by rfl) (by rfl)) ⟨50, 25, 50, 46⟩) (eInt 1442695040888963407 0 ⟨50, 49, 50, 68⟩) ⟨50, 25, 50, 68⟩) (eName 2 "_law_prime" ⟨50, 72, 50, 82⟩ (by rfl) (by rfl)) ⟨50, 24, 50, 82⟩) ⟨50, 12, 50, 21⟩ ⟨50, 12, 50, 82⟩ (by rfl) (by rfl) (by rfl) (by rfl))
 bNil)))
 bNil ⟨47, 8, 50, 82⟩)
 (bCons (sSet 0 "_law_tape" (eInt 1 0 ⟨51, 18, 51, 19⟩) (eAdd (oIdx 0 "_law_tape" (eInt 1 0 ⟨51, 33, 51, 34⟩) ⟨51, 23, 51, 32⟩ ⟨51, 23, 51, 35⟩ (by rfl) (by rfl)) (eInt 1 0 ⟨51, 38, 51, 39⟩) ⟨51, 23, 51, 39⟩) ⟨51, 8, 51, 17⟩ ⟨51, 8, 51, 20⟩ ⟨51, 8, 51, 39⟩ (by rfl) (by rfl) (by rfl))
 (bCons (sSet 0 "_law_tape" (eInt 2 0 ⟨52, 18, 52, 19⟩) (eName 4 "_law_cell" ⟨52, 23, 52, 32⟩ (by rfl) (by rfl)) ⟨52, 8, 52, 17⟩ ⟨52, 8, 52, 20⟩ ⟨52, 8, 52, 32⟩ (by rfl) (by rfl) (by rfl))
 bNil)))))
 bNil ⟨43, 4, 52, 32⟩)
 (bCons (sAsg 3 "_law_found" (eMod (oIdx 0 "_law_tape" (eInt 2 0 ⟨53, 27, 53, 28⟩) ⟨53, 17, 53, 26⟩ ⟨53, 17, 53, 29⟩ (by rfl) (by rfl)) (eName 1 "_law_many" ⟨53, 32, 53, 41⟩ (by rfl) (by rfl)) ⟨53, 17, 53, 41⟩) ⟨53, 4, 53, 14⟩ ⟨53, 4, 53, 41⟩ (by rfl) (by rfl) (by rfl) (by rfl))
 (bCons (sSet 0 "_law_tape" (eInt 2 0 ⟨54, 14, 54, 15⟩) (eFdiv (oIdx 0 "_law_tape" (eInt 2 0 ⟨54, 29, 54, 30⟩) ⟨54, 19, 54, 28⟩ ⟨54, 19, 54, 31⟩ (by rfl) (by rfl)) (eName 1 "_law_many" ⟨54, 35, 54, 44⟩ (by rfl) (by rfl)) ⟨54, 19, 54, 44⟩) ⟨54, 4, 54, 13⟩ ⟨54, 4, 54, 16⟩ ⟨54, 4, 54, 44⟩ (by rfl) (by rfl) (by rfl))
 (bCons (sRet (eName 3 "_law_found" ⟨55, 11, 55, 21⟩ (by rfl) (by rfl)) ⟨55, 4, 55, 21⟩)
 bNil)))))
def p__law_draw : Prom := promB "_law_draw" ["_law_tape", "_law_many"] b__law_draw
def m__law_draw : En → Option Fl := (semSeq (semAsg 2 (cst (.int 2305843009213693951)))
 (semSeq (semIfS (semT (semBin fLt (semOIdx 0 (cst (.int 2))) (rd 1)))
 (semSeq (semAsg 4 (cst (.int 0)))
 (semSeq (semIfS (semT (semBin fGt (semUn dLen (semOIdx 0 (cst (.int 0)))) (cst (.int 0))))
 (semSeq (semAsg 4 (semBin dIdx (semOIdx 0 (cst (.int 0))) (semBin fMod (semOIdx 0 (cst (.int 1))) (semUn dLen (semOIdx 0 (cst (.int 0)))))))
 semNext)
 semNext)
 (semSeq (semIfS (semOr (semT (semBin fGe (semOIdx 0 (cst (.int 1))) (semUn dLen (semOIdx 0 (cst (.int 0)))))) (semT (semBin fLt (rd 4) (semBin fPow (cst (.int 10)) (cst (.int 18))))))
 (semSeq (semAsg 4 (semBin fMod (semBin fAdd (rd 4) (semBin fMul (cst (.int 1000003)) (semOIdx 0 (cst (.int 1))))) (rd 2)))
 (semSeq (semAsg 4 (semBin fMod (semBin fAdd (semBin fAdd (semBin fMul (rd 4) (rd 4)) (semBin fMul (cst (.int 1181783497276652981)) (rd 4))) (cst (.int 2049848353892358983))) (rd 2)))
 (semSeq (semAsg 4 (semBin fMod (semBin fAdd (semBin fMul (rd 4) (rd 4)) (cst (.int 1442695040888963407))) (rd 2)))
 semNext)))
 semNext)
 (semSeq (semSet 0 (cst (.int 1)) (semBin fAdd (semOIdx 0 (cst (.int 1))) (cst (.int 1))))
 (semSeq (semSet 0 (cst (.int 2)) (rd 4))
 semNext)))))
 semNext)
 (semSeq (semAsg 3 (semBin fMod (semOIdx 0 (cst (.int 2))) (rd 1)))
 (semSeq (semSet 0 (cst (.int 2)) (semBin fFdiv (semOIdx 0 (cst (.int 2))) (rd 1)))
 (semSeq (semRet (rd 3))
 semNext)))))
theorem sem__law_draw : (b__law_draw).sem = m__law_draw := by rfl
theorem run__law_draw : p__law_draw.sem = runD [0] 5 m__law_draw := by show runD _ _ _ = _; rw [sem__law_draw]; rfl
theorem nps__law_draw : (p__law_draw).ps.length = 2 := rfl
theorem sc__law_draw : FnScope ["_law_tape", "_law_many", "_law_prime", "_law_found", "_law_cell"] ["_law_tape", "_law_many"] (defScope s__law_draw) := ⟨rfl, rfl, rfl, by decide +kernel, rfl, by decide +kernel, by decide +kernel⟩
theorem syn__law_draw : (b__law_draw).syn = defBody s__law_draw := by rfl

abbrev s__law_lamps : Stmt := topS 11
abbrev nm__law_lamps : Nm where
  N := ["_law_tape", "_law_most", "_law_names", "_law_name"]
  sc := defScope s__law_lamps
  Γ := [p__law_draw]
  cs := []
  IO := [0]
  cf := fun _ => true
def b__law_lamps : CB (nm__law_lamps) := (bCons (sAsg 2 "_law_names" (eCut (eFrz (nList (aCons (eStr "ann" 0 ⟨57, 18, 57, 23⟩) (aCons (eStr "bo" 0 ⟨57, 25, 57, 29⟩) (aCons (eStr "cy" 0 ⟨57, 31, 57, 35⟩) (aCons (eStr "dot" 0 ⟨57, 37, 57, 42⟩) (aCons (eStr "eve" 0 ⟨57, 44, 57, 49⟩) (aCons (eStr "fay" 0 ⟨57, 51, 57, 56⟩) (aCons (eStr "gus" 0 ⟨57, 58, 57, 63⟩) (aCons (eStr "zzzzzzzz" 0 ⟨57, 65, 57, 75⟩) aNil)))))))) ⟨57, 17, 57, 76⟩)) oNone (oSome (eAdd (eInt 1 0 ⟨57, 78, 57, 79⟩) (eCall p__law_draw (aLend 0 "_law_tape" ⟨57, 92, 57, 101⟩ (aCons (eName 1 "_law_most" ⟨57, 103, 57, 112⟩ (by rfl) (by rfl)) aNil) (by rfl) (by rfl)) ⟨57, 82, 57, 91⟩ ⟨57, 82, 57, 113⟩ (List.mem_of_getElem? (i := 0) rfl) (by rfl) (by exact List.cons_ne_nil _ _)) ⟨57, 78, 57, 113⟩)) ⟨57, 77, 57, 113⟩ ⟨57, 17, 57, 114⟩) ⟨57, 4, 57, 14⟩ ⟨57, 4, 57, 114⟩ (by rfl) (by rfl) (by rfl) (by rfl))
 (bCons (sRet (eB1 bTuple (eFrz (nLc (iV (eName 2 "_law_names" ⟨58, 113, 58, 123⟩ (by rfl) (by rfl))) (mkS [(".0", .local), ("_law_name", .local), ("_law_draw", .globalImplicit), ("_law_tape", .free)] []) [("_law_name", 3)] (gNm 3 "_law_name" ⟨58, 100, 58, 109⟩ (by rfl) (by rfl) (by rfl)) tsNil (eTup (aCons (eName 3 "_law_name" ⟨58, 19, 58, 28⟩ (by rfl) (by rfl)) (aCons (eIdx (eFrz (nList (aCons (eInt 1 0 ⟨58, 31, 58, 32⟩) (aCons (eInt 200 0 ⟨58, 34, 58, 37⟩) (aCons (eAdd (eInt 1 0 ⟨58, 39, 58, 40⟩) (eCall p__law_draw (aLend 0 "_law_tape" ⟨58, 53, 58, 62⟩ (aCons (eInt 200 0 ⟨58, 64, 58, 67⟩) aNil) (by rfl) (by rfl)) ⟨58, 43, 58, 52⟩ ⟨58, 43, 58, 68⟩ (List.mem_of_getElem? (i := 0) rfl) (by rfl) (by exact List.cons_ne_nil _ _)) ⟨58, 39, 58, 68⟩) aNil))) ⟨58, 30, 58, 69⟩)) (eCall p__law_draw (aLend 0 "_law_tape" ⟨58, 80, 58, 89⟩ (aCons (eInt 3 0 ⟨58, 91, 58, 92⟩) aNil) (by rfl) (by rfl)) ⟨58, 70, 58, 79⟩ ⟨58, 70, 58, 93⟩ (List.mem_of_getElem? (i := 0) rfl) (by rfl) (by exact List.cons_ne_nil _ _)) ⟨58, 30, 58, 94⟩) aNil)) 0 ⟨58, 18, 58, 95⟩) ⟨58, 17, 58, 124⟩ (by first | exact trivial | exact ⟨_, _, _, rfl⟩) (by rfl) (by rfl))) ⟨58, 11, 58, 16⟩ ⟨58, 11, 58, 125⟩ (List.mem_of_getElem? (i := 4) rfl) (by rfl)) ⟨58, 4, 58, 125⟩)
 bNil))
def p__law_lamps : Prom := promB "_law_lamps" ["_law_tape", "_law_most"] b__law_lamps
def m__law_lamps : En → Option Fl := (semSeq (semAsg 2 (semCut (semFrz (semLst (semCons (cst (.str "ann")) (semCons (cst (.str "bo")) (semCons (cst (.str "cy")) (semCons (cst (.str "dot")) (semCons (cst (.str "eve")) (semCons (cst (.str "fay")) (semCons (cst (.str "gus")) (semCons (cst (.str "zzzzzzzz")) semNil)))))))))) semONone (semOSome (semBin fAdd (cst (.int 1)) (semCall p__law_draw (semLend 0 (semCons (rd 1) semNil)))))))
 (semSeq (semRet (semUn dTuple (semFrz (semLc (semV (rd 2)) (semG 3) semYes (semTup (semCons (rd 3) (semCons (semBin dIdx (semFrz (semLst (semCons (cst (.int 1)) (semCons (cst (.int 200)) (semCons (semBin fAdd (cst (.int 1)) (semCall p__law_draw (semLend 0 (semCons (cst (.int 200)) semNil)))) semNil))))) (semCall p__law_draw (semLend 0 (semCons (cst (.int 3)) semNil)))) semNil))) [3]))))
 semNext))
theorem sem__law_lamps : (b__law_lamps).sem = m__law_lamps := by rfl
theorem run__law_lamps : p__law_lamps.sem = runD [0] 4 m__law_lamps := by show runD _ _ _ = _; rw [sem__law_lamps]; rfl
theorem nps__law_lamps : (p__law_lamps).ps.length = 2 := rfl
theorem sc__law_lamps : FnScope ["_law_tape", "_law_most", "_law_names", "_law_name"] ["_law_tape", "_law_most"] (defScope s__law_lamps) := ⟨rfl, rfl, rfl, by decide +kernel, rfl, by decide +kernel, by decide +kernel⟩
theorem syn__law_lamps : (b__law_lamps).syn = defBody s__law_lamps := by rfl

abbrev s__law_groups : Stmt := topS 12
abbrev nm__law_groups : Nm where
  N := ["_law_tape", "_law_lamps_here", "_law_found", "_law_names", "_law_k", "_law_some", "_law_name", "_law_power"]
  sc := defScope s__law_groups
  Γ := [p__law_draw]
  cs := []
  IO := [0]
  cf := fun _ => true
def b__law_groups : CB (nm__law_groups) := (bCons (sAsgM 2 "_law_found" (mEmpty ⟨60, 17, 60, 19⟩) ⟨60, 4, 60, 14⟩ ⟨60, 4, 60, 19⟩ (by rfl) (by rfl) (by rfl) (by rfl))
 (bCons (sLcV 3 "_law_names" (iV (eName 1 "_law_lamps_here" ⟨61, 57, 61, 72⟩ (by rfl) (by rfl))) (mkS [(".0", .local), ("_law_name", .local), ("_law_power", .local)] []) [("_law_name", 6), ("_law_power", 7)] (gTp (gsCons (gNm 6 "_law_name" ⟨61, 32, 61, 41⟩ (by rfl) (by rfl) (by rfl)) (gsCons (gNm 7 "_law_power" ⟨61, 43, 61, 53⟩ (by rfl) (by rfl) (by rfl)) gsNil)) 0 ⟨61, 32, 61, 53⟩) tsNil (eName 6 "_law_name" ⟨61, 18, 61, 27⟩ (by rfl) (by rfl)) ⟨61, 4, 61, 14⟩ ⟨61, 17, 61, 73⟩ ⟨61, 4, 61, 73⟩ (by rfl) (by rfl) (by rfl) (by rfl) (by first | exact trivial | exact ⟨_, _, _, rfl⟩) (by rfl) (by rfl) (by rfl) (by rfl))
 (bCons (sFor (gNm 4 "_law_k" ⟨62, 8, 62, 14⟩ (by rfl) (by rfl) (by rfl)) (iRange1 (eCall p__law_draw (aLend 0 "_law_tape" ⟨62, 34, 62, 43⟩ (aCons (eInt 7 0 ⟨62, 45, 62, 46⟩) aNil) (by rfl) (by rfl)) ⟨62, 24, 62, 33⟩ ⟨62, 24, 62, 47⟩ (List.mem_of_getElem? (i := 0) rfl) (by rfl) (by exact List.cons_ne_nil _ _)) ⟨62, 18, 62, 23⟩ ⟨62, 18, 62, 48⟩ (by rfl))
 (bCons (sLcV 5 "_law_some" (iV (eName 3 "_law_names" ⟨63, 48, 63, 58⟩ (by rfl) (by rfl))) (mkS [(".0", .local), ("_law_name", .local), ("_law_draw", .globalImplicit), ("_law_tape", .free)] []) [("_law_name", 6)] (gNm 6 "_law_name" ⟨63, 35, 63, 44⟩ (by rfl) (by rfl) (by rfl)) (tsOne (tCp cEq (eCall p__law_draw (aLend 0 "_law_tape" ⟨63, 72, 63, 81⟩ (aCons (eInt 2 0 ⟨63, 83, 63, 84⟩) aNil) (by rfl) (by rfl)) ⟨63, 62, 63, 71⟩ ⟨63, 62, 63, 85⟩ (List.mem_of_getElem? (i := 0) rfl) (by rfl) (by exact List.cons_ne_nil _ _)) (eInt 0 0 ⟨63, 89, 63, 90⟩) ⟨63, 62, 63, 90⟩)) (eName 6 "_law_name" ⟨63, 21, 63, 30⟩ (by rfl) (by rfl)) ⟨63, 8, 63, 17⟩ ⟨63, 20, 63, 91⟩ ⟨63, 8, 63, 91⟩ (by rfl) (by rfl) (by rfl) (by rfl) (by first | exact trivial | exact ⟨_, _, _, rfl⟩) (by rfl) (by rfl) (by rfl) (by rfl))
 (bCons (sDPut 2 "_law_found" (eIdx (eFrz (nList (aCons (eStr "a" 0 ⟨64, 20, 64, 23⟩) (aCons (eStr "b" 0 ⟨64, 25, 64, 28⟩) (aCons (eStr "cc" 0 ⟨64, 30, 64, 34⟩) (aCons (eStr "hall" 0 ⟨64, 36, 64, 42⟩) (aCons (eStr "ups" 0 ⟨64, 44, 64, 49⟩) (aCons (eStr "z" 0 ⟨64, 51, 64, 54⟩) aNil)))))) ⟨64, 19, 64, 55⟩)) (eName 4 "_law_k" ⟨64, 56, 64, 62⟩ (by rfl) (by rfl)) ⟨64, 19, 64, 63⟩) (eIf (tCp cNe (eName 5 "_law_some" ⟨64, 87, 64, 96⟩ (by rfl) (by rfl)) (eFrz (nList aNil ⟨64, 100, 64, 102⟩)) ⟨64, 87, 64, 102⟩) (eB1 bTuple (eName 5 "_law_some" ⟨64, 73, 64, 82⟩ (by rfl) (by rfl)) ⟨64, 67, 64, 72⟩ ⟨64, 67, 64, 83⟩ (List.mem_of_getElem? (i := 4) rfl) (by rfl)) (eTup (aCons (eIdx (eName 3 "_law_names" ⟨64, 109, 64, 119⟩ (by rfl) (by rfl)) (eInt 0 0 ⟨64, 120, 64, 121⟩) ⟨64, 109, 64, 122⟩) aNil) 0 ⟨64, 108, 64, 124⟩) ⟨64, 67, 64, 124⟩) ⟨64, 8, 64, 18⟩ ⟨64, 8, 64, 64⟩ ⟨64, 8, 64, 124⟩ (by rfl) (by rfl) (by rfl))
 bNil)) ⟨62, 4, 64, 124⟩ (by first | exact trivial | exact ⟨_, _, _, rfl⟩))
 (bCons (sRet (eB1 bTuple (eFrz (nLc (iV (eFrz (nBor (nB1 bSortedN (eName 2 "_law_found" ⟨65, 77, 65, 87⟩ (by rfl) (by rfl)) ⟨65, 70, 65, 76⟩ ⟨65, 70, 65, 88⟩ (List.mem_of_getElem? (i := 11) rfl) (by rfl))))) (mkS [(".0", .local), ("_law_name", .local), ("_law_found", .free)] []) [("_law_name", 6)] (gNm 6 "_law_name" ⟨65, 57, 65, 66⟩ (by rfl) (by rfl) (by rfl)) tsNil (eTup (aCons (eName 6 "_law_name" ⟨65, 19, 65, 28⟩ (by rfl) (by rfl)) (aCons (oDIdx 2 "_law_found" (eName 6 "_law_name" ⟨65, 41, 65, 50⟩ (by rfl) (by rfl)) ⟨65, 30, 65, 40⟩ ⟨65, 30, 65, 51⟩ (by rfl) (by rfl)) aNil)) 0 ⟨65, 18, 65, 52⟩) ⟨65, 17, 65, 89⟩ (by first | exact trivial | exact ⟨_, _, _, rfl⟩) (by rfl) (by rfl))) ⟨65, 11, 65, 16⟩ ⟨65, 11, 65, 90⟩ (List.mem_of_getElem? (i := 4) rfl) (by rfl)) ⟨65, 4, 65, 90⟩)
 bNil))))
def p__law_groups : Prom := promB "_law_groups" ["_law_tape", "_law_lamps_here"] b__law_groups
def m__law_groups : En → Option Fl := (semSeq (semAsgM 2 semEmptyD)
 (semSeq (semAsg 3 (semFrz (semLc (semV (rd 1)) (semGTup 2 (semGCons (semG 6) (semGCons (semG 7) semGNil))) semYes (rd 6) [6, 7])))
 (semSeq (semFor (semR1 (semCall p__law_draw (semLend 0 (semCons (cst (.int 7)) semNil)))) (semG 4)
 (semSeq (semAsg 5 (semFrz (semLc (semV (rd 3)) (semG 6) (semT (semBin fEq (semCall p__law_draw (semLend 0 (semCons (cst (.int 2)) semNil))) (cst (.int 0)))) (rd 6) [6])))
 (semSeq (semDPut 2 (semBin dIdx (semFrz (semLst (semCons (cst (.str "a")) (semCons (cst (.str "b")) (semCons (cst (.str "cc")) (semCons (cst (.str "hall")) (semCons (cst (.str "ups")) (semCons (cst (.str "z")) semNil)))))))) (rd 4)) (semIf (semT (semBin fNe (rd 5) (semFrz (semLst semNil)))) (semUn dTuple (rd 5)) (semTup (semCons (semBin dIdx (rd 3) (cst (.int 0))) semNil))))
 semNext)))
 (semSeq (semRet (semUn dTuple (semFrz (semLc (semV (semFrz (semBN (semN1 dSorted (rd 2))))) (semG 6) semYes (semTup (semCons (rd 6) (semCons (semODIdx 2 (rd 6)) semNil))) [6]))))
 semNext))))
theorem sem__law_groups : (b__law_groups).sem = m__law_groups := by rfl
theorem run__law_groups : p__law_groups.sem = runD [0] 8 m__law_groups := by show runD _ _ _ = _; rw [sem__law_groups]; rfl
theorem nps__law_groups : (p__law_groups).ps.length = 2 := rfl
theorem sc__law_groups : FnScope ["_law_tape", "_law_lamps_here", "_law_found", "_law_names", "_law_k", "_law_some", "_law_name", "_law_power"] ["_law_tape", "_law_lamps_here"] (defScope s__law_groups) := ⟨rfl, rfl, rfl, by decide +kernel, rfl, by decide +kernel, by decide +kernel⟩
theorem syn__law_groups : (b__law_groups).syn = defBody s__law_groups := by rfl

abbrev s__law_told_by : Stmt := topS 13
abbrev nm__law_told_by : Nm where
  N := ["_law_names", "_law_groups_here", "_law_word"]
  sc := defScope s__law_told_by
  Γ := []
  cs := []
  IO := []
  cf := fun _ => true
def b__law_told_by : CB (nm__law_told_by) := (bCons (sIf (tCp cEq (eIdx (eName 2 "_law_word" ⟨67, 7, 67, 16⟩ (by rfl) (by rfl)) (eInt 0 0 ⟨67, 17, 67, 18⟩) ⟨67, 7, 67, 19⟩) (eStr "all" 0 ⟨67, 23, 67, 28⟩) ⟨67, 7, 67, 28⟩)
 (bCons (sRet (eName 0 "_law_names" ⟨68, 15, 68, 25⟩ (by rfl) (by rfl)) ⟨68, 8, 68, 25⟩)
 bNil)
 bNil ⟨67, 4, 68, 25⟩)
 (bCons (sRet (eIf (tCp cEq (eIdx (eName 2 "_law_word" ⟨69, 29, 69, 38⟩ (by rfl) (by rfl)) (eInt 0 0 ⟨69, 39, 69, 40⟩) ⟨69, 29, 69, 41⟩) (eStr "lamp" 0 ⟨69, 45, 69, 51⟩) ⟨69, 29, 69, 51⟩) (eFrz (nList (aCons (eIdx (eName 2 "_law_word" ⟨69, 12, 69, 21⟩ (by rfl) (by rfl)) (eInt 1 0 ⟨69, 22, 69, 23⟩) ⟨69, 12, 69, 24⟩) aNil) ⟨69, 11, 69, 25⟩)) (eFrz (nB1 bListN (eIdx (eB1 bDict (eName 1 "_law_groups_here" ⟨69, 67, 69, 83⟩ (by rfl) (by rfl)) ⟨69, 62, 69, 66⟩ ⟨69, 62, 69, 84⟩ (List.mem_of_getElem? (i := 6) rfl) (by rfl)) (eIdx (eName 2 "_law_word" ⟨69, 85, 69, 94⟩ (by rfl) (by rfl)) (eInt 1 0 ⟨69, 95, 69, 96⟩) ⟨69, 85, 69, 97⟩) ⟨69, 62, 69, 98⟩) ⟨69, 57, 69, 61⟩ ⟨69, 57, 69, 99⟩ (List.mem_of_getElem? (i := 5) rfl) (by rfl))) ⟨69, 11, 69, 99⟩) ⟨69, 4, 69, 99⟩)
 bNil))
def p__law_told_by : Prom := promB "_law_told_by" ["_law_names", "_law_groups_here", "_law_word"] b__law_told_by
def m__law_told_by : En → Option Fl := (semSeq (semIfS (semT (semBin fEq (semBin dIdx (rd 2) (cst (.int 0))) (cst (.str "all"))))
 (semSeq (semRet (rd 0))
 semNext)
 semNext)
 (semSeq (semRet (semIf (semT (semBin fEq (semBin dIdx (rd 2) (cst (.int 0))) (cst (.str "lamp")))) (semFrz (semLst (semCons (semBin dIdx (rd 2) (cst (.int 1))) semNil))) (semFrz (semN1 dItemsS (semBin dIdx (semUn dDict (rd 1)) (semBin dIdx (rd 2) (cst (.int 1))))))))
 semNext))
theorem sem__law_told_by : (b__law_told_by).sem = m__law_told_by := by rfl
theorem run__law_told_by : p__law_told_by.sem = runD [] 3 m__law_told_by := by show runD _ _ _ = _; rw [sem__law_told_by]; rfl
theorem nps__law_told_by : (p__law_told_by).ps.length = 3 := rfl
theorem sc__law_told_by : FnScope ["_law_names", "_law_groups_here", "_law_word"] ["_law_names", "_law_groups_here", "_law_word"] (defScope s__law_told_by) := ⟨rfl, rfl, rfl, by decide +kernel, rfl, by decide +kernel, by decide +kernel⟩
theorem syn__law_told_by : (b__law_told_by).syn = defBody s__law_told_by := by rfl

abbrev s__law_levels : Stmt := topS 14
abbrev nm__law_levels : Nm where
  N := ["_law_tape", "_law_names", "_law_name"]
  sc := defScope s__law_levels
  Γ := [p__law_draw]
  cs := []
  IO := [0]
  cf := fun _ => true
def b__law_levels : CB (nm__law_levels) := (bCons (sRet (eB1 bTuple (eFrz (nLc (iV (eName 1 "_law_names" ⟨71, 90, 71, 100⟩ (by rfl) (by rfl))) (mkS [(".0", .local), ("_law_name", .local), ("_law_draw", .globalImplicit), ("_law_tape", .free)] []) [("_law_name", 2)] (gNm 2 "_law_name" ⟨71, 77, 71, 86⟩ (by rfl) (by rfl) (by rfl)) tsNil (eTup (aCons (eName 2 "_law_name" ⟨71, 19, 71, 28⟩ (by rfl) (by rfl)) (aCons (eIdx (eFrz (nList (aCons (eInt 0 0 ⟨71, 31, 71, 32⟩) (aCons (eInt 50 0 ⟨71, 34, 71, 36⟩) (aCons (eInt 50 0 ⟨71, 38, 71, 40⟩) (aCons (eInt 100 0 ⟨71, 42, 71, 45⟩) aNil)))) ⟨71, 30, 71, 46⟩)) (eCall p__law_draw (aLend 0 "_law_tape" ⟨71, 57, 71, 66⟩ (aCons (eInt 4 0 ⟨71, 68, 71, 69⟩) aNil) (by rfl) (by rfl)) ⟨71, 47, 71, 56⟩ ⟨71, 47, 71, 70⟩ (List.mem_of_getElem? (i := 0) rfl) (by rfl) (by exact List.cons_ne_nil _ _)) ⟨71, 30, 71, 71⟩) aNil)) 0 ⟨71, 18, 71, 72⟩) ⟨71, 17, 71, 101⟩ (by first | exact trivial | exact ⟨_, _, _, rfl⟩) (by rfl) (by rfl))) ⟨71, 11, 71, 16⟩ ⟨71, 11, 71, 102⟩ (List.mem_of_getElem? (i := 4) rfl) (by rfl)) ⟨71, 4, 71, 102⟩)
 bNil)
def p__law_levels : Prom := promB "_law_levels" ["_law_tape", "_law_names"] b__law_levels
def m__law_levels : En → Option Fl := (semSeq (semRet (semUn dTuple (semFrz (semLc (semV (rd 1)) (semG 2) semYes (semTup (semCons (rd 2) (semCons (semBin dIdx (semFrz (semLst (semCons (cst (.int 0)) (semCons (cst (.int 50)) (semCons (cst (.int 50)) (semCons (cst (.int 100)) semNil)))))) (semCall p__law_draw (semLend 0 (semCons (cst (.int 4)) semNil)))) semNil))) [2]))))
 semNext)
theorem sem__law_levels : (b__law_levels).sem = m__law_levels := by rfl
theorem run__law_levels : p__law_levels.sem = runD [0] 3 m__law_levels := by show runD _ _ _ = _; rw [sem__law_levels]; rfl
theorem nps__law_levels : (p__law_levels).ps.length = 2 := rfl
theorem sc__law_levels : FnScope ["_law_tape", "_law_names", "_law_name"] ["_law_tape", "_law_names"] (defScope s__law_levels) := ⟨rfl, rfl, rfl, by decide +kernel, rfl, by decide +kernel, by decide +kernel⟩
theorem syn__law_levels : (b__law_levels).syn = defBody s__law_levels := by rfl

abbrev s__law_named : Stmt := topS 15
abbrev nm__law_named : Nm where
  N := ["_law_rows", "_law_names", "_law_name", "_law_level"]
  sc := defScope s__law_named
  Γ := []
  cs := []
  IO := []
  cf := fun _ => true
def b__law_named : CB (nm__law_named) := (bCons (sRet (eB1 bTuple (eFrz (nLc (iV (eName 0 "_law_rows" ⟨73, 83, 73, 92⟩ (by rfl) (by rfl))) (mkS [(".0", .local), ("_law_name", .local), ("_law_level", .local), ("_law_names", .free)] []) [("_law_name", 2), ("_law_level", 3)] (gTp (gsCons (gNm 2 "_law_name" ⟨73, 58, 73, 67⟩ (by rfl) (by rfl) (by rfl)) (gsCons (gNm 3 "_law_level" ⟨73, 69, 73, 79⟩ (by rfl) (by rfl) (by rfl)) gsNil)) 0 ⟨73, 58, 73, 79⟩) tsNil (eTup (aCons (eIdx (eName 1 "_law_names" ⟨73, 19, 73, 29⟩ (by rfl) (by rfl)) (eName 2 "_law_name" ⟨73, 30, 73, 39⟩ (by rfl) (by rfl)) ⟨73, 19, 73, 40⟩) (aCons (eName 3 "_law_level" ⟨73, 42, 73, 52⟩ (by rfl) (by rfl)) aNil)) 0 ⟨73, 18, 73, 53⟩) ⟨73, 17, 73, 93⟩ (by first | exact trivial | exact ⟨_, _, _, rfl⟩) (by rfl) (by rfl))) ⟨73, 11, 73, 16⟩ ⟨73, 11, 73, 94⟩ (List.mem_of_getElem? (i := 4) rfl) (by rfl)) ⟨73, 4, 73, 94⟩)
 bNil)
def p__law_named : Prom := promB "_law_named" ["_law_rows", "_law_names"] b__law_named
def m__law_named : En → Option Fl := (semSeq (semRet (semUn dTuple (semFrz (semLc (semV (rd 0)) (semGTup 2 (semGCons (semG 2) (semGCons (semG 3) semGNil))) semYes (semTup (semCons (semBin dIdx (rd 1) (rd 2)) (semCons (rd 3) semNil))) [2, 3]))))
 semNext)
theorem sem__law_named : (b__law_named).sem = m__law_named := by rfl
theorem run__law_named : p__law_named.sem = runD [] 4 m__law_named := by show runD _ _ _ = _; rw [sem__law_named]; rfl
theorem nps__law_named : (p__law_named).ps.length = 2 := rfl
theorem sc__law_named : FnScope ["_law_rows", "_law_names", "_law_name", "_law_level"] ["_law_rows", "_law_names"] (defScope s__law_named) := ⟨rfl, rfl, rfl, by decide +kernel, rfl, by decide +kernel, by decide +kernel⟩
theorem syn__law_named : (b__law_named).syn = defBody s__law_named := by rfl

abbrev s_law : Stmt := topS 16
abbrev nm_law : Nm where
  N := ["_law_script", "_law_tape", "_law_turn", "_law_lamps_here", "_law_groups_here", "_law_names", "_law_heard", "_law_between", "_law_due", "_law_words", "_law_ways", "_law_last", "_law_at", "_law_word", "_law_new", "_law_others", "_law_k", "_law_name", "_law_power", "_law_group", "_law_some"]
  sc := defScope s_law
  Γ := [p_fewest_words, p__law_named, p__law_told_by, p_heard_after, p__law_levels, p__law_groups, p__law_lamps]
  cs := []
  IO := []
  cf := fun _ => true
def b_law : CB (nm_law) := (bCons (sAsgN 1 "_law_tape" (nList (aCons (eFrz (nB1 bListN (eName 0 "_law_script" ⟨75, 22, 75, 33⟩ (by rfl) (by rfl)) ⟨75, 17, 75, 21⟩ ⟨75, 17, 75, 34⟩ (List.mem_of_getElem? (i := 5) rfl) (by rfl))) (aCons (eInt 0 0 ⟨75, 36, 75, 37⟩) (aCons (eInt 0 0 ⟨75, 39, 75, 40⟩) aNil))) ⟨75, 16, 75, 41⟩) ⟨75, 4, 75, 13⟩ ⟨75, 4, 75, 41⟩ (by rfl) (by rfl) (by rfl) (by rfl))
 (bCons (sFor (gNm 2 "_law_turn" ⟨76, 8, 76, 17⟩ (by rfl) (by rfl) (by rfl)) (iRange1 (eInt 4 0 ⟨76, 27, 76, 28⟩) ⟨76, 21, 76, 26⟩ ⟨76, 21, 76, 29⟩ (by rfl))
 (bCons (sAsg 3 "_law_lamps_here" (eCall p__law_lamps (aLend 1 "_law_tape" ⟨77, 37, 77, 46⟩ (aCons (eInt 5 0 ⟨77, 48, 77, 49⟩) aNil) (by rfl) (by rfl)) ⟨77, 26, 77, 36⟩ ⟨77, 26, 77, 50⟩ (List.mem_of_getElem? (i := 6) rfl) (by rfl) (by exact List.cons_ne_nil _ _)) ⟨77, 8, 77, 23⟩ ⟨77, 8, 77, 50⟩ (by rfl) (by rfl) (by rfl) (by rfl))
 (bCons (sAsgG (gTp (gsCons (gNm 4 "_law_groups_here" ⟨78, 8, 78, 24⟩ (by rfl) (by rfl) (by rfl)) (gsCons (gNm 5 "_law_names" ⟨78, 26, 78, 36⟩ (by rfl) (by rfl) (by rfl)) gsNil)) 0 ⟨78, 8, 78, 36⟩) (eTup (aCons (eCall p__law_groups (aLend 1 "_law_tape" ⟨78, 52, 78, 61⟩ (aCons (eName 3 "_law_lamps_here" ⟨78, 63, 78, 78⟩ (by rfl) (by rfl)) aNil) (by rfl) (by rfl)) ⟨78, 40, 78, 51⟩ ⟨78, 40, 78, 79⟩ (List.mem_of_getElem? (i := 5) rfl) (by rfl) (by exact List.cons_ne_nil _ _)) (aCons (eFrz (nLc (iV (eName 3 "_law_lamps_here" ⟨78, 121, 78, 136⟩ (by rfl) (by rfl))) (mkS [(".0", .local), ("_law_name", .local), ("_law_power", .local)] []) [("_law_name", 17), ("_law_power", 18)] (gTp (gsCons (gNm 17 "_law_name" ⟨78, 96, 78, 105⟩ (by rfl) (by rfl) (by rfl)) (gsCons (gNm 18 "_law_power" ⟨78, 107, 78, 117⟩ (by rfl) (by rfl) (by rfl)) gsNil)) 0 ⟨78, 96, 78, 117⟩) tsNil (eName 17 "_law_name" ⟨78, 82, 78, 91⟩ (by rfl) (by rfl)) ⟨78, 81, 78, 137⟩ (by first | exact trivial | exact ⟨_, _, _, rfl⟩) (by rfl) (by rfl))) aNil)) 0 ⟨78, 39, 78, 138⟩) ⟨78, 8, 78, 138⟩ (by rfl) (fun X G => sw_cell (by rw [G.sc]; decide +kernel)))
 (bCons (sAsgGC (gTpL (gsCons (gNm 6 "_law_heard" ⟨79, 8, 79, 18⟩ (by rfl) (by rfl) (by rfl)) (gsCons (gNm 7 "_law_between" ⟨79, 20, 79, 32⟩ (by rfl) (by rfl) (by rfl)) (gsCons (gNm 8 "_law_due" ⟨79, 34, 79, 42⟩ (by rfl) (by rfl) (by rfl)) gsNil))) 0 ⟨79, 8, 79, 42⟩) (eFrz (nLc (iRange1 (eInt 3 0 ⟨79, 101, 79, 102⟩) ⟨79, 95, 79, 100⟩ ⟨79, 95, 79, 103⟩ (by rfl)) (mkS [(".0", .local), ("_law_k", .local), ("_law_levels", .globalImplicit), ("_law_names", .free), ("_law_tape", .free)] []) [("_law_k", 16)] (gNm 16 "_law_k" ⟨79, 85, 79, 91⟩ (by rfl) (by rfl) (by rfl)) tsNil (eCall p__law_levels (aLend 1 "_law_tape" ⟨79, 58, 79, 67⟩ (aCons (eName 5 "_law_names" ⟨79, 69, 79, 79⟩ (by rfl) (by rfl)) aNil) (by rfl) (by rfl)) ⟨79, 46, 79, 57⟩ ⟨79, 46, 79, 80⟩ (List.mem_of_getElem? (i := 4) rfl) (by rfl) (by exact List.cons_ne_nil _ _)) ⟨79, 45, 79, 104⟩ (by first | exact trivial | exact ⟨_, _, _, rfl⟩) (by rfl) (by rfl))) ⟨79, 8, 79, 104⟩ (fun X G => rfl) (fun X G => rfl))
 (bCons (sAsg 9 "_law_words" (eCall p_fewest_words (aCons (eName 6 "_law_heard" ⟨80, 34, 80, 44⟩ (by rfl) (by rfl)) (aCons (eName 8 "_law_due" ⟨80, 46, 80, 54⟩ (by rfl) (by rfl)) (aCons (eName 4 "_law_groups_here" ⟨80, 56, 80, 72⟩ (by rfl) (by rfl)) aNil))) ⟨80, 21, 80, 33⟩ ⟨80, 21, 80, 73⟩ (List.mem_of_getElem? (i := 0) rfl) (by rfl) (by exact List.cons_ne_nil _ _)) ⟨80, 8, 80, 18⟩ ⟨80, 8, 80, 73⟩ (by rfl) (by rfl) (by rfl) (by rfl))
 (bCons (sAsg 10 "_law_ways" (eFrz (nList (aCons (eCall p_fewest_words (aCons (eName 6 "_law_heard" ⟨81, 34, 81, 44⟩ (by rfl) (by rfl)) (aCons (eName 7 "_law_between" ⟨81, 46, 81, 58⟩ (by rfl) (by rfl)) (aCons (eName 4 "_law_groups_here" ⟨81, 60, 81, 76⟩ (by rfl) (by rfl)) aNil))) ⟨81, 21, 81, 33⟩ ⟨81, 21, 81, 77⟩ (List.mem_of_getElem? (i := 0) rfl) (by rfl) (by exact List.cons_ne_nil _ _)) (aCons (eCall p_fewest_words (aCons (eName 7 "_law_between" ⟨81, 92, 81, 104⟩ (by rfl) (by rfl)) (aCons (eName 8 "_law_due" ⟨81, 106, 81, 114⟩ (by rfl) (by rfl)) (aCons (eName 4 "_law_groups_here" ⟨81, 116, 81, 132⟩ (by rfl) (by rfl)) aNil))) ⟨81, 79, 81, 91⟩ ⟨81, 79, 81, 133⟩ (List.mem_of_getElem? (i := 0) rfl) (by rfl) (by exact List.cons_ne_nil _ _)) aNil)) ⟨81, 20, 81, 134⟩)) ⟨81, 8, 81, 17⟩ ⟨81, 8, 81, 134⟩ (by rfl) (by rfl) (by rfl) (by rfl))
 (bCons (sIf (tBool .Or (wOr (tCp cGt (eB1 bLen (eName 9 "_law_words" ⟨82, 15, 82, 25⟩ (by rfl) (by rfl)) ⟨82, 11, 82, 14⟩ ⟨82, 11, 82, 26⟩ (List.mem_of_getElem? (i := 0) rfl) (by rfl)) (eAdd (eB1 bLen (eIdx (eName 10 "_law_ways" ⟨82, 33, 82, 42⟩ (by rfl) (by rfl)) (eInt 0 0 ⟨82, 43, 82, 44⟩) ⟨82, 33, 82, 45⟩) ⟨82, 29, 82, 32⟩ ⟨82, 29, 82, 46⟩ (List.mem_of_getElem? (i := 0) rfl) (by rfl)) (eB1 bLen (eIdx (eName 10 "_law_ways" ⟨82, 53, 82, 62⟩ (by rfl) (by rfl)) (eInt 1 0 ⟨82, 63, 82, 64⟩) ⟨82, 53, 82, 65⟩) ⟨82, 49, 82, 52⟩ ⟨82, 49, 82, 66⟩ (List.mem_of_getElem? (i := 0) rfl) (by rfl)) ⟨82, 29, 82, 66⟩) ⟨82, 11, 82, 66⟩) (w1 .Or (tCp cNe (eCallD p_heard_after (aCons (eName 6 "_law_heard" ⟨82, 82, 82, 92⟩ (by rfl) (by rfl)) (aCons (eName 4 "_law_groups_here" ⟨82, 94, 82, 110⟩ (by rfl) (by rfl)) (aCons (eAdd (eIdx (eName 10 "_law_ways" ⟨82, 112, 82, 121⟩ (by rfl) (by rfl)) (eInt 0 0 ⟨82, 122, 82, 123⟩) ⟨82, 112, 82, 124⟩) (eIdx (eName 10 "_law_ways" ⟨82, 127, 82, 136⟩ (by rfl) (by rfl)) (eInt 1 0 ⟨82, 137, 82, 138⟩) ⟨82, 127, 82, 139⟩) ⟨82, 112, 82, 139⟩) aNil))) ⟨82, 70, 82, 81⟩ ⟨82, 70, 82, 140⟩ (List.mem_of_getElem? (i := 3) rfl) (by rfl) (by exact List.cons_ne_nil _ _)) (eName 8 "_law_due" ⟨82, 144, 82, 152⟩ (by rfl) (by rfl)) ⟨82, 70, 82, 152⟩))) ⟨82, 11, 82, 152⟩)
 (bCons (sRet (eBl false 0 ⟨83, 19, 83, 24⟩) ⟨83, 12, 83, 24⟩)
 bNil)
 bNil ⟨82, 8, 83, 24⟩)
 (bCons (sIf (tCp cNe (eCallD p_heard_after (aCons (eName 7 "_law_between" ⟨84, 23, 84, 35⟩ (by rfl) (by rfl)) (aCons (eName 4 "_law_groups_here" ⟨84, 37, 84, 53⟩ (by rfl) (by rfl)) (aCons (eAdd (eAdd (eName 9 "_law_words" ⟨84, 55, 84, 65⟩ (by rfl) (by rfl)) (eIdx (eName 10 "_law_ways" ⟨84, 68, 84, 77⟩ (by rfl) (by rfl)) (eInt 0 0 ⟨84, 78, 84, 79⟩) ⟨84, 68, 84, 80⟩) ⟨84, 55, 84, 80⟩) (eIdx (eName 10 "_law_ways" ⟨84, 83, 84, 92⟩ (by rfl) (by rfl)) (eInt 1 0 ⟨84, 93, 84, 94⟩) ⟨84, 83, 84, 95⟩) ⟨84, 55, 84, 95⟩) aNil))) ⟨84, 11, 84, 22⟩ ⟨84, 11, 84, 96⟩ (List.mem_of_getElem? (i := 3) rfl) (by rfl) (by exact List.cons_ne_nil _ _)) (eName 8 "_law_due" ⟨84, 100, 84, 108⟩ (by rfl) (by rfl)) ⟨84, 11, 84, 108⟩)
 (bCons (sRet (eBl false 0 ⟨85, 19, 85, 24⟩) ⟨85, 12, 85, 24⟩)
 bNil)
 bNil ⟨84, 8, 85, 24⟩)
 (bCons (sIf (tCp cNe (eCallD p_heard_after (aCons (eName 6 "_law_heard" ⟨86, 23, 86, 33⟩ (by rfl) (by rfl)) (aCons (eName 4 "_law_groups_here" ⟨86, 35, 86, 51⟩ (by rfl) (by rfl)) (aCons (eAdd (eName 9 "_law_words" ⟨86, 53, 86, 63⟩ (by rfl) (by rfl)) (eName 9 "_law_words" ⟨86, 66, 86, 76⟩ (by rfl) (by rfl)) ⟨86, 53, 86, 76⟩) aNil))) ⟨86, 11, 86, 22⟩ ⟨86, 11, 86, 77⟩ (List.mem_of_getElem? (i := 3) rfl) (by rfl) (by exact List.cons_ne_nil _ _)) (eName 8 "_law_due" ⟨86, 81, 86, 89⟩ (by rfl) (by rfl)) ⟨86, 11, 86, 89⟩)
 (bCons (sRet (eBl false 0 ⟨87, 19, 87, 24⟩) ⟨87, 12, 87, 24⟩)
 bNil)
 bNil ⟨86, 8, 87, 24⟩)
 (bCons (sIf (tBool .Or (wOr (tCp cLt (eB1 bLen (eCall p_fewest_words (aCons (eName 6 "_law_heard" ⟨88, 28, 88, 38⟩ (by rfl) (by rfl)) (aCons (eName 8 "_law_due" ⟨88, 40, 88, 48⟩ (by rfl) (by rfl)) (aCons (eCut (eName 4 "_law_groups_here" ⟨88, 50, 88, 66⟩ (by rfl) (by rfl)) (oSome (eInt 1 0 ⟨88, 67, 88, 68⟩)) oNone ⟨88, 67, 88, 69⟩ ⟨88, 50, 88, 70⟩) aNil))) ⟨88, 15, 88, 27⟩ ⟨88, 15, 88, 71⟩ (List.mem_of_getElem? (i := 0) rfl) (by rfl) (by exact List.cons_ne_nil _ _)) ⟨88, 11, 88, 14⟩ ⟨88, 11, 88, 72⟩ (List.mem_of_getElem? (i := 0) rfl) (by rfl)) (eB1 bLen (eName 9 "_law_words" ⟨88, 79, 88, 89⟩ (by rfl) (by rfl)) ⟨88, 75, 88, 78⟩ ⟨88, 75, 88, 90⟩ (List.mem_of_getElem? (i := 0) rfl) (by rfl)) ⟨88, 11, 88, 90⟩) (w1 .Or (tCp cGt (eB1 bLen (eName 9 "_law_words" ⟨88, 98, 88, 108⟩ (by rfl) (by rfl)) ⟨88, 94, 88, 97⟩ ⟨88, 94, 88, 109⟩ (List.mem_of_getElem? (i := 0) rfl) (by rfl)) (eB1 bLen (eName 5 "_law_names" ⟨88, 116, 88, 126⟩ (by rfl) (by rfl)) ⟨88, 112, 88, 115⟩ ⟨88, 112, 88, 127⟩ (List.mem_of_getElem? (i := 0) rfl) (by rfl)) ⟨88, 94, 88, 127⟩))) ⟨88, 11, 88, 127⟩)
 (bCons (sRet (eBl false 0 ⟨89, 19, 89, 24⟩) ⟨89, 12, 89, 24⟩)
 bNil)
 bNil ⟨88, 8, 89, 24⟩)
 (bCons (sAsgM 11 "_law_last" (mEmpty ⟨90, 20, 90, 22⟩) ⟨90, 8, 90, 17⟩ ⟨90, 8, 90, 22⟩ (by rfl) (by rfl) (by rfl) (by rfl))
 (bCons (sFor (gTp (gsCons (gNm 12 "_law_at" ⟨91, 12, 91, 19⟩ (by rfl) (by rfl) (by rfl)) (gsCons (gNm 13 "_law_word" ⟨91, 21, 91, 30⟩ (by rfl) (by rfl) (by rfl)) gsNil)) 0 ⟨91, 12, 91, 30⟩) (iEn (eName 9 "_law_words" ⟨91, 44, 91, 54⟩ (by rfl) (by rfl)) ⟨91, 34, 91, 43⟩ ⟨91, 34, 91, 55⟩ (by rfl))
 (bCons (sExpr (oUpdate 11 "_law_last" (mDict (eFrz (nLc (iV (eCall p__law_told_by (aCons (eName 5 "_law_names" ⟨92, 86, 92, 96⟩ (by rfl) (by rfl)) (aCons (eName 4 "_law_groups_here" ⟨92, 98, 92, 114⟩ (by rfl) (by rfl)) (aCons (eName 13 "_law_word" ⟨92, 116, 92, 125⟩ (by rfl) (by rfl)) aNil))) ⟨92, 73, 92, 85⟩ ⟨92, 73, 92, 126⟩ (List.mem_of_getElem? (i := 2) rfl) (by rfl) (by exact List.cons_ne_nil _ _))) (mkS [(".0", .local), ("_law_name", .local), ("_law_at", .free)] []) [("_law_name", 17)] (gNm 17 "_law_name" ⟨92, 60, 92, 69⟩ (by rfl) (by rfl) (by rfl)) tsNil (eTup (aCons (eName 17 "_law_name" ⟨92, 36, 92, 45⟩ (by rfl) (by rfl)) (aCons (eName 12 "_law_at" ⟨92, 47, 92, 54⟩ (by rfl) (by rfl)) aNil)) 0 ⟨92, 35, 92, 55⟩) ⟨92, 34, 92, 127⟩ (by first | exact trivial | exact ⟨_, _, _, rfl⟩) (by rfl) (by rfl))) ⟨92, 29, 92, 33⟩ ⟨92, 29, 92, 128⟩ (by rfl)) ⟨92, 12, 92, 21⟩ ⟨92, 12, 92, 28⟩ ⟨92, 12, 92, 129⟩ (by rfl) (by rfl) (by rfl)) ⟨92, 12, 92, 129⟩ (by rfl))
 bNil) ⟨91, 8, 92, 129⟩ (by first | exact trivial | exact ⟨_, _, _, rfl⟩))
 (bCons (sIf (tCp cNe (eFrz (nSortU (eFrz (nLc (iKeysO 11 "_law_last" ⟨93, 61, 93, 70⟩ (by rfl) (by rfl)) (mkS [(".0", .local), ("_law_name", .local), ("_law_last", .free)] []) [("_law_name", 17)] (gNm 17 "_law_name" ⟨93, 48, 93, 57⟩ (by rfl) (by rfl) (by rfl)) tsNil (eIdx (eName 11 "_law_last" ⟨93, 23, 93, 32⟩ (by rfl) (by rfl)) (eName 17 "_law_name" ⟨93, 33, 93, 42⟩ (by rfl) (by rfl)) ⟨93, 23, 93, 43⟩) ⟨93, 22, 93, 71⟩ (by first | exact trivial | exact ⟨_, _, _, rfl⟩) (by rfl) (by rfl))) ⟨93, 11, 93, 17⟩ ⟨93, 18, 93, 21⟩ ⟨93, 18, 93, 72⟩ ⟨93, 11, 93, 73⟩ (by rfl) (by rfl))) (eFrz (nListRange (eB1 bLen (eName 9 "_law_words" ⟨93, 92, 93, 102⟩ (by rfl) (by rfl)) ⟨93, 88, 93, 91⟩ ⟨93, 88, 93, 103⟩ (List.mem_of_getElem? (i := 0) rfl) (by rfl)) ⟨93, 77, 93, 81⟩ ⟨93, 82, 93, 87⟩ ⟨93, 82, 93, 104⟩ ⟨93, 77, 93, 105⟩ (by rfl) (by rfl))) ⟨93, 11, 93, 105⟩)
 (bCons (sRet (eBl false 0 ⟨94, 19, 94, 24⟩) ⟨94, 12, 94, 24⟩)
 bNil)
 bNil ⟨93, 8, 94, 24⟩)
 (bCons (sAsg 14 "_law_new" (eFrzM (mDictZip (eName 5 "_law_names" ⟨95, 28, 95, 38⟩ (by rfl) (by rfl)) (eFrz (nList (aCons (eStr "a" 0 ⟨95, 41, 95, 44⟩) (aCons (eStr "az" 0 ⟨95, 46, 95, 50⟩) (aCons (eStr "b" 0 ⟨95, 52, 95, 55⟩) (aCons (eStr "bzzzzzzz" 0 ⟨95, 57, 95, 67⟩) (aCons (eStr "c" 0 ⟨95, 69, 95, 72⟩) aNil))))) ⟨95, 40, 95, 73⟩)) ⟨95, 19, 95, 23⟩ ⟨95, 24, 95, 27⟩ ⟨95, 24, 95, 74⟩ ⟨95, 19, 95, 75⟩ (by rfl) (by rfl))) ⟨95, 8, 95, 16⟩ ⟨95, 8, 95, 75⟩ (by rfl) (by rfl) (by rfl) (by rfl))
 (bCons (sAsg 15 "_law_others" (eB1 bTuple (eFrz (nLc (iV (eName 4 "_law_groups_here" ⟨96, 128, 96, 144⟩ (by rfl) (by rfl))) (mkS [(".0", .local), ("_law_group", .local), ("_law_some", .local), ("tuple", .globalImplicit), ("_law_new", .free)] []) [("_law_group", 19), ("_law_some", 20)] (gTp (gsCons (gNm 19 "_law_group" ⟨96, 103, 96, 113⟩ (by rfl) (by rfl) (by rfl)) (gsCons (gNm 20 "_law_some" ⟨96, 115, 96, 124⟩ (by rfl) (by rfl) (by rfl)) gsNil)) 0 ⟨96, 103, 96, 124⟩) tsNil (eTup (aCons (eName 19 "_law_group" ⟨96, 30, 96, 40⟩ (by rfl) (by rfl)) (aCons (eB1 bTuple (eFrz (nLc (iV (eName 20 "_law_some" ⟨96, 86, 96, 95⟩ (by rfl) (by rfl))) (mkS [(".0", .local), ("_law_name", .local), ("_law_new", .free)] []) [("_law_name", 17)] (gNm 17 "_law_name" ⟨96, 73, 96, 82⟩ (by rfl) (by rfl) (by rfl)) tsNil (eIdx (eName 14 "_law_new" ⟨96, 49, 96, 57⟩ (by rfl) (by rfl)) (eName 17 "_law_name" ⟨96, 58, 96, 67⟩ (by rfl) (by rfl)) ⟨96, 49, 96, 68⟩) ⟨96, 48, 96, 96⟩ (by first | exact trivial | exact ⟨_, _, _, rfl⟩) (by rfl) (by rfl))) ⟨96, 42, 96, 47⟩ ⟨96, 42, 96, 97⟩ (List.mem_of_getElem? (i := 4) rfl) (by rfl)) aNil)) 0 ⟨96, 29, 96, 98⟩) ⟨96, 28, 96, 145⟩ (by first | exact trivial | exact ⟨_, _, _, rfl⟩) (by rfl) (by rfl))) ⟨96, 22, 96, 27⟩ ⟨96, 22, 96, 146⟩ (List.mem_of_getElem? (i := 4) rfl) (by rfl)) ⟨96, 8, 96, 19⟩ ⟨96, 8, 96, 146⟩ (by rfl) (by rfl) (by rfl) (by rfl))
 (bCons (sIf (tCp cNe (eB1 bLen (eCall p_fewest_words (aCons (eCall p__law_named (aCons (eName 6 "_law_heard" ⟨97, 39, 97, 49⟩ (by rfl) (by rfl)) (aCons (eName 14 "_law_new" ⟨97, 51, 97, 59⟩ (by rfl) (by rfl)) aNil)) ⟨97, 28, 97, 38⟩ ⟨97, 28, 97, 60⟩ (List.mem_of_getElem? (i := 1) rfl) (by rfl) (by exact List.cons_ne_nil _ _)) (aCons (eCall p__law_named (aCons (eName 8 "_law_due" ⟨97, 73, 97, 81⟩ (by rfl) (by rfl)) (aCons (eName 14 "_law_new" ⟨97, 83, 97, 91⟩ (by rfl) (by rfl)) aNil)) ⟨97, 62, 97, 72⟩ ⟨97, 62, 97, 92⟩ (List.mem_of_getElem? (i := 1) rfl) (by rfl) (by exact List.cons_ne_nil _ _)) (aCons (eName 15 "_law_others" ⟨97, 94, 97, 105⟩ (by rfl) (by rfl)) aNil))) ⟨97, 15, 97, 27⟩ ⟨97, 15, 97, 106⟩ (List.mem_of_getElem? (i := 0) rfl) (by rfl) (by exact List.cons_ne_nil _ _)) ⟨97, 11, 97, 14⟩ ⟨97, 11, 97, 107⟩ (List.mem_of_getElem? (i := 0) rfl) (by rfl)) (eB1 bLen (eName 9 "_law_words" ⟨97, 115, 97, 125⟩ (by rfl) (by rfl)) ⟨97, 111, 97, 114⟩ ⟨97, 111, 97, 126⟩ (List.mem_of_getElem? (i := 0) rfl) (by rfl)) ⟨97, 11, 97, 126⟩)
 (bCons (sRet (eBl false 0 ⟨98, 19, 98, 24⟩) ⟨98, 12, 98, 24⟩)
 bNil)
 bNil ⟨97, 8, 98, 24⟩)
 (bCons (sIf (tCp cLt (eB1 bLen (eCall p_fewest_words (aCons (eName 6 "_law_heard" ⟨99, 28, 99, 38⟩ (by rfl) (by rfl)) (aCons (eName 8 "_law_due" ⟨99, 40, 99, 48⟩ (by rfl) (by rfl)) (aCons (eTup aNil 0 ⟨99, 50, 99, 52⟩) aNil))) ⟨99, 15, 99, 27⟩ ⟨99, 15, 99, 53⟩ (List.mem_of_getElem? (i := 0) rfl) (by rfl) (by exact List.cons_ne_nil _ _)) ⟨99, 11, 99, 14⟩ ⟨99, 11, 99, 54⟩ (List.mem_of_getElem? (i := 0) rfl) (by rfl)) (eB1 bLen (eName 9 "_law_words" ⟨99, 61, 99, 71⟩ (by rfl) (by rfl)) ⟨99, 57, 99, 60⟩ ⟨99, 57, 99, 72⟩ (List.mem_of_getElem? (i := 0) rfl) (by rfl)) ⟨99, 11, 99, 72⟩)
 (bCons (sRet (eBl false 0 ⟨100, 19, 100, 24⟩) ⟨100, 12, 100, 24⟩)
 bNil)
 bNil ⟨99, 8, 100, 24⟩)
 bNil)))))))))))))))) ⟨76, 4, 100, 24⟩ (by first | exact trivial | exact ⟨_, _, _, rfl⟩))
 (bCons (sRet (eBl true 0 ⟨101, 11, 101, 15⟩) ⟨101, 4, 101, 15⟩)
 bNil)))
def p_law : Prom := promB "law" ["_law_script"] b_law
def m_law : En → Option Fl := (semSeq (semAsgN 1 (semLst (semCons (semFrz (semN1 dItemsS (rd 0))) (semCons (cst (.int 0)) (semCons (cst (.int 0)) semNil)))))
 (semSeq (semFor (semR1 (cst (.int 4))) (semG 2)
 (semSeq (semAsg 3 (semCall p__law_lamps (semLend 1 (semCons (cst (.int 5)) semNil))))
 (semSeq (semAsgG (semGTup 2 (semGCons (semG 4) (semGCons (semG 5) semGNil))) (semTup (semCons (semCall p__law_groups (semLend 1 (semCons (rd 3) semNil))) (semCons (semFrz (semLc (semV (rd 3)) (semGTup 2 (semGCons (semG 17) (semGCons (semG 18) semGNil))) semYes (rd 17) [17, 18])) semNil))))
 (semSeq (semAsgG (semGLst 3 (semGCons (semG 6) (semGCons (semG 7) (semGCons (semG 8) semGNil)))) (semFrz (semLc (semR1 (cst (.int 3))) (semG 16) semYes (semCall p__law_levels (semLend 1 (semCons (rd 5) semNil))) [16])))
 (semSeq (semAsg 9 (semCall p_fewest_words (semCons (rd 6) (semCons (rd 8) (semCons (rd 4) semNil)))))
 (semSeq (semAsg 10 (semFrz (semLst (semCons (semCall p_fewest_words (semCons (rd 6) (semCons (rd 7) (semCons (rd 4) semNil)))) (semCons (semCall p_fewest_words (semCons (rd 7) (semCons (rd 8) (semCons (rd 4) semNil)))) semNil)))))
 (semSeq (semIfS (semOr (semT (semBin fGt (semUn dLen (rd 9)) (semBin fAdd (semUn dLen (semBin dIdx (rd 10) (cst (.int 0)))) (semUn dLen (semBin dIdx (rd 10) (cst (.int 1))))))) (semT (semBin fNe (semCall p_heard_after (semApd (semCons (rd 6) (semCons (rd 4) (semCons (semBin fAdd (semBin dIdx (rd 10) (cst (.int 0))) (semBin dIdx (rd 10) (cst (.int 1)))) semNil))) (cst (.tuple [])))) (rd 8))))
 (semSeq (semRet (cst (.bool false)))
 semNext)
 semNext)
 (semSeq (semIfS (semT (semBin fNe (semCall p_heard_after (semApd (semCons (rd 7) (semCons (rd 4) (semCons (semBin fAdd (semBin fAdd (rd 9) (semBin dIdx (rd 10) (cst (.int 0)))) (semBin dIdx (rd 10) (cst (.int 1)))) semNil))) (cst (.tuple [])))) (rd 8)))
 (semSeq (semRet (cst (.bool false)))
 semNext)
 semNext)
 (semSeq (semIfS (semT (semBin fNe (semCall p_heard_after (semApd (semCons (rd 6) (semCons (rd 4) (semCons (semBin fAdd (rd 9) (rd 9)) semNil))) (cst (.tuple [])))) (rd 8)))
 (semSeq (semRet (cst (.bool false)))
 semNext)
 semNext)
 (semSeq (semIfS (semOr (semT (semBin fLt (semUn dLen (semCall p_fewest_words (semCons (rd 6) (semCons (rd 8) (semCons (semCut (rd 4) (semOSome (cst (.int 1))) semONone) semNil))))) (semUn dLen (rd 9)))) (semT (semBin fGt (semUn dLen (rd 9)) (semUn dLen (rd 5)))))
 (semSeq (semRet (cst (.bool false)))
 semNext)
 semNext)
 (semSeq (semAsgM 11 semEmptyD)
 (semSeq (semFor (semEnum (rd 9)) (semGTup 2 (semGCons (semG 12) (semGCons (semG 13) semGNil)))
 (semSeq (semDrop (semUpd 11 (semUn dDict (semFrz (semLc (semV (semCall p__law_told_by (semCons (rd 5) (semCons (rd 4) (semCons (rd 13) semNil))))) (semG 17) semYes (semTup (semCons (rd 17) (semCons (rd 12) semNil))) [17])))))
 semNext))
 (semSeq (semIfS (semT (semBin fNe (semFrz (semSortU (semFrz (semLc (semKeysO 11) (semG 17) semYes (semBin dIdx (rd 11) (rd 17)) [17])))) (semFrz (semListRg (semUn dLen (rd 9))))))
 (semSeq (semRet (cst (.bool false)))
 semNext)
 semNext)
 (semSeq (semAsg 14 (semDZ (rd 5) (semFrz (semLst (semCons (cst (.str "a")) (semCons (cst (.str "az")) (semCons (cst (.str "b")) (semCons (cst (.str "bzzzzzzz")) (semCons (cst (.str "c")) semNil)))))))))
 (semSeq (semAsg 15 (semUn dTuple (semFrz (semLc (semV (rd 4)) (semGTup 2 (semGCons (semG 19) (semGCons (semG 20) semGNil))) semYes (semTup (semCons (rd 19) (semCons (semUn dTuple (semFrz (semLc (semV (rd 20)) (semG 17) semYes (semBin dIdx (rd 14) (rd 17)) [17]))) semNil))) [19, 20]))))
 (semSeq (semIfS (semT (semBin fNe (semUn dLen (semCall p_fewest_words (semCons (semCall p__law_named (semCons (rd 6) (semCons (rd 14) semNil))) (semCons (semCall p__law_named (semCons (rd 8) (semCons (rd 14) semNil))) (semCons (rd 15) semNil))))) (semUn dLen (rd 9))))
 (semSeq (semRet (cst (.bool false)))
 semNext)
 semNext)
 (semSeq (semIfS (semT (semBin fLt (semUn dLen (semCall p_fewest_words (semCons (rd 6) (semCons (rd 8) (semCons (semTup semNil) semNil))))) (semUn dLen (rd 9))))
 (semSeq (semRet (cst (.bool false)))
 semNext)
 semNext)
 semNext)))))))))))))))))
 (semSeq (semRet (cst (.bool true)))
 semNext)))
theorem sem_law : (b_law).sem = m_law := by rfl
theorem run_law : p_law.sem = runD [] 21 m_law := by show runD _ _ _ = _; rw [sem_law]; rfl
theorem nps_law : (p_law).ps.length = 1 := rfl
theorem sc_law : FnScope ["_law_script", "_law_tape", "_law_turn", "_law_lamps_here", "_law_groups_here", "_law_names", "_law_heard", "_law_between", "_law_due", "_law_words", "_law_ways", "_law_last", "_law_at", "_law_word", "_law_new", "_law_others", "_law_k", "_law_name", "_law_power", "_law_group", "_law_some"] ["_law_script"] (defScope s_law) := ⟨rfl, rfl, rfl, by decide +kernel, rfl, by decide +kernel, by decide +kernel⟩
theorem syn_law : (b_law).syn = defBody s_law := by rfl

def evK := And.intro (And.intro (And.intro (@nps_names_of) (And.intro (@nps_members) (@nps_heard_after))) (And.intro (And.intro (@nps_told_to) (@nps_steps)) (And.intro (@nps_is_done) (@nps_fewest_words)))) (And.intro (And.intro (@nps__law_draw) (And.intro (@nps__law_lamps) (@nps__law_groups))) (And.intro (And.intro (@nps__law_told_by) (@nps__law_levels)) (And.intro (@nps__law_named) (@nps_law))))

abbrev csAll : List (Str × D) := []
theorem all_mk {l : PySem.W.OpenLaw} {w : World} {K : PySem.W.Frag} {h : Heap} {mg : Str → Option Value} {fa : Addr} (X : K.In h) (G : h.Ns mainGlobals mg) (hfa : mg "law" = some (.ref fa))
    {od1 an1 : Option Addr} {sl1 : Array (Option Value)} {oc1 kV1 dc1 pm1 cd1 ct1 : Value} {f1 : Addr}
    {od2 an2 : Option Addr} {sl2 : Array (Option Value)} {oc2 kV2 dc2 pm2 cd2 ct2 : Value} {f2 : Addr}
    {od3 an3 : Option Addr} {sl3 : Array (Option Value)} {oc3 dc3 pm3 cd3 ct3 : Value} {f3 kD3 kT3 kN3 : Addr} {ks3 : Array (Option Value)}
    {od4 an4 : Option Addr} {sl4 : Array (Option Value)} {oc4 kV4 dc4 pm4 cd4 ct4 : Value} {f4 : Addr}
    {od5 an5 : Option Addr} {sl5 : Array (Option Value)} {oc5 kV5 dc5 pm5 cd5 ct5 : Value} {f5 : Addr}
    {od6 an6 : Option Addr} {sl6 : Array (Option Value)} {oc6 kV6 dc6 pm6 cd6 ct6 : Value} {f6 : Addr}
    {od7 an7 : Option Addr} {sl7 : Array (Option Value)} {oc7 kV7 dc7 pm7 cd7 ct7 : Value} {f7 : Addr}
    {od8 an8 : Option Addr} {sl8 : Array (Option Value)} {oc8 kV8 dc8 pm8 cd8 ct8 : Value} {f8 : Addr}
    {od9 an9 : Option Addr} {sl9 : Array (Option Value)} {oc9 kV9 dc9 pm9 cd9 ct9 : Value} {f9 : Addr}
    {od10 an10 : Option Addr} {sl10 : Array (Option Value)} {oc10 kV10 dc10 pm10 cd10 ct10 : Value} {f10 : Addr}
    {od11 an11 : Option Addr} {sl11 : Array (Option Value)} {oc11 kV11 dc11 pm11 cd11 ct11 : Value} {f11 : Addr}
    {od12 an12 : Option Addr} {sl12 : Array (Option Value)} {oc12 kV12 dc12 pm12 cd12 ct12 : Value} {f12 : Addr}
    {od13 an13 : Option Addr} {sl13 : Array (Option Value)} {oc13 kV13 dc13 pm13 cd13 ct13 : Value} {f13 : Addr}
    {od14 an14 : Option Addr} {sl14 : Array (Option Value)} {oc14 kV14 dc14 pm14 cd14 ct14 : Value} {f14 : Addr}
    (a1 : PySem.W.nsIn K mainGlobals "names_of" = some (some (.ref f1))) (l1 : K.lookup f1 = some ⟨oc1, od1, .func (PySem.W.fnOf "names_of" "names_of" (defArgs s_names_of) (defBody s_names_of) (defScope s_names_of) .none kV1 dc1 pm1 an1 cd1 ct1), sl1⟩) (c1 : PySem.W.codeIn K cd1 "names_of" = true) (k1 : PySem.W.keepIn K (.ref f1) = true)
    (a2 : PySem.W.nsIn K mainGlobals "members" = some (some (.ref f2))) (l2 : K.lookup f2 = some ⟨oc2, od2, .func (PySem.W.fnOf "members" "members" (defArgs s_members) (defBody s_members) (defScope s_members) .none kV2 dc2 pm2 an2 cd2 ct2), sl2⟩) (c2 : PySem.W.codeIn K cd2 "members" = true) (k2 : PySem.W.keepIn K (.ref f2) = true)
    (a3 : PySem.W.nsIn K mainGlobals "heard_after" = some (some (.ref f3))) (l3 : K.lookup f3 = some ⟨oc3, od3, .func (PySem.W.fnOf "heard_after" "heard_after" (defArgs s_heard_after) (defBody s_heard_after) (defScope s_heard_after) .none (.ref kD3) dc3 pm3 an3 cd3 ct3), sl3⟩) (c3 : PySem.W.codeIn K cd3 "heard_after" = true) (k3 : PySem.W.keepIn K (.ref f3) = true) (kn3 : PySem.W.nsIn K kD3 "losses" = some (some (.ref kT3))) (kl3 : K.lookup kT3 = some ⟨.type "tuple", none, .seq #[] kN3, ks3⟩)
    (a4 : PySem.W.nsIn K mainGlobals "told_to" = some (some (.ref f4))) (l4 : K.lookup f4 = some ⟨oc4, od4, .func (PySem.W.fnOf "told_to" "told_to" (defArgs s_told_to) (defBody s_told_to) (defScope s_told_to) .none kV4 dc4 pm4 an4 cd4 ct4), sl4⟩) (c4 : PySem.W.codeIn K cd4 "told_to" = true) (k4 : PySem.W.keepIn K (.ref f4) = true)
    (a5 : PySem.W.nsIn K mainGlobals "steps" = some (some (.ref f5))) (l5 : K.lookup f5 = some ⟨oc5, od5, .func (PySem.W.fnOf "steps" "steps" (defArgs s_steps) (defBody s_steps) (defScope s_steps) .none kV5 dc5 pm5 an5 cd5 ct5), sl5⟩) (c5 : PySem.W.codeIn K cd5 "steps" = true) (k5 : PySem.W.keepIn K (.ref f5) = true)
    (a6 : PySem.W.nsIn K mainGlobals "is_done" = some (some (.ref f6))) (l6 : K.lookup f6 = some ⟨oc6, od6, .func (PySem.W.fnOf "is_done" "is_done" (defArgs s_is_done) (defBody s_is_done) (defScope s_is_done) .none kV6 dc6 pm6 an6 cd6 ct6), sl6⟩) (c6 : PySem.W.codeIn K cd6 "is_done" = true) (k6 : PySem.W.keepIn K (.ref f6) = true)
    (a7 : PySem.W.nsIn K mainGlobals "fewest_words" = some (some (.ref f7))) (l7 : K.lookup f7 = some ⟨oc7, od7, .func (PySem.W.fnOf "fewest_words" "fewest_words" (defArgs s_fewest_words) (defBody s_fewest_words) (defScope s_fewest_words) .none kV7 dc7 pm7 an7 cd7 ct7), sl7⟩) (c7 : PySem.W.codeIn K cd7 "fewest_words" = true) (k7 : PySem.W.keepIn K (.ref f7) = true)
    (a8 : PySem.W.nsIn K mainGlobals "_law_draw" = some (some (.ref f8))) (l8 : K.lookup f8 = some ⟨oc8, od8, .func (PySem.W.fnOf "_law_draw" "_law_draw" (defArgs s__law_draw) (defBody s__law_draw) (defScope s__law_draw) .none kV8 dc8 pm8 an8 cd8 ct8), sl8⟩) (c8 : PySem.W.codeIn K cd8 "_law_draw" = true) (k8 : PySem.W.keepIn K (.ref f8) = true)
    (a9 : PySem.W.nsIn K mainGlobals "_law_lamps" = some (some (.ref f9))) (l9 : K.lookup f9 = some ⟨oc9, od9, .func (PySem.W.fnOf "_law_lamps" "_law_lamps" (defArgs s__law_lamps) (defBody s__law_lamps) (defScope s__law_lamps) .none kV9 dc9 pm9 an9 cd9 ct9), sl9⟩) (c9 : PySem.W.codeIn K cd9 "_law_lamps" = true) (k9 : PySem.W.keepIn K (.ref f9) = true)
    (a10 : PySem.W.nsIn K mainGlobals "_law_groups" = some (some (.ref f10))) (l10 : K.lookup f10 = some ⟨oc10, od10, .func (PySem.W.fnOf "_law_groups" "_law_groups" (defArgs s__law_groups) (defBody s__law_groups) (defScope s__law_groups) .none kV10 dc10 pm10 an10 cd10 ct10), sl10⟩) (c10 : PySem.W.codeIn K cd10 "_law_groups" = true) (k10 : PySem.W.keepIn K (.ref f10) = true)
    (a11 : PySem.W.nsIn K mainGlobals "_law_told_by" = some (some (.ref f11))) (l11 : K.lookup f11 = some ⟨oc11, od11, .func (PySem.W.fnOf "_law_told_by" "_law_told_by" (defArgs s__law_told_by) (defBody s__law_told_by) (defScope s__law_told_by) .none kV11 dc11 pm11 an11 cd11 ct11), sl11⟩) (c11 : PySem.W.codeIn K cd11 "_law_told_by" = true) (k11 : PySem.W.keepIn K (.ref f11) = true)
    (a12 : PySem.W.nsIn K mainGlobals "_law_levels" = some (some (.ref f12))) (l12 : K.lookup f12 = some ⟨oc12, od12, .func (PySem.W.fnOf "_law_levels" "_law_levels" (defArgs s__law_levels) (defBody s__law_levels) (defScope s__law_levels) .none kV12 dc12 pm12 an12 cd12 ct12), sl12⟩) (c12 : PySem.W.codeIn K cd12 "_law_levels" = true) (k12 : PySem.W.keepIn K (.ref f12) = true)
    (a13 : PySem.W.nsIn K mainGlobals "_law_named" = some (some (.ref f13))) (l13 : K.lookup f13 = some ⟨oc13, od13, .func (PySem.W.fnOf "_law_named" "_law_named" (defArgs s__law_named) (defBody s__law_named) (defScope s__law_named) .none kV13 dc13 pm13 an13 cd13 ct13), sl13⟩) (c13 : PySem.W.codeIn K cd13 "_law_named" = true) (k13 : PySem.W.keepIn K (.ref f13) = true)
    (a14 : PySem.W.nsIn K mainGlobals "law" = some (some (.ref f14))) (l14 : K.lookup f14 = some ⟨oc14, od14, .func (PySem.W.fnOf "law" "law" (defArgs s_law) (defBody s_law) (defScope s_law) .none kV14 dc14 pm14 an14 cd14 ct14), sl14⟩) (c14 : PySem.W.codeIn K cd14 "law" = true) (k14 : PySem.W.keepIn K (.ref f14) = true)
   
    (z0 : PySem.W.nsIn K mainGlobals "len" = some none) (z1 : PySem.W.nsIn K mainGlobals "isinstance" = some none) (z2 : PySem.W.nsIn K mainGlobals "all" = some none) (z3 : PySem.W.nsIn K mainGlobals "any" = some none) (z4 : PySem.W.nsIn K mainGlobals "tuple" = some none) (z5 : PySem.W.nsIn K mainGlobals "list" = some none) (z6 : PySem.W.nsIn K mainGlobals "dict" = some none) (z7 : PySem.W.nsIn K mainGlobals "set" = some none) (z8 : PySem.W.nsIn K mainGlobals "zip" = some none) (z9 : PySem.W.nsIn K mainGlobals "enumerate" = some none) (z10 : PySem.W.nsIn K mainGlobals "range" = some none) (z11 : PySem.W.nsIn K mainGlobals "sorted" = some none) (z12 : PySem.W.nsIn K mainGlobals "max" = some none) (z13 : PySem.W.nsIn K mainGlobals "min" = some none) (z14 : PySem.W.nsIn K mainGlobals "sum" = some none) (z15 : PySem.W.nsIn K mainGlobals "str" = some none) (z16 : PySem.W.nsIn K mainGlobals "int" = some none) (z17 : PySem.W.nsIn K mainGlobals "bool" = some none) :
    ∃ fd : FuncData, (∀ (s : Shared) (v : Value), BindsTo s fd ⟨[v], []⟩ [("_law_script", v)]) ∧ ∀ base : Heap, K.In base → base.Ns mainGlobals mg → FnOk l.prog w K mg base CX0 4 fa fd ["_law_script"] (spLaw K p_law) := by
  have e := hfa.symm.trans (PySem.W.mg_of X G a14)
  cases e
  have F1 := fun_mk (st := s_names_of) l1 c1 k1
  have b1 := F1.binds (ps := ["lamps"]) fun _ _ _ _ _ _ us hl => match us, hl with | [_], _ => rfl
  have F2 := fun_mk (st := s_members) l2 c2 k2
  have b2 := F2.binds (ps := ["names", "groups", "word"]) fun _ _ _ _ _ _ us hl => match us, hl with | [_, _, _], _ => rfl
  have F3 := fun_mk (st := s_heard_after) l3 c3 k3
  have b3 := kwd_binds (st := s_heard_after) (ps := ["heard", "groups", "words", "losses"]) (qs := ["heard", "groups", "words"]) l3 c3 k3 kn3 kl3 rfl (fun _ _ _ _ _ us ks hl h2 => match us, hl, ks, h2 with | [_, _, _], _, [_], _ => ⟨_, _, _, _, _, _, rfl, rfl, rfl⟩) (fun us ws hl h2 => match us, hl, ws, h2 with | [_, _, _], _, [_], _ => .of_eq rfl)
  have F4 := fun_mk (st := s_told_to) l4 c4 k4
  have b4 := F4.binds (ps := ["names", "groups"]) fun _ _ _ _ _ _ us hl => match us, hl with | [_, _], _ => rfl
  have F5 := fun_mk (st := s_steps) l5 c5 k5
  have b5 := F5.binds (ps := ["due", "groups", "lot"]) fun _ _ _ _ _ _ us hl => match us, hl with | [_, _, _], _ => rfl
  have F6 := fun_mk (st := s_is_done) l6 c6 k6
  have b6 := F6.binds (ps := ["heard", "due", "lot"]) fun _ _ _ _ _ _ us hl => match us, hl with | [_, _, _], _ => rfl
  have F7 := fun_mk (st := s_fewest_words) l7 c7 k7
  have b7 := F7.binds (ps := ["heard", "due", "groups"]) fun _ _ _ _ _ _ us hl => match us, hl with | [_, _, _], _ => rfl
  have F8 := fun_mk (st := s__law_draw) l8 c8 k8
  have b8 := F8.binds (ps := ["_law_tape", "_law_many"]) fun _ _ _ _ _ _ us hl => match us, hl with | [_, _], _ => rfl
  have F9 := fun_mk (st := s__law_lamps) l9 c9 k9
  have b9 := F9.binds (ps := ["_law_tape", "_law_most"]) fun _ _ _ _ _ _ us hl => match us, hl with | [_, _], _ => rfl
  have F10 := fun_mk (st := s__law_groups) l10 c10 k10
  have b10 := F10.binds (ps := ["_law_tape", "_law_lamps_here"]) fun _ _ _ _ _ _ us hl => match us, hl with | [_, _], _ => rfl
  have F11 := fun_mk (st := s__law_told_by) l11 c11 k11
  have b11 := F11.binds (ps := ["_law_names", "_law_groups_here", "_law_word"]) fun _ _ _ _ _ _ us hl => match us, hl with | [_, _, _], _ => rfl
  have F12 := fun_mk (st := s__law_levels) l12 c12 k12
  have b12 := F12.binds (ps := ["_law_tape", "_law_names"]) fun _ _ _ _ _ _ us hl => match us, hl with | [_, _], _ => rfl
  have F13 := fun_mk (st := s__law_named) l13 c13 k13
  have b13 := F13.binds (ps := ["_law_rows", "_law_names"]) fun _ _ _ _ _ _ us hl => match us, hl with | [_, _], _ => rfl
  have F14 := fun_mk (st := s_law) l14 c14 k14
  refine ⟨PySem.W.fnOf "law" "law" (defArgs s_law) (defBody s_law) (defScope s_law) .none kV14 dc14 pm14 an14 cd14 ct14, fun s v => .of_eq rfl, fun base _ _ => ?_⟩
  have gb : ∀ x ∈ bltNames, mg x = none := by
    intro x hx
    simp only [bltNames, List.mem_cons, List.not_mem_nil, or_false] at hx
    rcases hx with rfl | rfl | rfl | rfl | rfl | rfl | rfl | rfl | rfl | rfl | rfl | rfl | rfl | rfl | rfl | rfl | rfl | rfl
    · exact PySem.W.mg_none_of X G z0
    · exact PySem.W.mg_none_of X G z1
    · exact PySem.W.mg_none_of X G z2
    · exact PySem.W.mg_none_of X G z3
    · exact PySem.W.mg_none_of X G z4
    · exact PySem.W.mg_none_of X G z5
    · exact PySem.W.mg_none_of X G z6
    · exact PySem.W.mg_none_of X G z7
    · exact PySem.W.mg_none_of X G z8
    · exact PySem.W.mg_none_of X G z9
    · exact PySem.W.mg_none_of X G z10
    · exact PySem.W.mg_none_of X G z11
    · exact PySem.W.mg_none_of X G z12
    · exact PySem.W.mg_none_of X G z13
    · exact PySem.W.mg_none_of X G z14
    · exact PySem.W.mg_none_of X G z15
    · exact PySem.W.mg_none_of X G z16
    · exact PySem.W.mg_none_of X G z17
  have gc : ∀ q ∈ csAll, CnOk K w mg q := by
    intro q hq
    cases hq
  have S1 : Glb K w mg (nm_names_of).cs := ⟨fun q hq => (List.not_mem_nil hq).elim, gb⟩
  have A1 : At l.prog w K mg base 1 p_names_of := def_at (k := 0) b_names_of F1 sc_names_of syn_names_of rfl rfl (PySem.W.mg_of X G a1) b1 (fun p hp => (List.not_mem_nil hp).elim) S1
  have S2 : Glb K w mg (nm_members).cs := ⟨fun q hq => (List.not_mem_nil hq).elim, gb⟩
  have A2 : At l.prog w K mg base 1 p_members := def_at (k := 0) b_members F2 sc_members syn_members rfl rfl (PySem.W.mg_of X G a2) b2 (fun p hp => (List.not_mem_nil hp).elim) S2
  have S3 : Glb K w mg (nm_heard_after).cs := ⟨fun q hq => (List.not_mem_nil hq).elim, gb⟩
  have A3 : At l.prog w K mg base 2 p_heard_after := def_atK (k := 1) b_heard_after F3 sc_heard_after syn_heard_after rfl rfl (PySem.W.mg_of X G a3) rfl b3.1 b3.2 (fun p hp => by
      simp only [List.mem_cons, List.not_mem_nil, or_false] at hp
      rcases hp with rfl | rfl
      · exact A1.mono (by decide)
      · exact A2.mono (by decide)
      ) S3
  have S4 : Glb K w mg (nm_told_to).cs := ⟨fun q hq => (List.not_mem_nil hq).elim, gb⟩
  have A4 : At l.prog w K mg base 1 p_told_to := def_at (k := 0) b_told_to F4 sc_told_to syn_told_to rfl rfl (PySem.W.mg_of X G a4) b4 (fun p hp => (List.not_mem_nil hp).elim) S4
  have S5 : Glb K w mg (nm_steps).cs := ⟨fun q hq => (List.not_mem_nil hq).elim, gb⟩
  have A5 : At l.prog w K mg base 2 p_steps := def_at (k := 1) b_steps F5 sc_steps syn_steps rfl rfl (PySem.W.mg_of X G a5) b5 (fun p hp => by
      simp only [List.mem_cons, List.not_mem_nil, or_false] at hp
      rcases hp with rfl | rfl
      · exact A4.mono (by decide)
      · exact A1.mono (by decide)
      ) S5
  have S6 : Glb K w mg (nm_is_done).cs := ⟨fun q hq => (List.not_mem_nil hq).elim, gb⟩
  have A6 : At l.prog w K mg base 1 p_is_done := def_at (k := 0) b_is_done F6 sc_is_done syn_is_done rfl rfl (PySem.W.mg_of X G a6) b6 (fun p hp => (List.not_mem_nil hp).elim) S6
  have S7 : Glb K w mg (nm_fewest_words).cs := ⟨fun q hq => (List.not_mem_nil hq).elim, gb⟩
  have A7 : At l.prog w K mg base 3 p_fewest_words := def_at (k := 2) b_fewest_words F7 sc_fewest_words syn_fewest_words rfl rfl (PySem.W.mg_of X G a7) b7 (fun p hp => by
      simp only [List.mem_cons, List.not_mem_nil, or_false] at hp
      rcases hp with rfl | rfl
      · exact A5.mono (by decide)
      · exact A6.mono (by decide)
      ) S7
  have S8 : Glb K w mg (nm__law_draw).cs := ⟨fun q hq => (List.not_mem_nil hq).elim, gb⟩
  have A8 : At l.prog w K mg base 1 p__law_draw := def_at (k := 0) b__law_draw F8 sc__law_draw syn__law_draw rfl rfl (PySem.W.mg_of X G a8) b8 (fun p hp => (List.not_mem_nil hp).elim) S8
  have S9 : Glb K w mg (nm__law_lamps).cs := ⟨fun q hq => (List.not_mem_nil hq).elim, gb⟩
  have A9 : At l.prog w K mg base 2 p__law_lamps := def_at (k := 1) b__law_lamps F9 sc__law_lamps syn__law_lamps rfl rfl (PySem.W.mg_of X G a9) b9 (fun p hp => by
      simp only [List.mem_cons, List.not_mem_nil, or_false] at hp
      rcases hp with rfl
      · exact A8.mono (by decide)
      ) S9
  have S10 : Glb K w mg (nm__law_groups).cs := ⟨fun q hq => (List.not_mem_nil hq).elim, gb⟩
  have A10 : At l.prog w K mg base 2 p__law_groups := def_at (k := 1) b__law_groups F10 sc__law_groups syn__law_groups rfl rfl (PySem.W.mg_of X G a10) b10 (fun p hp => by
      simp only [List.mem_cons, List.not_mem_nil, or_false] at hp
      rcases hp with rfl
      · exact A8.mono (by decide)
      ) S10
  have S11 : Glb K w mg (nm__law_told_by).cs := ⟨fun q hq => (List.not_mem_nil hq).elim, gb⟩
  have A11 : At l.prog w K mg base 1 p__law_told_by := def_at (k := 0) b__law_told_by F11 sc__law_told_by syn__law_told_by rfl rfl (PySem.W.mg_of X G a11) b11 (fun p hp => (List.not_mem_nil hp).elim) S11
  have S12 : Glb K w mg (nm__law_levels).cs := ⟨fun q hq => (List.not_mem_nil hq).elim, gb⟩
  have A12 : At l.prog w K mg base 2 p__law_levels := def_at (k := 1) b__law_levels F12 sc__law_levels syn__law_levels rfl rfl (PySem.W.mg_of X G a12) b12 (fun p hp => by
      simp only [List.mem_cons, List.not_mem_nil, or_false] at hp
      rcases hp with rfl
      · exact A8.mono (by decide)
      ) S12
  have S13 : Glb K w mg (nm__law_named).cs := ⟨fun q hq => (List.not_mem_nil hq).elim, gb⟩
  have A13 : At l.prog w K mg base 1 p__law_named := def_at (k := 0) b__law_named F13 sc__law_named syn__law_named rfl rfl (PySem.W.mg_of X G a13) b13 (fun p hp => (List.not_mem_nil hp).elim) S13
  have S14 : Glb K w mg (nm_law).cs := ⟨fun q hq => (List.not_mem_nil hq).elim, gb⟩
  exact law_fn (k := 3) b_law F14 sc_law syn_law rfl (fun p hp => by
      simp only [List.mem_cons, List.not_mem_nil, or_false] at hp
      rcases hp with rfl | rfl | rfl | rfl | rfl | rfl | rfl
      · exact A7.mono (by decide)
      · exact A13.mono (by decide)
      · exact A11.mono (by decide)
      · exact A3.mono (by decide)
      · exact A12.mono (by decide)
      · exact A10.mono (by decide)
      · exact A9.mono (by decide)
      ) S14

end Law
end FL
end L2

namespace L2
namespace FL
namespace Law
open PySem
theorem w_names_of {ds : List D} {Q : D → List Sl → Prop} (hp : ds.all pairB = true) : WC p_names_of.sem [.val (.tuple ds)] Q ↔ Q (.list (ds.map fstD)) [.un] := by
  refine WC.iff_of ?_
  rw [run_names_of, w_run]
  refine ⟨rfl, ?_⟩
  show WS m_names_of [_, _] _
  unfold m_names_of
  simp only [evS, Sq.nx, isOwn, isOwnL, thawS, asB, asI, asDs, toSl, putBack, pbE, outs, wipeE, unwipe, flatD, reduceIte, reduceCtorEq, Nat.reduceAdd, Nat.reduceLT, Nat.reduceLeDiff]
  refine WLc.mapY fstD (fun s hs => ?_) ?_
  · obtain ⟨a, b, rfl⟩ := pairB_of (List.all_eq_true.mp hp s hs)
    simp only [evS, Sq.nx, isOwn, isOwnL, thawS, asB, asI, asDs, toSl, putBack, pbE, outs, wipeE, unwipe, flatD, reduceIte, reduceCtorEq, Nat.reduceAdd, Nat.reduceLT, Nat.reduceLeDiff, fstD]
  · simp only [evS, Sq.nx, isOwn, isOwnL, thawS, asB, asI, asDs, toSl, putBack, pbE, outs, wipeE, unwipe, flatD, reduceIte, reduceCtorEq, Nat.reduceAdd, Nat.reduceLT, Nat.reduceLeDiff]

theorem w_names_ofT {s : List Row} {Q : D → List Sl → Prop} : WC p_names_of.sem [.val (encS s)] Q ↔ Q (.list (nmD s)) [.un] := by
  unfold encS nmD
  rw [w_names_of (encS_pairs s), fst_encP, List.map_map]
  rfl

theorem w_members {ns : List Str} {gs : List Grp} {w : Wd} {Q : D → List Sl → Prop} (hw : WdOk ns gs w) (hn : (gs.map (·.1)).Nodup) : WC p_members.sem [.val (.list (ns.map fun x => (.str x : D))), .val (.tuple (gs.map encG)), .val (encW w)] Q ↔ Q (.tuple ((memW ns gs w.1).map fun x => (.str x : D))) [.un, .un, .un] := by
  refine WC.iff_of ?_
  rw [run_members, w_run]
  refine ⟨rfl, ?_⟩
  show WS m_members [_, _, _] _
  unfold m_members
  obtain ⟨e1, e2, e3, e4, e5⟩ := fEqW
  obtain ⟨h, v⟩ := w
  rcases hw with h | ⟨x, hx, h⟩ | ⟨g, h1, h⟩ <;> (have h : _ = _ := h; dsimp only at h; subst h)
  · ((try (with_reducible refine Sq.nx.mpr ?_)); (try simp only [evS, isOwn, isOwnL, thawS, asB, asI, asDs, toSl, putBack, pbE, outs, wipeE, unwipe, flatD, reduceIte, reduceCtorEq, Nat.reduceAdd, Nat.reduceLT, Nat.reduceLeDiff, evK, encW, memW_all, e1]); (repeat ((with_reducible refine Sq.nx.mpr ?_); (try simp only [evS, isOwn, isOwnL, thawS, asB, asI, asDs, toSl, putBack, pbE, outs, wipeE, unwipe, flatD, reduceIte, reduceCtorEq, Nat.reduceAdd, Nat.reduceLT, Nat.reduceLeDiff, evK, encW, memW_all, e1]))))
  · ((try (with_reducible refine Sq.nx.mpr ?_)); (try simp only [evS, isOwn, isOwnL, thawS, asB, asI, asDs, toSl, putBack, pbE, outs, wipeE, unwipe, flatD, reduceIte, reduceCtorEq, Nat.reduceAdd, Nat.reduceLT, Nat.reduceLeDiff, evK, encW, memW_lamp, e2, e4]); (repeat ((with_reducible refine Sq.nx.mpr ?_); (try simp only [evS, isOwn, isOwnL, thawS, asB, asI, asDs, toSl, putBack, pbE, outs, wipeE, unwipe, flatD, reduceIte, reduceCtorEq, Nat.reduceAdd, Nat.reduceLT, Nat.reduceLeDiff, evK, encW, memW_lamp, e2, e4]))))
  · ((try (with_reducible refine Sq.nx.mpr ?_)); (try simp only [evS, isOwn, isOwnL, thawS, asB, asI, asDs, toSl, putBack, pbE, outs, wipeE, unwipe, flatD, reduceIte, reduceCtorEq, Nat.reduceAdd, Nat.reduceLT, Nat.reduceLeDiff, evK, encW, memW_group h1 hn, e3, e5, dDict_grps hn, dIdx_grps, lkG_mem h1 hn]); (repeat ((with_reducible refine Sq.nx.mpr ?_); (try simp only [evS, isOwn, isOwnL, thawS, asB, asI, asDs, toSl, putBack, pbE, outs, wipeE, unwipe, flatD, reduceIte, reduceCtorEq, Nat.reduceAdd, Nat.reduceLT, Nat.reduceLeDiff, evK, encW, memW_group h1 hn, e3, e5, dDict_grps hn, dIdx_grps, lkG_mem h1 hn]))))

theorem w_told_to {ns : List Str} {gs : List Grp} {Q : D → List Sl → Prop} (hn : ns.length ≤ 1000) (hg : gs.length ≤ 1000) : WC p_told_to.sem [.val (.list (ns.map fun x => (.str x : D))), .val (.tuple (gs.map encG))] Q ↔ Q (.list ((headsM ns gs).map encH)) [.un, .un] := by
  have hsz : (3000 : Nat) ≤ sizeLine := by decide
  refine WC.iff_of ?_
  rw [run_told_to, w_run]
  refine ⟨rfl, ?_⟩
  show WS m_told_to [_, _, _, _, _] _
  unfold m_told_to
  ((try (with_reducible refine Sq.nx.mpr ?_)); (try simp only [evS, isOwn, isOwnL, thawS, asB, asI, asDs, toSl, putBack, pbE, outs, wipeE, unwipe, flatD, reduceIte, reduceCtorEq, Nat.reduceAdd, Nat.reduceLT, Nat.reduceLeDiff, evK]); (repeat ((with_reducible refine Sq.nx.mpr ?_); (try simp only [evS, isOwn, isOwnL, thawS, asB, asI, asDs, toSl, putBack, pbE, outs, wipeE, unwipe, flatD, reduceIte, reduceCtorEq, Nat.reduceAdd, Nat.reduceLT, Nat.reduceLeDiff, evK]))))
  refine WLc.mapT (fun x => encH ([("lamp" : Str), x], [x])) (fun x hx => ?_) ?_
  · ((try (with_reducible refine Sq.nx.mpr ?_)); (try simp only [evS, isOwn, isOwnL, thawS, asB, asI, asDs, toSl, putBack, pbE, outs, wipeE, unwipe, flatD, reduceIte, reduceCtorEq, Nat.reduceAdd, Nat.reduceLT, Nat.reduceLeDiff, evK]); (repeat ((with_reducible refine Sq.nx.mpr ?_); (try simp only [evS, isOwn, isOwnL, thawS, asB, asI, asDs, toSl, putBack, pbE, outs, wipeE, unwipe, flatD, reduceIte, reduceCtorEq, Nat.reduceAdd, Nat.reduceLT, Nat.reduceLeDiff, evK]))))
    rfl
  ((try (with_reducible refine Sq.nx.mpr ?_)); (try simp only [evS, isOwn, isOwnL, thawS, asB, asI, asDs, toSl, putBack, pbE, outs, wipeE, unwipe, flatD, reduceIte, reduceCtorEq, Nat.reduceAdd, Nat.reduceLT, Nat.reduceLeDiff, evK, fAdd_l, List.length_map]); (repeat ((with_reducible refine Sq.nx.mpr ?_); (try simp only [evS, isOwn, isOwnL, thawS, asB, asI, asDs, toSl, putBack, pbE, outs, wipeE, unwipe, flatD, reduceIte, reduceCtorEq, Nat.reduceAdd, Nat.reduceLT, Nat.reduceLeDiff, evK, fAdd_l, List.length_map]))))
  refine ⟨by omega, ?_⟩
  ((try (with_reducible refine Sq.nx.mpr ?_)); (try simp only [evS, isOwn, isOwnL, thawS, asB, asI, asDs, toSl, putBack, pbE, outs, wipeE, unwipe, flatD, reduceIte, reduceCtorEq, Nat.reduceAdd, Nat.reduceLT, Nat.reduceLeDiff, evK]); (repeat ((with_reducible refine Sq.nx.mpr ?_); (try simp only [evS, isOwn, isOwnL, thawS, asB, asI, asDs, toSl, putBack, pbE, outs, wipeE, unwipe, flatD, reduceIte, reduceCtorEq, Nat.reduceAdd, Nat.reduceLT, Nat.reduceLeDiff, evK]))))
  refine WLc.mapT (fun g => encH ([("group" : Str), g.1], g.2)) (fun g hg => ?_) ?_
  · ((try (with_reducible refine Sq.nx.mpr ?_)); (try simp only [evS, isOwn, isOwnL, thawS, asB, asI, asDs, toSl, putBack, pbE, outs, wipeE, unwipe, flatD, reduceIte, reduceCtorEq, Nat.reduceAdd, Nat.reduceLT, Nat.reduceLeDiff, evK, encG]); (repeat ((with_reducible refine Sq.nx.mpr ?_); (try simp only [evS, isOwn, isOwnL, thawS, asB, asI, asDs, toSl, putBack, pbE, outs, wipeE, unwipe, flatD, reduceIte, reduceCtorEq, Nat.reduceAdd, Nat.reduceLT, Nat.reduceLeDiff, evK, encG]))))
    rfl
  ((try (with_reducible refine Sq.nx.mpr ?_)); (try simp only [evS, isOwn, isOwnL, thawS, asB, asI, asDs, toSl, putBack, pbE, outs, wipeE, unwipe, flatD, reduceIte, reduceCtorEq, Nat.reduceAdd, Nat.reduceLT, Nat.reduceLeDiff, evK, fAdd_l, List.length_map]); (repeat ((with_reducible refine Sq.nx.mpr ?_); (try simp only [evS, isOwn, isOwnL, thawS, asB, asI, asDs, toSl, putBack, pbE, outs, wipeE, unwipe, flatD, reduceIte, reduceCtorEq, Nat.reduceAdd, Nat.reduceLT, Nat.reduceLeDiff, evK, fAdd_l, List.length_map]))))
  refine ⟨by omega, ?_⟩
  unfold headsM
  simp [encH, strsD]
  rfl

theorem w_steps {ns lot : List Str} {due : List Row} {gs : List Grp} {Q : D → List Sl → Prop} (hn : NsOk ns) (hd : due.map (·.1) = ns) (hg : GW ns gs) (hl : lot.Sublist ns) : WC p_steps.sem [.val (.tuple (due.map encP)), .val (.tuple (gs.map encG)), .val (.tuple (lot.map fun x => (.str x : D)))] Q ↔ Q (.list ((stepsL (val due) ns gs lot).map encSt)) [.un, .un, .un] := by
  have hsz : (3000 : Nat) ≤ sizeLine := by decide
  refine WC.iff_of ?_
  rw [run_steps, w_run]
  refine ⟨rfl, ?_⟩
  show WS m_steps [_, _, _, _, _, _, _, _, _] _
  unfold m_steps
  have h8 := hn.le8
  have hgl := hg.len
  have hll := hl.length_le
  have hls : SsOk lot := ⟨by omega, fun x hx => hn.tx x (hl.subset hx)⟩
  have hdd : dDict (.tuple (due.map encP)) = some (.dict (due.map fun p => ((.str p.1 : D), (.int p.2 : D)))) := dDict_rows (by rw [hd]; exact hn.nd)
  have enm : encS due = .tuple (due.map encP) := rfl
  ((try (with_reducible refine Sq.nx.mpr ?_)); (try simp only [evS, isOwn, isOwnL, thawS, asB, asI, asDs, toSl, putBack, pbE, outs, wipeE, unwipe, flatD, reduceIte, reduceCtorEq, Nat.reduceAdd, Nat.reduceLT, Nat.reduceLeDiff, evK, hdd]); (repeat ((with_reducible refine Sq.nx.mpr ?_); (try simp only [evS, isOwn, isOwnL, thawS, asB, asI, asDs, toSl, putBack, pbE, outs, wipeE, unwipe, flatD, reduceIte, reduceCtorEq, Nat.reduceAdd, Nat.reduceLT, Nat.reduceLeDiff, evK, hdd]))))
  rw [← enm, w_names_ofT, nmD_eq, hd, enm]
  ((try (with_reducible refine Sq.nx.mpr ?_)); (try simp only [evS, isOwn, isOwnL, thawS, asB, asI, asDs, toSl, putBack, pbE, outs, wipeE, unwipe, flatD, reduceIte, reduceCtorEq, Nat.reduceAdd, Nat.reduceLT, Nat.reduceLeDiff, evK, w_told_to (ns := ns) (gs := gs) (by omega) (by omega), nps_told_to]); (repeat ((with_reducible refine Sq.nx.mpr ?_); (try simp only [evS, isOwn, isOwnL, thawS, asB, asI, asDs, toSl, putBack, pbE, outs, wipeE, unwipe, flatD, reduceIte, reduceCtorEq, Nat.reduceAdd, Nat.reduceLT, Nat.reduceLeDiff, evK, w_told_to (ns := ns) (gs := gs) (by omega) (by omega), nps_told_to]))))
  refine WF.invT (fun pre ρ => ∃ a5 a6 a7 a8, ρ = [.val (.tuple (due.map encP)), .val (.tuple (gs.map encG)), .val (.tuple (lot.map fun x => (.str x : D))), .val (.dict (due.map fun p => ((.str p.1 : D), (.int p.2 : D)))), .own (.list ((pre.filterMap (stepF (val due) ns lot)).map encSt)), a5, a6, a7, a8]) ⟨_, _, _, _, rfl⟩ (fun pre h post ρ hq hP => ?_) (fun ρ hP => ?_)
  · obtain ⟨a5, a6, a7, a8, rfl⟩ := hP
    have hh : h ∈ headsM ns gs := by rw [hq]; simp
    obtain ⟨hs2, hl2⟩ := headsM_sl hg hh
    have hpl : (pre.filterMap (stepF (val due) ns lot)).length ≤ 100 := by
      have h1 : (headsM ns gs).length ≤ 15 := by unfold headsM; simp; omega
      rw [hq, List.length_append] at h1
      have := List.length_filterMap_le (stepF (val due) ns lot) pre
      omega
    have hlf : (leftW h.2 lot).Sublist ns := (show (leftW h.2 lot).Sublist h.2 from List.filter_sublist).trans hs2
    have hlfl := hlf.length_le
    have hlfs : SsOk (leftW h.2 lot) := ⟨by omega, fun x hx => hn.tx x (hlf.subset hx)⟩
    ((try (with_reducible refine Sq.nx.mpr ?_)); (try simp only [evS, isOwn, isOwnL, thawS, asB, asI, asDs, toSl, putBack, pbE, outs, wipeE, unwipe, flatD, reduceIte, reduceCtorEq, Nat.reduceAdd, Nat.reduceLT, Nat.reduceLeDiff, evK, encH]); (repeat ((with_reducible refine Sq.nx.mpr ?_); (try simp only [evS, isOwn, isOwnL, thawS, asB, asI, asDs, toSl, putBack, pbE, outs, wipeE, unwipe, flatD, reduceIte, reduceCtorEq, Nat.reduceAdd, Nat.reduceLT, Nat.reduceLeDiff, evK, encH]))))
    refine WLc.filtT (fun x => !lot.contains x) (fun x => .str x) (fun x hx => ?_) ?_
    · ((try (with_reducible refine Sq.nx.mpr ?_)); (try simp only [evS, isOwn, isOwnL, thawS, asB, asI, asDs, toSl, putBack, pbE, outs, wipeE, unwipe, flatD, reduceIte, reduceCtorEq, Nat.reduceAdd, Nat.reduceLT, Nat.reduceLeDiff, evK, fNotIn_strsT hls (hn.tx x (hs2.subset hx))]); (repeat ((with_reducible refine Sq.nx.mpr ?_); (try simp only [evS, isOwn, isOwnL, thawS, asB, asI, asDs, toSl, putBack, pbE, outs, wipeE, unwipe, flatD, reduceIte, reduceCtorEq, Nat.reduceAdd, Nat.reduceLT, Nat.reduceLeDiff, evK, fNotIn_strsT hls (hn.tx x (hs2.subset hx))]))))
    rw [show (h.2.filter fun x => !lot.contains x) = leftW h.2 lot from rfl]
    have e0 : (pre ++ [h]).filterMap (stepF (val due) ns lot) = pre.filterMap (stepF (val due) ns lot) ++ (stepF (val due) ns lot h).toList := by
      rw [List.filterMap_append]
      congr 1
    ((try (with_reducible refine Sq.nx.mpr ?_)); (try simp only [evS, isOwn, isOwnL, thawS, asB, asI, asDs, toSl, putBack, pbE, outs, wipeE, unwipe, flatD, reduceIte, reduceCtorEq, Nat.reduceAdd, Nat.reduceLT, Nat.reduceLeDiff, evK, fNe_nil hlfs.thL (by decide)]); (repeat ((with_reducible refine Sq.nx.mpr ?_); (try simp only [evS, isOwn, isOwnL, thawS, asB, asI, asDs, toSl, putBack, pbE, outs, wipeE, unwipe, flatD, reduceIte, reduceCtorEq, Nat.reduceAdd, Nat.reduceLT, Nat.reduceLeDiff, evK, fNe_nil hlfs.thL (by decide)]))))
    cases hlw : leftW h.2 lot with
    | nil =>
      have e1 : stepF (val due) ns lot h = none := by unfold stepF; rw [hlw]
      ((try (with_reducible refine Sq.nx.mpr ?_)); (try simp only [evS, isOwn, isOwnL, thawS, asB, asI, asDs, toSl, putBack, pbE, outs, wipeE, unwipe, flatD, reduceIte, reduceCtorEq, Nat.reduceAdd, Nat.reduceLT, Nat.reduceLeDiff, evK, List.isEmpty_nil]); (repeat ((with_reducible refine Sq.nx.mpr ?_); (try simp only [evS, isOwn, isOwnL, thawS, asB, asI, asDs, toSl, putBack, pbE, outs, wipeE, unwipe, flatD, reduceIte, reduceCtorEq, Nat.reduceAdd, Nat.reduceLT, Nat.reduceLeDiff, evK, List.isEmpty_nil]))))
      rw [e0, e1, Option.toList_none, List.append_nil]
      exact ⟨_, _, _, _, rfl⟩
    | cons x r =>
      rw [hlw] at hlf hlfl hlfs
      ((try (with_reducible refine Sq.nx.mpr ?_)); (try simp only [evS, isOwn, isOwnL, thawS, asB, asI, asDs, toSl, putBack, pbE, outs, wipeE, unwipe, flatD, reduceIte, reduceCtorEq, Nat.reduceAdd, Nat.reduceLT, Nat.reduceLeDiff, evK, ww_lenSet, List.isEmpty_cons]); (repeat ((with_reducible refine Sq.nx.mpr ?_); (try simp only [evS, isOwn, isOwnL, thawS, asB, asI, asDs, toSl, putBack, pbE, outs, wipeE, unwipe, flatD, reduceIte, reduceCtorEq, Nat.reduceAdd, Nat.reduceLT, Nat.reduceLeDiff, evK, ww_lenSet, List.isEmpty_cons]))))
      rw [← List.map_cons (f := fun x => (.str x : D))]
      refine WLc.mapT (fun y => .int (val due y)) (fun y hy => ?_) ?_
      · obtain ⟨v, hv⟩ := lk_some_of (s := due) (x := y) (by rw [hd]; exact hlf.subset hy)
        ((try (with_reducible refine Sq.nx.mpr ?_)); (try simp only [evS, isOwn, isOwnL, thawS, asB, asI, asDs, toSl, putBack, pbE, outs, wipeE, unwipe, flatD, reduceIte, reduceCtorEq, Nat.reduceAdd, Nat.reduceLT, Nat.reduceLeDiff, evK, dIdx_rowsD, hv, val]); (repeat ((with_reducible refine Sq.nx.mpr ?_); (try simp only [evS, isOwn, isOwnL, thawS, asB, asI, asDs, toSl, putBack, pbE, outs, wipeE, unwipe, flatD, reduceIte, reduceCtorEq, Nat.reduceAdd, Nat.reduceLT, Nat.reduceLeDiff, evK, dIdx_rowsD, hv, val]))))
      obtain ⟨v, hv⟩ := lk_some_of (s := due) (x := x) (by rw [hd]; exact hlf.subset List.mem_cons_self)
      have hvv : val due x = v := by unfold val; rw [hv]; rfl
      have ea : asInts (.int v :: (r.map fun y => (.int (val due y) : D))) = some (v :: r.map (val due)) := by
        have := asInts_map (v :: r.map (val due))
        rw [List.map_cons, List.map_map] at this
        exact this
      have es : dSortedT (.tuple ((lot.map fun x => (.str x : D)) ++ .str x :: r.map fun x => (.str x : D))) = some ((uni ns lot (x :: r)).map fun x => (.str x : D)) := by
        have h1 : sortSt (lot ++ (x :: r)) = uni ns lot (x :: r) := sort_uni hn hl (hn.nd.sublist hlf) fun y hy => ⟨hlf.subset hy, (mem_leftW.mp (by rw [hlw]; exact hy)).2⟩
        have := dSortedT_strs (l := lot ++ (x :: r)) fun y hy => by
          rcases List.mem_append.mp hy with hy | hy
          · exact hn.tx y (hl.subset hy)
          · exact hn.tx y (hlf.subset hy)
        rw [h1, List.map_append, List.map_cons] at this
        exact this
      have hun : (uni ns lot (x :: r)).length ≤ 8 := Nat.le_trans (List.length_filter_le _ _) h8
      rw [List.length_cons] at hlfl
      rw [List.map_cons, hvv]
      ((try (with_reducible refine Sq.nx.mpr ?_)); (try simp only [evS, isOwn, isOwnL, thawS, asB, asI, asDs, toSl, putBack, pbE, outs, wipeE, unwipe, flatD, reduceIte, reduceCtorEq, Nat.reduceAdd, Nat.reduceLT, Nat.reduceLeDiff, evK, ea, dIdx_rowsD, hv, es, fEq_i, List.length_map]); (repeat ((with_reducible refine Sq.nx.mpr ?_); (try simp only [evS, isOwn, isOwnL, thawS, asB, asI, asDs, toSl, putBack, pbE, outs, wipeE, unwipe, flatD, reduceIte, reduceCtorEq, Nat.reduceAdd, Nat.reduceLT, Nat.reduceLeDiff, evK, ea, dIdx_rowsD, hv, es, fEq_i, List.length_map]))))
      refine ⟨by omega, fun h1 => ⟨by omega, by omega, by omega, ?_⟩, fun h1 => ?_⟩
      · have h2 : (distI (v :: r.map (val due))).length = 1 := by exact_mod_cast h1
        have e1 : stepF (val due) ns lot h = some ((h.1, v), uni ns lot (x :: r)) := by
          have hall := distI_one.mp h2
          unfold stepF
          rw [hlw]
          dsimp only
          rw [if_pos, hvv]
          rw [List.all_map] at hall
          rw [← hall, hvv]
          rfl
        rw [e0, e1, Option.toList_some, List.map_append]
        exact ⟨_, _, _, _, rfl⟩
      · have h2 : ¬ (distI (v :: r.map (val due))).length = 1 := fun z => h1 (by exact_mod_cast z)
        have e1 : stepF (val due) ns lot h = none := by
          unfold stepF
          rw [hlw]
          dsimp only
          rw [if_neg]
          intro z
          refine h2 (distI_one.mpr ?_)
          rw [List.all_map, ← z, hvv]
          rfl
        rw [e0, e1, Option.toList_none, List.append_nil]
        exact ⟨_, _, _, _, rfl⟩
  · obtain ⟨a5, a6, a7, a8, rfl⟩ := hP
    ((try (with_reducible refine Sq.nx.mpr ?_)); (try simp only [evS, isOwn, isOwnL, thawS, asB, asI, asDs, toSl, putBack, pbE, outs, wipeE, unwipe, flatD, reduceIte, reduceCtorEq, Nat.reduceAdd, Nat.reduceLT, Nat.reduceLeDiff, evK]); (repeat ((with_reducible refine Sq.nx.mpr ?_); (try simp only [evS, isOwn, isOwnL, thawS, asB, asI, asDs, toSl, putBack, pbE, outs, wipeE, unwipe, flatD, reduceIte, reduceCtorEq, Nat.reduceAdd, Nat.reduceLT, Nat.reduceLeDiff, evK]))))
    rfl

theorem w_is_done {ns lot : List Str} {s due : List Row} {Q : D → List Sl → Prop} (hn : NsOk ns) (hs : s.map (·.1) = ns) (hd : due.map (·.1) = ns) (hl : lot.Sublist ns) : WC p_is_done.sem [.val (.tuple (s.map encP)), .val (.tuple (due.map encP)), .val (.tuple (lot.map fun x => (.str x : D)))] Q ↔ Q (.bool (doneB (val due) s lot)) [.un, .un, .un] := by
  refine WC.iff_of ?_
  rw [run_is_done, w_run]
  refine ⟨rfl, ?_⟩
  show WS m_is_done [_, _, _, _, _] _
  unfold m_is_done
  have hls : SsOk lot := ⟨Nat.le_trans hl.length_le (Nat.le_trans hn.le8 (by decide)), fun x hx => hn.tx x (hl.subset hx)⟩
  have hdd : dDict (.tuple (due.map encP)) = some (.dict (due.map fun p => ((.str p.1 : D), (.int p.2 : D)))) := dDict_rows (by rw [hd]; exact hn.nd)
  ((try (with_reducible refine Sq.nx.mpr ?_)); (try simp only [evS, isOwn, isOwnL, thawS, asB, asI, asDs, toSl, putBack, pbE, outs, wipeE, unwipe, flatD, reduceIte, reduceCtorEq, Nat.reduceAdd, Nat.reduceLT, Nat.reduceLeDiff, evK]); (repeat ((with_reducible refine Sq.nx.mpr ?_); (try simp only [evS, isOwn, isOwnL, thawS, asB, asI, asDs, toSl, putBack, pbE, outs, wipeE, unwipe, flatD, reduceIte, reduceCtorEq, Nat.reduceAdd, Nat.reduceLT, Nat.reduceLeDiff, evK]))))
  refine WLc.mapT (fun p : Row => .bool (lot.contains p.1 || decide (p.2 = val due p.1))) (fun p hp => ?_) ?_
  · have hx : p.1 ∈ ns := by rw [← hs]; exact List.mem_map_of_mem (f := fun p : Row => p.1) hp
    obtain ⟨v, hv⟩ := lk_some_of (s := due) (x := p.1) (by rw [hd]; exact hx)
    ((try (with_reducible refine Sq.nx.mpr ?_)); (try simp only [evS, isOwn, isOwnL, thawS, asB, asI, asDs, toSl, putBack, pbE, outs, wipeE, unwipe, flatD, reduceIte, reduceCtorEq, Nat.reduceAdd, Nat.reduceLT, Nat.reduceLeDiff, evK, encP, fIn_strsT hls (hn.tx p.1 hx), hdd, dIdx_rowsD, hv, fEq_i, val]); (repeat ((with_reducible refine Sq.nx.mpr ?_); (try simp only [evS, isOwn, isOwnL, thawS, asB, asI, asDs, toSl, putBack, pbE, outs, wipeE, unwipe, flatD, reduceIte, reduceCtorEq, Nat.reduceAdd, Nat.reduceLT, Nat.reduceLeDiff, evK, encP, fIn_strsT hls (hn.tx p.1 hx), hdd, dIdx_rowsD, hv, fEq_i, val]))))
    refine ⟨fun h => ?_, fun h => ?_⟩
    · rw [h]; rfl
    · rw [h]; rfl
  · ((try (with_reducible refine Sq.nx.mpr ?_)); (try simp only [evS, isOwn, isOwnL, thawS, asB, asI, asDs, toSl, putBack, pbE, outs, wipeE, unwipe, flatD, reduceIte, reduceCtorEq, Nat.reduceAdd, Nat.reduceLT, Nat.reduceLeDiff, evK, dAll_map]); (repeat ((with_reducible refine Sq.nx.mpr ?_); (try simp only [evS, isOwn, isOwnL, thawS, asB, asI, asDs, toSl, putBack, pbE, outs, wipeE, unwipe, flatD, reduceIte, reduceCtorEq, Nat.reduceAdd, Nat.reduceLT, Nat.reduceLeDiff, evK, dAll_map]))))
    rfl

end Law
end FL
end L2

namespace L2
namespace FL
namespace Law
open PySem
theorem w_heard_after {s : List Row} {gs : List Grp} {ws : List Wd} {ls : List Los} {Q : D → List Sl → Prop} (hs : RsOk s) (hn : (gs.map (·.1)).Nodup) (hg : ∀ g ∈ gs, ∀ x ∈ g.2, x ∈ s.map (·.1)) (hw : ∀ w ∈ ws, WdOk (s.map (·.1)) gs w) (hwl : ws.length ≤ 1000) (hl : ls.length ≤ 1000) (hlt : ∀ l ∈ ls, TxOk l.2) : WC p_heard_after.sem [.val (.tuple (s.map encP)), .val (.tuple (gs.map encG)), .val (.list (ws.map encW)), .val (.tuple (ls.map encL))] Q ↔ Q (.tuple ((aft (s.map (·.1)) gs (losB ls) ws s).map encP)) [.un, .un, .un, .un] := by
  have hsz : (3000 : Nat) ≤ sizeLine := by decide
  refine WC.iff_of ?_
  rw [run_heard_after, w_run]
  refine ⟨rfl, ?_⟩
  show WS m_heard_after [_, _, _, _, _, _, _, _] _
  unfold m_heard_after
  have hnm : ∀ {Q : D → List Sl → Prop}, WC p_names_of.sem [.val (.tuple (s.map encP))] Q ↔ Q (.list ((s.map (·.1)).map fun x => (.str x : D))) [.un] := fun {Q} => by
    rw [← nmD_eq]
    exact w_names_ofT
  have hd : dDict (.tuple (s.map encP)) = some (.dict (s.map fun p => ((.str p.1 : D), (.int p.2 : D)))) := dDict_rows hs.nd
  ((try (with_reducible refine Sq.nx.mpr ?_)); (try simp only [evS, isOwn, isOwnL, thawS, asB, asI, asDs, toSl, putBack, pbE, outs, wipeE, unwipe, flatD, reduceIte, reduceCtorEq, Nat.reduceAdd, Nat.reduceLT, Nat.reduceLeDiff, evK, hd, enum_typed]); (repeat ((with_reducible refine Sq.nx.mpr ?_); (try simp only [evS, isOwn, isOwnL, thawS, asB, asI, asDs, toSl, putBack, pbE, outs, wipeE, unwipe, flatD, reduceIte, reduceCtorEq, Nat.reduceAdd, Nat.reduceLT, Nat.reduceLeDiff, evK, hd, enum_typed]))))
  refine WF.invT (fun q ρ => ∃ a b c, ρ = [.val (.tuple (s.map encP)), .val (.tuple (gs.map encG)), .val (.list (ws.map encW)), .val (.tuple (ls.map encL)), .own (.dict ((q.foldl (fun s' (q : Wd × Nat) => aftW (s.map (·.1)) gs (losB ls) q.2 q.1 s') s).map fun p => ((.str p.1 : D), (.int p.2 : D)))), a, b, c]) ⟨_, _, _, rfl⟩ (fun pre q post ρ hq hP => ?_) (fun ρ hP => ?_)
  · obtain ⟨a, b, c, rfl⟩ := hP
    obtain ⟨w, i⟩ := q
    have hm : w ∈ ws := List.mem_of_getElem? (List.mk_mem_zipIdx_iff_getElem?.mp (show (w, i) ∈ ws.zipIdx by rw [hq]; simp))
    generalize hr : pre.foldl (fun s' (q : Wd × Nat) => aftW (s.map (·.1)) gs (losB ls) q.2 q.1 s') s = r
    have hrf : r.map (·.1) = s.map (·.1) := by rw [← hr]; exact aft_fstz _ _ _ _ _
    ((try (with_reducible refine Sq.nx.mpr ?_)); (try simp only [evS, isOwn, isOwnL, thawS, asB, asI, asDs, toSl, putBack, pbE, outs, wipeE, unwipe, flatD, reduceIte, reduceCtorEq, Nat.reduceAdd, Nat.reduceLT, Nat.reduceLeDiff, evK, pairD, hnm, w_members (hw w hm) hn, nps_members]); (repeat ((with_reducible refine Sq.nx.mpr ?_); (try simp only [evS, isOwn, isOwnL, thawS, asB, asI, asDs, toSl, putBack, pbE, outs, wipeE, unwipe, flatD, reduceIte, reduceCtorEq, Nat.reduceAdd, Nat.reduceLT, Nat.reduceLeDiff, evK, pairD, hnm, w_members (hw w hm) hn, nps_members]))))
    refine WF.invT (fun q ρ => ∃ c, ρ = [.val (.tuple (s.map encP)), .val (.tuple (gs.map encG)), .val (.list (ws.map encW)), .val (.tuple (ls.map encL)), .own (.dict ((q.foldl (fun s' x => if losB ls i x = true then s' else setR s' x w.2) r).map fun p => ((.str p.1 : D), (.int p.2 : D)))), .val (.int (i : Int)), .val (encW w), c]) ⟨_, rfl⟩ (fun pre2 x post2 ρ hq2 hP => ?_) (fun ρ hP => ?_)
    · obtain ⟨c, rfl⟩ := hP
      have hx : x ∈ s.map (·.1) := memW_in (hw w hm) hg hn x (by rw [hq2]; simp)
      have hxt : TxOk x := by
        obtain ⟨p, hp, rfl⟩ := List.mem_map.mp hx
        exact hs.tx p hp
      generalize hr2 : pre2.foldl (fun s' x => if losB ls i x = true then s' else setR s' x w.2) r = r2
      have hr2f : r2.map (·.1) = s.map (·.1) := by rw [← hr2, aftF_fst]; exact hrf
      have hr2l : r2.length ≤ 1000 := by
        have := congrArg List.length hr2f
        rw [List.length_map, List.length_map] at this
        rw [this]
        exact hs.len
      ((try (with_reducible refine Sq.nx.mpr ?_)); (try simp only [evS, isOwn, isOwnL, thawS, asB, asI, asDs, toSl, putBack, pbE, outs, wipeE, unwipe, flatD, reduceIte, reduceCtorEq, Nat.reduceAdd, Nat.reduceLT, Nat.reduceLeDiff, evK, fNotIn_los hl hlt hxt]); (repeat ((with_reducible refine Sq.nx.mpr ?_); (try simp only [evS, isOwn, isOwnL, thawS, asB, asI, asDs, toSl, putBack, pbE, outs, wipeE, unwipe, flatD, reduceIte, reduceCtorEq, Nat.reduceAdd, Nat.reduceLT, Nat.reduceLeDiff, evK, fNotIn_los hl hlt hxt]))))
      rw [List.foldl_append, List.foldl_cons, List.foldl_nil, hr2]
      refine ⟨fun h1 => ?_, fun h1 => ?_⟩
      · ((try (with_reducible refine Sq.nx.mpr ?_)); (try simp only [evS, isOwn, isOwnL, thawS, asB, asI, asDs, toSl, putBack, pbE, outs, wipeE, unwipe, flatD, reduceIte, reduceCtorEq, Nat.reduceAdd, Nat.reduceLT, Nat.reduceLeDiff, evK, dIdx_wlast, okK_rows, putD_rows w.2 (show x ∈ r2.map (·.1) by rw [hr2f]; exact hx)]); (repeat ((with_reducible refine Sq.nx.mpr ?_); (try simp only [evS, isOwn, isOwnL, thawS, asB, asI, asDs, toSl, putBack, pbE, outs, wipeE, unwipe, flatD, reduceIte, reduceCtorEq, Nat.reduceAdd, Nat.reduceLT, Nat.reduceLeDiff, evK, dIdx_wlast, okK_rows, putD_rows w.2 (show x ∈ r2.map (·.1) by rw [hr2f]; exact hx)]))))
        refine ⟨by rw [List.length_map]; omega, ?_⟩
        rw [if_neg (by rw [h1]; exact Bool.false_ne_true)]
        exact ⟨_, rfl⟩
      · rw [if_pos h1]
        exact ⟨_, rfl⟩
    · obtain ⟨c, rfl⟩ := hP
      ((try (with_reducible refine Sq.nx.mpr ?_)); (try simp only [evS, isOwn, isOwnL, thawS, asB, asI, asDs, toSl, putBack, pbE, outs, wipeE, unwipe, flatD, reduceIte, reduceCtorEq, Nat.reduceAdd, Nat.reduceLT, Nat.reduceLeDiff, evK]); (repeat ((with_reducible refine Sq.nx.mpr ?_); (try simp only [evS, isOwn, isOwnL, thawS, asB, asI, asDs, toSl, putBack, pbE, outs, wipeE, unwipe, flatD, reduceIte, reduceCtorEq, Nat.reduceAdd, Nat.reduceLT, Nat.reduceLeDiff, evK]))))
      rw [List.foldl_append, List.foldl_cons, List.foldl_nil, hr]
      exact ⟨_, _, _, rfl⟩
  · obtain ⟨a, b, c, rfl⟩ := hP
    show WS _ _ _
    generalize hr : ws.zipIdx.foldl (fun s' (q : Wd × Nat) => aftW (s.map (·.1)) gs (losB ls) q.2 q.1 s') s = r
    have hrf : r.map (·.1) = s.map (·.1) := by rw [← hr]; exact aft_fstz _ _ _ _ _
    have hrn : (r.map (·.1)).Nodup := by rw [hrf]; exact hs.nd
    ((try (with_reducible refine Sq.nx.mpr ?_)); (try simp only [evS, isOwn, isOwnL, thawS, asB, asI, asDs, toSl, putBack, pbE, outs, wipeE, unwipe, flatD, reduceIte, reduceCtorEq, Nat.reduceAdd, Nat.reduceLT, Nat.reduceLeDiff, evK, hnm]); (repeat ((with_reducible refine Sq.nx.mpr ?_); (try simp only [evS, isOwn, isOwnL, thawS, asB, asI, asDs, toSl, putBack, pbE, outs, wipeE, unwipe, flatD, reduceIte, reduceCtorEq, Nat.reduceAdd, Nat.reduceLT, Nat.reduceLeDiff, evK, hnm]))))
    refine WLc.mapT (fun x => encP (x, (lk r x).getD 0)) (fun x hx => ?_) ?_
    · obtain ⟨v, hv⟩ := lk_some_of (s := r) (x := x) (by rw [hrf]; exact hx)
      ((try (with_reducible refine Sq.nx.mpr ?_)); (try simp only [evS, isOwn, isOwnL, thawS, asB, asI, asDs, toSl, putBack, pbE, outs, wipeE, unwipe, flatD, reduceIte, reduceCtorEq, Nat.reduceAdd, Nat.reduceLT, Nat.reduceLeDiff, evK, okK_rows, lookK_rows, hv, encP]); (repeat ((with_reducible refine Sq.nx.mpr ?_); (try simp only [evS, isOwn, isOwnL, thawS, asB, asI, asDs, toSl, putBack, pbE, outs, wipeE, unwipe, flatD, reduceIte, reduceCtorEq, Nat.reduceAdd, Nat.reduceLT, Nat.reduceLeDiff, evK, okK_rows, lookK_rows, hv, encP]))))
    · ((try (with_reducible refine Sq.nx.mpr ?_)); (try simp only [evS, isOwn, isOwnL, thawS, asB, asI, asDs, toSl, putBack, pbE, outs, wipeE, unwipe, flatD, reduceIte, reduceCtorEq, Nat.reduceAdd, Nat.reduceLT, Nat.reduceLeDiff, evK]); (repeat ((with_reducible refine Sq.nx.mpr ?_); (try simp only [evS, isOwn, isOwnL, thawS, asB, asI, asDs, toSl, putBack, pbE, outs, wipeE, unwipe, flatD, reduceIte, reduceCtorEq, Nat.reduceAdd, Nat.reduceLT, Nat.reduceLeDiff, evK]))))
      rw [← hrf, rows_back hrn fun x v => encP (x, v)]
      unfold aft
      rw [hrf, hr]

/-- the rounds of fewest_words -/
theorem few_loop {ns : List Str} {due s : List Row} {gs : List Grp} {QS : Fl → Prop} (hn : NsOk ns) (hs : s.map (·.1) = ns) (hd : due.map (·.1) = ns) (hg : GW ns gs)
    (hQ : ∀ ws ρ, Few ns gs due s ws → (∃ a3 a4 a5 a6 a7, ρ = [.val (.tuple (s.map encP)), .val (.tuple (due.map encP)), .val (.tuple (gs.map encG)), a3, a4, a5, a6, a7]) → QS (.rt (.list (ws.map encW)) ρ)) :
    ∀ (n k : Nat) (K : LotK) (a4 a5 a6 a7 : Sl), KL (val due) ns gs k K → (∀ j lot ws, j < k → Rch (val due) ns (headsM ns gs) j lot ws → ¬ DoneL (val due) ns s lot) → k ≤ ns.length → ns.length < n + k →
      WS (whileS wt0_fewest_words wb0_fewest_words n) [.val (.tuple (s.map encP)), .val (.tuple (due.map encP)), .val (.tuple (gs.map encG)), .val (.dict ((.bool true, .none) :: lotD K)), a4, a5, a6, a7] QS
  | 0, k, K, a4, a5, a6, a7, hK, hmin, hk, hlt => absurd hlt (by omega)
  | n + 1, k, K, a4, a5, a6, a7, hK, hmin, hk, hlt => by
    have hsz : (3000 : Nat) ≤ sizeLine := by decide
    have h8 := hn.le8
    have hKl := hK.len h8
    have hsub : ∀ l ∈ K.map (·.1), l.Sublist ns := fun l hl => by
      obtain ⟨p, hp, rfl⟩ := List.mem_map.mp hl
      exact (hK.snd p hp).sub
    have hmem : ∀ l, l ∈ sortLs (K.map (·.1)) ↔ l ∈ K.map (·.1) := fun l => (sortLs_perm _).mem_iff
    have hsort : dSortedK (.dict ((.bool true, .none) :: lotD K)) = some ((sortLs (K.map (·.1))).map strsD) := by
      refine dSortedK_lots (fun p hp x hx => hn.tx x ((hK.snd p hp).sub.subset hx)) ?_
      cases k with
      | zero =>
        refine .inr ?_
        have h1 : ∀ l ∈ K.map (·.1), l ∈ [([] : List Str)] := fun l hl => by
          obtain ⟨p, hp, rfl⟩ := List.mem_map.mp hl
          rw [(hK.snd p hp).z]
          exact List.mem_cons_self
        have := nodup_len hK.nd h1
        rwa [List.length_map] at this
      | succ k => exact .inl fun p hp => (hK.snd p hp).ne fun h hh => (headsM_mem hg.ok hh).2.1
    refine w_whileN.mpr ?_
    unfold wt0_fewest_words
    ((try (with_reducible refine Sq.nx.mpr ?_)); (try simp only [evS, isOwn, isOwnL, thawS, asB, asI, asDs, toSl, putBack, pbE, outs, wipeE, unwipe, flatD, reduceIte, reduceCtorEq, Nat.reduceAdd, Nat.reduceLT, Nat.reduceLeDiff, evK]); (repeat ((with_reducible refine Sq.nx.mpr ?_); (try simp only [evS, isOwn, isOwnL, thawS, asB, asI, asDs, toSl, putBack, pbE, outs, wipeE, unwipe, flatD, reduceIte, reduceCtorEq, Nat.reduceAdd, Nat.reduceLT, Nat.reduceLeDiff, evK]))))
    unfold wb0_fewest_words
    ((try (with_reducible refine Sq.nx.mpr ?_)); (try simp only [evS, isOwn, isOwnL, thawS, asB, asI, asDs, toSl, putBack, pbE, outs, wipeE, unwipe, flatD, reduceIte, reduceCtorEq, Nat.reduceAdd, Nat.reduceLT, Nat.reduceLeDiff, evK, hsort]); (repeat ((with_reducible refine Sq.nx.mpr ?_); (try simp only [evS, isOwn, isOwnL, thawS, asB, asI, asDs, toSl, putBack, pbE, outs, wipeE, unwipe, flatD, reduceIte, reduceCtorEq, Nat.reduceAdd, Nat.reduceLT, Nat.reduceLeDiff, evK, hsort]))))
    refine WF.invT (enc := strsD) (fun pre ρ => (∀ l ∈ pre, ¬ DoneL (val due) ns s l) ∧ ∃ a4, ρ = [.val (.tuple (s.map encP)), .val (.tuple (due.map encP)), .val (.tuple (gs.map encG)), .val (.dict ((.bool true, .none) :: lotD K)), a4, a5, a6, a7]) ⟨(fun l hl => nomatch hl), _, rfl⟩ (fun pre l post ρ hq hP => ?_) (fun ρ hP => ?_)
    · obtain ⟨hpre, a4', rfl⟩ := hP
      have hlK : l ∈ K.map (·.1) := (hmem l).mp (by rw [hq]; simp)
      obtain ⟨ws, hws⟩ := lkA_some hlK
      have hr := hK.snd _ (lkA_mem hws)
      ((try (with_reducible refine Sq.nx.mpr ?_)); (try simp only [evS, isOwn, isOwnL, thawS, asB, asI, asDs, toSl, putBack, pbE, outs, wipeE, unwipe, flatD, reduceIte, reduceCtorEq, Nat.reduceAdd, Nat.reduceLT, Nat.reduceLeDiff, evK, w_is_done hn hs hd (hsub l hlK), dIdx_lotD, hws, nps_is_done]); (repeat ((with_reducible refine Sq.nx.mpr ?_); (try simp only [evS, isOwn, isOwnL, thawS, asB, asI, asDs, toSl, putBack, pbE, outs, wipeE, unwipe, flatD, reduceIte, reduceCtorEq, Nat.reduceAdd, Nat.reduceLT, Nat.reduceLeDiff, evK, w_is_done hn hs hd (hsub l hlK), dIdx_lotD, hws, nps_is_done]))))
      refine ⟨fun h1 => ?_, fun h1 => ?_⟩
      · rw [← List.map_reverse]
        exact hQ _ _ (few_of hg.ok hn.nd hs hd hr ((doneB_iff hn.nd hs).mp h1) hmin) ⟨_, _, _, _, _, rfl⟩
      · refine ⟨fun m hm => ?_, _, rfl⟩
        rcases List.mem_append.mp hm with hm | hm
        · exact hpre m hm
        · obtain rfl := List.mem_singleton.mp hm
          intro z
          rw [(doneB_iff hn.nd hs).mpr z] at h1
          cases h1
    · obtain ⟨hnone, a4', rfl⟩ := hP
      have hnone' : ∀ lot ws, Rch (val due) ns (headsM ns gs) k lot ws → ¬ DoneL (val due) ns s lot := fun lot ws r => hnone lot ((hmem lot).mpr (hK.all lot ws r))
      have hmin' : ∀ j lot ws, j < k + 1 → Rch (val due) ns (headsM ns gs) j lot ws → ¬ DoneL (val due) ns s lot := fun j lot ws hj r => by
        by_cases e : j = k
        · subst e; exact hnone' lot ws r
        · exact hmin j lot ws (by omega) r
      have hk1 : k + 1 ≤ ns.length := by
        obtain ⟨j, lot, ws, h1, h2, h3⟩ := few_one (due := due) hg.ok hs
        refine Classical.byContradiction fun hc => hmin' j lot ws (by omega) h2 h3
      ((try (with_reducible refine Sq.nx.mpr ?_)); (try simp only [evS, isOwn, isOwnL, thawS, asB, asI, asDs, toSl, putBack, pbE, outs, wipeE, unwipe, flatD, reduceIte, reduceCtorEq, Nat.reduceAdd, Nat.reduceLT, Nat.reduceLeDiff, evK, hsort]); (repeat ((with_reducible refine Sq.nx.mpr ?_); (try simp only [evS, isOwn, isOwnL, thawS, asB, asI, asDs, toSl, putBack, pbE, outs, wipeE, unwipe, flatD, reduceIte, reduceCtorEq, Nat.reduceAdd, Nat.reduceLT, Nat.reduceLeDiff, evK, hsort]))))
      refine WF.invT (enc := strsD) (fun pre ρ => ∃ a4 a6 a7, ρ = [.val (.tuple (s.map encP)), .val (.tuple (due.map encP)), .val (.tuple (gs.map encG)), .val (.dict ((.bool true, .none) :: lotD K)), a4, .own (.dict ((.bool true, .none) :: lotD (roundL (val due) ns gs K pre))), a6, a7]) ⟨_, _, _, rfl⟩ (fun pre l post ρ hq hP => ?_) (fun ρ hP => ?_)
      · obtain ⟨a4'', a6', a7', rfl⟩ := hP
        have hlK : l ∈ K.map (·.1) := (hmem l).mp (by rw [hq]; simp)
        have hpreK : ∀ l ∈ pre, l ∈ K.map (·.1) := fun l hl => (hmem l).mp (by rw [hq]; simp [hl])
        obtain ⟨us, hus⟩ := lkA_some hlK
        have hr := hK.snd _ (lkA_mem hus)
        have hrl : us.length = k := hr.len
        have hI : RoundI (val due) ns gs k (roundL (val due) ns gs K pre) := (round_out hK pre hpreK (fr := []) ⟨List.nodup_nil, fun p hp => nomatch hp⟩).1
        ((try (with_reducible refine Sq.nx.mpr ?_)); (try simp only [evS, isOwn, isOwnL, thawS, asB, asI, asDs, toSl, putBack, pbE, outs, wipeE, unwipe, flatD, reduceIte, reduceCtorEq, Nat.reduceAdd, Nat.reduceLT, Nat.reduceLeDiff, evK, w_steps hn hd hg (hsub l hlK), nps_steps]); (repeat ((with_reducible refine Sq.nx.mpr ?_); (try simp only [evS, isOwn, isOwnL, thawS, asB, asI, asDs, toSl, putBack, pbE, outs, wipeE, unwipe, flatD, reduceIte, reduceCtorEq, Nat.reduceAdd, Nat.reduceLT, Nat.reduceLeDiff, evK, w_steps hn hd hg (hsub l hlK), nps_steps]))))
        refine WF.invT (enc := encSt) (fun pre2 ρ => ∃ a6 a7, ρ = [.val (.tuple (s.map encP)), .val (.tuple (due.map encP)), .val (.tuple (gs.map encG)), .val (.dict ((.bool true, .none) :: lotD K)), .val (strsD l), .own (.dict ((.bool true, .none) :: lotD (pre2.foldl (fun fr p => putA fr p.2 (us ++ [p.1])) (roundL (val due) ns gs K pre)))), a6, a7]) ⟨_, _, rfl⟩ (fun pre2 p post2 ρ hq2 hP => ?_) (fun ρ hP => ?_)
        · obtain ⟨a6'', a7'', rfl⟩ := hP
          have hI2 := (round_in hr pre2 (fun q hq => by rw [hq2]; simp [hq]) hI).1
          have hI2l := hI2.len h8
          generalize hfr : pre2.foldl (fun fr p => putA fr p.2 (us ++ [p.1])) (roundL (val due) ns gs K pre) = fr at hI2 hI2l
          ((try (with_reducible refine Sq.nx.mpr ?_)); (try simp only [evS, isOwn, isOwnL, thawS, asB, asI, asDs, toSl, putBack, pbE, outs, wipeE, unwipe, flatD, reduceIte, reduceCtorEq, Nat.reduceAdd, Nat.reduceLT, Nat.reduceLeDiff, evK, dIdx_lotD, hus, fAdd_l, nkT_strs, List.length_map]); (repeat ((with_reducible refine Sq.nx.mpr ?_); (try simp only [evS, isOwn, isOwnL, thawS, asB, asI, asDs, toSl, putBack, pbE, outs, wipeE, unwipe, flatD, reduceIte, reduceCtorEq, Nat.reduceAdd, Nat.reduceLT, Nat.reduceLeDiff, evK, dIdx_lotD, hus, fAdd_l, nkT_strs, List.length_map]))))
          refine ⟨by omega, by omega, ?_⟩
          have ep : putN (lotD fr) (strsD p.2) (keyS p.2) (.list (us.map encW ++ [encW p.1])) = lotD (putA fr p.2 (us ++ [p.1])) := by
            rw [← put_lotD, wordsD, List.map_append]
            rfl
          rw [ep, List.foldl_append, hfr]
          exact ⟨_, _, rfl⟩
        · obtain ⟨a6'', a7'', rfl⟩ := hP
          have e1 : roundL (val due) ns gs K (pre ++ [l]) = (stepsL (val due) ns gs l).foldl (fun fr p => putA fr p.2 (us ++ [p.1])) (roundL (val due) ns gs K pre) := by
            unfold roundL
            rw [List.foldl_append, List.foldl_cons, List.foldl_nil, hus]
            rfl
          ((try (with_reducible refine Sq.nx.mpr ?_)); (try simp only [evS, isOwn, isOwnL, thawS, asB, asI, asDs, toSl, putBack, pbE, outs, wipeE, unwipe, flatD, reduceIte, reduceCtorEq, Nat.reduceAdd, Nat.reduceLT, Nat.reduceLeDiff, evK]); (repeat ((with_reducible refine Sq.nx.mpr ?_); (try simp only [evS, isOwn, isOwnL, thawS, asB, asI, asDs, toSl, putBack, pbE, outs, wipeE, unwipe, flatD, reduceIte, reduceCtorEq, Nat.reduceAdd, Nat.reduceLT, Nat.reduceLeDiff, evK]))))
          rw [e1]
          exact ⟨_, _, _, rfl⟩
      · obtain ⟨a4'', a6', a7', rfl⟩ := hP
        ((try (with_reducible refine Sq.nx.mpr ?_)); (try simp only [evS, isOwn, isOwnL, thawS, asB, asI, asDs, toSl, putBack, pbE, outs, wipeE, unwipe, flatD, reduceIte, reduceCtorEq, Nat.reduceAdd, Nat.reduceLT, Nat.reduceLeDiff, evK]); (repeat ((with_reducible refine Sq.nx.mpr ?_); (try simp only [evS, isOwn, isOwnL, thawS, asB, asI, asDs, toSl, putBack, pbE, outs, wipeE, unwipe, flatD, reduceIte, reduceCtorEq, Nat.reduceAdd, Nat.reduceLT, Nat.reduceLeDiff, evK]))))
        exact few_loop hn hs hd hg hQ n (k + 1) _ _ _ _ _ (hK.next (sortLs_perm _)) hmin' hk1 (by omega)
theorem w_fewest_words {ns : List Str} {due s : List Row} {gs : List Grp} {Q : D → List Sl → Prop} (hn : NsOk ns) (hs : s.map (·.1) = ns) (hd : due.map (·.1) = ns) (hg : GW ns gs) (h : ∀ ws, Few ns gs due s ws → Q (.list (ws.map encW)) [.un, .un, .un]) :
    WC p_fewest_words.sem [.val (.tuple (s.map encP)), .val (.tuple (due.map encP)), .val (.tuple (gs.map encG))] Q := by
  rw [run_fewest_words, w_run]
  refine ⟨rfl, ?_⟩
  show WS m_fewest_words [_, _, _, _, _, _, _, _] _
  unfold m_fewest_words
  have e0 : nkT (.tuple []) = some (keyS []) := nkT_strs []
  ((try (with_reducible refine Sq.nx.mpr ?_)); (try simp only [evS, isOwn, isOwnL, thawS, asB, asI, asDs, toSl, putBack, pbE, outs, wipeE, unwipe, flatD, reduceIte, reduceCtorEq, Nat.reduceAdd, Nat.reduceLT, Nat.reduceLeDiff, evK, ww_dispK, e0]); (repeat ((with_reducible refine Sq.nx.mpr ?_); (try simp only [evS, isOwn, isOwnL, thawS, asB, asI, asDs, toSl, putBack, pbE, outs, wipeE, unwipe, flatD, reduceIte, reduceCtorEq, Nat.reduceAdd, Nat.reduceLT, Nat.reduceLeDiff, evK, ww_dispK, e0]))))
  have h8 := hn.le8
  refine few_loop hn hs hd hg (fun ws ρ hf hρ => ?_) 60 0 [([], [])] _ _ _ _ .zero (fun j lot ws hj => absurd hj (Nat.not_lt_zero j)) (Nat.zero_le _) (by omega)
  obtain ⟨a3, a4, a5, a6, a7, rfl⟩ := hρ
  ((try (with_reducible refine Sq.nx.mpr ?_)); (try simp only [evS, isOwn, isOwnL, thawS, asB, asI, asDs, toSl, putBack, pbE, outs, wipeE, unwipe, flatD, reduceIte, reduceCtorEq, Nat.reduceAdd, Nat.reduceLT, Nat.reduceLeDiff, evK]); (repeat ((with_reducible refine Sq.nx.mpr ?_); (try simp only [evS, isOwn, isOwnL, thawS, asB, asI, asDs, toSl, putBack, pbE, outs, wipeE, unwipe, flatD, reduceIte, reduceCtorEq, Nat.reduceAdd, Nat.reduceLT, Nat.reduceLeDiff, evK]))))
  exact h ws hf

end Law
end FL
end L2

namespace L2
namespace FL
namespace Law
open PySem
theorem w__law_draw {t : D} {m : Int} {Q : D → List Sl → Prop} (ht : Tape t) (h0 : 0 < m) (hm : m < 2 ^ 64)
    (h : ∀ t' n, Tape t' → 0 ≤ n → n < m → Q (.int n) [.own t', .un]) : WC p__law_draw.sem [.own t, .val (.int m)] Q := by
  obtain ⟨ns, c, v, rfl, hc, hv⟩ := ht
  rw [run__law_draw, w_run]
  refine ⟨rfl, ?_⟩
  show WS m__law_draw [_, _, .un, .un, .un] _
  have leaf : ∀ X c' : Int, 0 ≤ X → 0 ≤ c' → Q (.int (X % m)) [.own (.list [.list (ns.map .int), .int c', .int (X / m)]), .un] := fun X c' hX hc' =>
    h _ _ ⟨ns, c', X / m, rfl, hc', Int.ediv_nonneg hX (by omega)⟩ (Int.emod_nonneg _ (by omega)) (Int.emod_lt_of_pos _ h0)
  have hm9 : 0 < m ∧ m.natAbs.log2 < 9000 := ⟨h0, by
    have : m.natAbs < 2 ^ 64 := by omega
    exact Nat.lt_of_lt_of_le (PySem.Flt.log2_lt_of (by decide) this) (by decide)⟩
  have p61 : (0 : Int) < 2305843009213693951 := by decide
  have bnd : ∀ x : Int, (x % 2305843009213693951).natAbs < 2 ^ 64 := fun x => by
    have h1 := Int.emod_nonneg x (show (2305843009213693951 : Int) ≠ 0 by decide)
    have h2 := Int.emod_lt_of_pos x p61
    omega
  have pos : ∀ x : Int, 0 ≤ x % 2305843009213693951 := fun x => Int.emod_nonneg x (by decide)
  unfold m__law_draw
  simp only [evS, Sq.nx, isOwn, isOwnL, thawS, asB, asI, asDs, toSl, putBack, pbE, outs, wipeE, unwipe, flatD, reduceIte, reduceCtorEq, Nat.reduceAdd, Nat.reduceLT, Nat.reduceLeDiff]
  refine ⟨fun hvm => ⟨fun hl0 => ⟨hl0, ?_⟩, fun hl0 => ⟨fun hcl => ?_, fun hcl => ?_⟩⟩, fun hvm => ?_⟩
  · obtain ⟨z, e⟩ := ints_at (ns := ns) (k := c % ((ns.map PyData.int).length : Int)) (Int.emod_nonneg _ (by omega)) (Int.emod_lt_of_pos _ hl0)
    rw [e]
    simp only [evS, Sq.nx, isOwn, isOwnL, thawS, asB, asI, asDs, toSl, putBack, pbE, outs, wipeE, unwipe, flatD, reduceIte, reduceCtorEq, Nat.reduceAdd, Nat.reduceLT, Nat.reduceLeDiff]
    refine ⟨fun hcl => ?_, fun hcl => ⟨by decide, fun hz => ?_, fun hz => ?_⟩⟩
    · refine ⟨.inl (by decide), p61, .inl (bnd _), .inl (by decide), p61, .inl (bnd _), p61, h0, hm9, ?_⟩
      exact leaf _ _ (pos _) (by omega)
    · refine ⟨.inl (by decide), p61, .inl (bnd _), .inl (by decide), p61, .inl (bnd _), p61, h0, hm9, ?_⟩
      exact leaf _ _ (pos _) (by omega)
    · refine ⟨h0, hm9, ?_⟩
      refine leaf _ _ ?_ (by omega)
      have : (0 : Int) ≤ 10 ^ Int.toNat 18 := by decide
      omega
  · refine ⟨.inl (by decide), p61, .inl (bnd _), .inl (by decide), p61, .inl (bnd _), p61, h0, hm9, ?_⟩
    exact leaf _ _ (pos _) (by omega)
  · omega
  · exact ⟨h0, hm9, leaf _ _ hv hc⟩


theorem w__law_lamps {t : D} {m : Int} {Q : D → List Sl → Prop} (ht : Tape t) (h0 : 0 < m) (hm : m ≤ 8)
    (h : ∀ t' L, Tape t' → LampsD m L → Q (.tuple L) [.own t', .un]) : WC p__law_lamps.sem [.own t, .val (.int m)] Q := by
  rw [run__law_lamps, w_run]
  refine ⟨rfl, ?_⟩
  show WS m__law_lamps [_, _, _, _] _
  unfold m__law_lamps
  simp only [evS, Sq.nx, isOwn, isOwnL, thawS, asB, asI, asDs, toSl, putBack, pbE, outs, wipeE, unwipe, flatD, reduceIte, reduceCtorEq, Nat.reduceAdd, Nat.reduceLT, Nat.reduceLeDiff, w__law_draw, nps__law_draw]
  refine w__law_draw ht h0 (by omega) fun t1 n ht1 hn0 hn1 => ?_
  simp only [evS, Sq.nx, isOwn, isOwnL, thawS, asB, asI, asDs, toSl, putBack, pbE, outs, wipeE, unwipe, flatD, reduceIte, reduceCtorEq, Nat.reduceAdd, Nat.reduceLT, Nat.reduceLeDiff, cut_take (show 0 ≤ 1 + n by omega)]
  refine WLc.inv (fun pre post ys ρ => ∃ t, ρ = [.own t, .val (.int m), .val (.list (namesK.take (1 + n).toNat)), .un] ∧ Tape t ∧ ys.map fstD = pre ∧ (pre ++ post = namesK.take (1 + n).toNat) ∧ ∀ r ∈ ys, ∃ x p, r = .tuple [.str x, .int p] ∧ 1 ≤ p ∧ p ≤ 200) ⟨t1, rfl, ht1, rfl, rfl, by simp⟩ (fun pre d post ys ρ hP => ?_) (fun ys ρ hP => ?_)
  · obtain ⟨t2, rfl, ht2, hy, hpp, hr⟩ := hP
    have hd : d ∈ namesK := List.mem_of_mem_take (by rw [← hpp]; simp)
    obtain ⟨x, rfl⟩ : ∃ x, d = .str x := by
      simp only [namesK, List.mem_cons, List.not_mem_nil, or_false] at hd
      rcases hd with rfl | rfl | rfl | rfl | rfl | rfl | rfl | rfl <;> exact ⟨_, rfl⟩
    simp only [evS, Sq.nx, isOwn, isOwnL, thawS, asB, asI, asDs, toSl, putBack, pbE, outs, wipeE, unwipe, flatD, reduceIte, reduceCtorEq, Nat.reduceAdd, Nat.reduceLT, Nat.reduceLeDiff, w__law_draw, nps__law_draw]
    refine w__law_draw ht2 (by decide) (by decide) fun t3 p ht3 hp0 hp1 => ?_
    simp only [evS, Sq.nx, isOwn, isOwnL, thawS, asB, asI, asDs, toSl, putBack, pbE, outs, wipeE, unwipe, flatD, reduceIte, reduceCtorEq, Nat.reduceAdd, Nat.reduceLT, Nat.reduceLeDiff, w__law_draw, nps__law_draw]
    refine w__law_draw ht3 (by decide) (by decide) fun t4 q ht4 hq0 hq1 => ?_
    simp only [evS, Sq.nx, isOwn, isOwnL, thawS, asB, asI, asDs, toSl, putBack, pbE, outs, wipeE, unwipe, flatD, reduceIte, reduceCtorEq, Nat.reduceAdd, Nat.reduceLT, Nat.reduceLeDiff]
    obtain ⟨z, hz, hm⟩ := atI_mem (l := [PyData.int 1, .int 200, .int (1 + p)]) hq0 hq1
    rw [hz]
    simp only [evS, Sq.nx, isOwn, isOwnL, thawS, asB, asI, asDs, toSl, putBack, pbE, outs, wipeE, unwipe, flatD, reduceIte, reduceCtorEq, Nat.reduceAdd, Nat.reduceLT, Nat.reduceLeDiff]
    refine ⟨t4, rfl, ht4, by rw [List.map_append, hy]; rfl, by rw [← hpp]; simp, fun r hr' => ?_⟩
    rcases List.mem_append.mp hr' with h' | h'
    · exact hr r h'
    · obtain rfl := List.mem_singleton.mp h'
      simp only [List.mem_cons, List.not_mem_nil, or_false] at hm
      rcases hm with rfl | rfl | rfl
      · exact ⟨x, 1, rfl, by decide, by decide⟩
      · exact ⟨x, 200, rfl, by decide, by decide⟩
      · exact ⟨x, 1 + p, rfl, by omega, by omega⟩
  · obtain ⟨t2, rfl, ht2, hy, hpp, hr⟩ := hP
    simp only [evS, Sq.nx, isOwn, isOwnL, thawS, asB, asI, asDs, toSl, putBack, pbE, outs, wipeE, unwipe, flatD, reduceIte, reduceCtorEq, Nat.reduceAdd, Nat.reduceLT, Nat.reduceLeDiff]
    exact h t2 ys ht2 ⟨⟨(1 + n).toNat, by omega, by omega, hy⟩, hr⟩
theorem w__law_lampsT {t : D} {m : Int} {Q : D → List Sl → Prop} (ht : Tape t) (h0 : 0 < m) (hm : m ≤ 8)
    (h : ∀ t' L, Tape t' → LmT m L → Q (encS L) [.own t', .un]) : WC p__law_lamps.sem [.own t, .val (.int m)] Q := w__law_lamps ht h0 hm fun t' L h1 h2 => by
  obtain ⟨R, rfl, hR⟩ := h2.typed hm
  exact h t' R h1 hR

theorem w__law_groups {t : D} {mm : Int} {L : List Row} {Q : D → List Sl → Prop} (ht : Tape t) (hL : LmT mm L) (h : ∀ t' (gs : List Grp), Tape t' → GrT L gs → Q (encGs gs) [.own t', .un]) : WC p__law_groups.sem [.own t, .val (encS L)] Q := by
  have hsz : (1000 : Nat) ≤ sizeLine := by decide
  obtain ⟨hl1, hl8⟩ := hL.len
  rw [run__law_groups, w_run]
  refine ⟨rfl, ?_⟩
  show WS m__law_groups [_, _, _, _, _, _, _, _] _
  unfold m__law_groups
  ((try (with_reducible refine Sq.nx.mpr ?_)); (try simp only [evS, isOwn, isOwnL, thawS, asB, asI, asDs, toSl, putBack, pbE, outs, wipeE, unwipe, flatD, reduceIte, reduceCtorEq, Nat.reduceAdd, Nat.reduceLT, Nat.reduceLeDiff, evK, encS]); (repeat ((with_reducible refine Sq.nx.mpr ?_); (try simp only [evS, isOwn, isOwnL, thawS, asB, asI, asDs, toSl, putBack, pbE, outs, wipeE, unwipe, flatD, reduceIte, reduceCtorEq, Nat.reduceAdd, Nat.reduceLT, Nat.reduceLeDiff, evK, encS]))))
  refine WLc.mapT (fun p => .str p.1) (fun p hp => ?_) ?_
  · ((try (with_reducible refine Sq.nx.mpr ?_)); (try simp only [evS, isOwn, isOwnL, thawS, asB, asI, asDs, toSl, putBack, pbE, outs, wipeE, unwipe, flatD, reduceIte, reduceCtorEq, Nat.reduceAdd, Nat.reduceLT, Nat.reduceLeDiff, evK, encP]); (repeat ((with_reducible refine Sq.nx.mpr ?_); (try simp only [evS, isOwn, isOwnL, thawS, asB, asI, asDs, toSl, putBack, pbE, outs, wipeE, unwipe, flatD, reduceIte, reduceCtorEq, Nat.reduceAdd, Nat.reduceLT, Nat.reduceLeDiff, evK, encP]))))
  ((try (with_reducible refine Sq.nx.mpr ?_)); (try simp only [evS, isOwn, isOwnL, thawS, asB, asI, asDs, toSl, putBack, pbE, outs, wipeE, unwipe, flatD, reduceIte, reduceCtorEq, Nat.reduceAdd, Nat.reduceLT, Nat.reduceLeDiff, evK, nps__law_draw]); (repeat ((with_reducible refine Sq.nx.mpr ?_); (try simp only [evS, isOwn, isOwnL, thawS, asB, asI, asDs, toSl, putBack, pbE, outs, wipeE, unwipe, flatD, reduceIte, reduceCtorEq, Nat.reduceAdd, Nat.reduceLT, Nat.reduceLeDiff, evK, nps__law_draw]))))
  refine w__law_draw ht (by decide) (by decide) fun t1 n ht1 n0 n1 => ?_
  ((try (with_reducible refine Sq.nx.mpr ?_)); (try simp only [evS, isOwn, isOwnL, thawS, asB, asI, asDs, toSl, putBack, pbE, outs, wipeE, unwipe, flatD, reduceIte, reduceCtorEq, Nat.reduceAdd, Nat.reduceLT, Nat.reduceLeDiff, evK]); (repeat ((with_reducible refine Sq.nx.mpr ?_); (try simp only [evS, isOwn, isOwnL, thawS, asB, asI, asDs, toSl, putBack, pbE, outs, wipeE, unwipe, flatD, reduceIte, reduceCtorEq, Nat.reduceAdd, Nat.reduceLT, Nat.reduceLeDiff, evK]))))
  refine ⟨by omega, ?_⟩
  rw [rangeD_0]
  refine WF.invT (fun pre ρ => ∃ t gs a4 a5 a6 a7, ρ = [.own t, .val (.tuple (L.map encP)), .own (.dict ((gs : List Grp).map fun g => ((.str g.1 : D), encSs g.2))), .val (.list (L.map fun p => (.str p.1 : D))), a4, a5, a6, a7] ∧ Tape t ∧ gs.map (·.1) = namesG.take pre.length ∧ ∀ g ∈ gs, g.2 ≠ [] ∧ g.2.Sublist (L.map (·.1))) ⟨t1, [], _, _, _, _, rfl, ht1, rfl, by simp⟩ (fun pre d post ρ hq hP => ?_) (fun ρ hP => ?_)
  · obtain ⟨t2, gs, a4, a5, a6, a7, rfl, ht2, h1, h2⟩ := hP
    ((try (with_reducible refine Sq.nx.mpr ?_)); (try simp only [evS, isOwn, isOwnL, thawS, asB, asI, asDs, toSl, putBack, pbE, outs, wipeE, unwipe, flatD, reduceIte, reduceCtorEq, Nat.reduceAdd, Nat.reduceLT, Nat.reduceLeDiff, evK]); (repeat ((with_reducible refine Sq.nx.mpr ?_); (try simp only [evS, isOwn, isOwnL, thawS, asB, asI, asDs, toSl, putBack, pbE, outs, wipeE, unwipe, flatD, reduceIte, reduceCtorEq, Nat.reduceAdd, Nat.reduceLT, Nat.reduceLeDiff, evK]))))
    refine WLc.invF (fun pre ys ρ => ∃ t xs, ρ = [.own t, .val (.tuple (L.map encP)), .own (.dict ((gs : List Grp).map fun g => ((.str g.1 : D), encSs g.2))), .val (.list (L.map fun p => (.str p.1 : D))), .val (.int d), a5, .un, a7] ∧ Tape t ∧ ys = xs.map (fun x : Str => (.str x : D)) ∧ xs.Sublist (pre.map fun p : Row => p.1)) ⟨t2, [], rfl, ht2, rfl, by simp⟩ (fun pre a post ys ρ hq hP => ?_) (fun ys ρ hP => ?_)
    · obtain ⟨t3, xs, rfl, ht3, rfl, hs⟩ := hP
      ((try (with_reducible refine Sq.nx.mpr ?_)); (try simp only [evS, isOwn, isOwnL, thawS, asB, asI, asDs, toSl, putBack, pbE, outs, wipeE, unwipe, flatD, reduceIte, reduceCtorEq, Nat.reduceAdd, Nat.reduceLT, Nat.reduceLeDiff, evK, nps__law_draw]); (repeat ((with_reducible refine Sq.nx.mpr ?_); (try simp only [evS, isOwn, isOwnL, thawS, asB, asI, asDs, toSl, putBack, pbE, outs, wipeE, unwipe, flatD, reduceIte, reduceCtorEq, Nat.reduceAdd, Nat.reduceLT, Nat.reduceLeDiff, evK, nps__law_draw]))))
      refine w__law_draw ht3 (by decide) (by decide) fun t4 q ht4 q0 q1 => ?_
      ((try (with_reducible refine Sq.nx.mpr ?_)); (try simp only [evS, isOwn, isOwnL, thawS, asB, asI, asDs, toSl, putBack, pbE, outs, wipeE, unwipe, flatD, reduceIte, reduceCtorEq, Nat.reduceAdd, Nat.reduceLT, Nat.reduceLeDiff, evK, fEq_i]); (repeat ((with_reducible refine Sq.nx.mpr ?_); (try simp only [evS, isOwn, isOwnL, thawS, asB, asI, asDs, toSl, putBack, pbE, outs, wipeE, unwipe, flatD, reduceIte, reduceCtorEq, Nat.reduceAdd, Nat.reduceLT, Nat.reduceLeDiff, evK, fEq_i]))))
      refine ⟨fun h3 => ⟨t4, xs ++ [a.1], rfl, ht4, by rw [List.map_append]; rfl, ?_⟩, fun h3 => ⟨t4, xs, rfl, ht4, rfl, ?_⟩⟩
      · rw [List.map_append]
        exact hs.append (List.Sublist.refl _)
      · rw [List.map_append]
        exact hs.trans (List.sublist_append_left _ _)
    · obtain ⟨t3, xs, rfl, ht3, rfl, hs⟩ := hP
      have hxl := hs.length_le
      rw [List.length_map] at hxl
      have e : (List.range n.toNat)[pre.length]? = some d := by rw [hq, List.getElem?_append_right (Nat.le_refl _), Nat.sub_self, List.getElem?_cons_zero]
      obtain ⟨h5, h6⟩ := List.getElem?_eq_some_iff.mp e
      rw [List.length_range] at h5
      rw [List.getElem_range] at h6
      obtain ⟨y, hy, hyn⟩ : ∃ y, atI [PyData.str "a", .str "b", .str "cc", .str "hall", .str "ups", .str "z"] (d : Int) = some (.str y) ∧ namesG[pre.length]? = some y := by
        have hlt : pre.length < namesG.length := by show _ < 6; omega
        refine ⟨namesG[pre.length], ?_, List.getElem?_eq_getElem hlt⟩
        rw [show [PyData.str "a", .str "b", .str "cc", .str "hall", .str "ups", .str "z"] = namesG.map (fun x => (.str x : D)) from rfl, ← h6, atI_lit (by rw [List.length_map]; exact hlt), List.getElem?_map, List.getElem?_eq_getElem hlt]
        rfl
      have hnot : y ∉ gs.map (·.1) := by
        rw [h1]
        have h7 := namesG_nd.sublist (List.take_sublist (pre.length + 1) namesG)
        rw [List.take_succ, hyn] at h7
        intro h8
        exact (List.nodup_append.mp h7).2.2 y h8 y (by simp) rfl
      have hgl : gs.length = pre.length := by
        have := congrArg List.length h1
        rw [List.length_map, List.length_take] at this
        have h9 : namesG.length = 6 := rfl
        omega
      have hnew : ∀ l : List Str, (gs ++ [(y, l)]).map (·.1) = namesG.take (pre ++ [d]).length := fun l => by
        rw [List.map_append, h1, List.length_append, List.length_singleton, List.take_succ, hyn]
        rfl
      have hput : ∀ l : List Str, putD (gs.map fun g => ((.str g.1 : D), encSs g.2)) (.inr y) (encSs l) = (gs ++ [(y, l)]).map fun g => ((.str g.1 : D), encSs g.2) := fun l => by
        rw [putD_new encSs hnot, List.map_append]
        rfl
      obtain ⟨p0, hp0, hat⟩ : ∃ p0 ∈ L, atI (L.map fun p => (.str p.1 : D)) 0 = some (.str p0.1) := by
        cases L with
        | nil => simp at hl1
        | cons p0 L => exact ⟨p0, by simp, by show atI _ ((0 : Nat) : Int) = _; rw [atI_lit (by simp)]; rfl⟩
      have hsl : (gs.map fun g => ((.str g.1 : D), encSs g.2)).length < sizeLine := by rw [List.length_map]; omega
      cases xs with
      | nil =>
        ((try (with_reducible refine Sq.nx.mpr ?_)); (try simp only [evS, isOwn, isOwnL, thawS, asB, asI, asDs, toSl, putBack, pbE, outs, wipeE, unwipe, flatD, reduceIte, reduceCtorEq, Nat.reduceAdd, Nat.reduceLT, Nat.reduceLeDiff, evK, fNe_nn, hy, okK_gen, hat]); (repeat ((with_reducible refine Sq.nx.mpr ?_); (try simp only [evS, isOwn, isOwnL, thawS, asB, asI, asDs, toSl, putBack, pbE, outs, wipeE, unwipe, flatD, reduceIte, reduceCtorEq, Nat.reduceAdd, Nat.reduceLT, Nat.reduceLeDiff, evK, fNe_nn, hy, okK_gen, hat]))))
        refine ⟨hsl, t3, gs ++ [(y, [p0.1])], _, _, _, _, by rw [← hput]; rfl, ht3, hnew _, fun g hg => ?_⟩
        rcases List.mem_append.mp hg with hg | hg
        · exact h2 g hg
        · obtain rfl := List.mem_singleton.mp hg
          exact ⟨List.cons_ne_nil _ _, List.singleton_sublist.mpr (List.mem_map_of_mem hp0)⟩
      | cons x xs =>
        have hne : fNe (.list (.str x :: xs.map fun x => (.str x : D))) (.list []) = some (.bool true) := fNe_nil (strs_th (l := x :: xs) (by omega) (fun z hz => by
          obtain ⟨p, hp, rfl⟩ := List.mem_map.mp (hs.subset hz)
          exact hL.ok.tx p hp)) (by decide)
        ((try (with_reducible refine Sq.nx.mpr ?_)); (try simp only [evS, isOwn, isOwnL, thawS, asB, asI, asDs, toSl, putBack, pbE, outs, wipeE, unwipe, flatD, reduceIte, reduceCtorEq, Nat.reduceAdd, Nat.reduceLT, Nat.reduceLeDiff, evK, hne, hy, okK_gen]); (repeat ((with_reducible refine Sq.nx.mpr ?_); (try simp only [evS, isOwn, isOwnL, thawS, asB, asI, asDs, toSl, putBack, pbE, outs, wipeE, unwipe, flatD, reduceIte, reduceCtorEq, Nat.reduceAdd, Nat.reduceLT, Nat.reduceLeDiff, evK, hne, hy, okK_gen]))))
        refine ⟨hsl, t3, gs ++ [(y, x :: xs)], _, _, _, _, by rw [← hput]; rfl, ht3, hnew _, fun g hg => ?_⟩
        rcases List.mem_append.mp hg with hg | hg
        · exact h2 g hg
        · obtain rfl := List.mem_singleton.mp hg
          exact ⟨List.cons_ne_nil _ _, hs⟩
  · obtain ⟨t2, gs, a4, a5, a6, a7, rfl, ht2, h1, h2⟩ := hP
    have hG : GrT L gs := ⟨⟨_, by rw [List.length_range]; omega, h1⟩, h2⟩
    have hgl := hG.len
    have hh := h t2 gs ht2 hG
    have hso : sortSt (gs.map (·.1)) = gs.map (·.1) := List.mergeSort_of_pairwise (by rw [h1]; exact namesG_pw.sublist (List.take_sublist _ _))
    have hds : dSorted (.dict (gs.map fun g => ((.str g.1 : D), encSs g.2))) = some (gs.map fun g => (.str g.1 : D)) := by
      rw [dSorted_gen encSs (s := gs) (by omega), hso, List.map_map]
      rfl
    ((try (with_reducible refine Sq.nx.mpr ?_)); (try simp only [evS, isOwn, isOwnL, thawS, asB, asI, asDs, toSl, putBack, pbE, outs, wipeE, unwipe, flatD, reduceIte, reduceCtorEq, Nat.reduceAdd, Nat.reduceLT, Nat.reduceLeDiff, evK, hds]); (repeat ((with_reducible refine Sq.nx.mpr ?_); (try simp only [evS, isOwn, isOwnL, thawS, asB, asI, asDs, toSl, putBack, pbE, outs, wipeE, unwipe, flatD, reduceIte, reduceCtorEq, Nat.reduceAdd, Nat.reduceLT, Nat.reduceLeDiff, evK, hds]))))
    have hnd : (gs.map (·.1)).Nodup := (hG.ok hL).nd
    refine ⟨List.all_eq_true.mpr fun d hd => ?_, WLc.mapT encG (fun g hg => ?_) ?_⟩
    · obtain ⟨g, hg, rfl⟩ := List.mem_map.mp hd
      rfl
    · have hlk : lookK (gs.map fun g => ((.str g.1 : D), encSs g.2)) (.inr g.1) = some (encSs g.2) := by
        rw [lookK_gen, lkG_mem hg hnd]
        rfl
      ((try (with_reducible refine Sq.nx.mpr ?_)); (try simp only [evS, isOwn, isOwnL, thawS, asB, asI, asDs, toSl, putBack, pbE, outs, wipeE, unwipe, flatD, reduceIte, reduceCtorEq, Nat.reduceAdd, Nat.reduceLT, Nat.reduceLeDiff, evK, okK_gen, hlk]); (repeat ((with_reducible refine Sq.nx.mpr ?_); (try simp only [evS, isOwn, isOwnL, thawS, asB, asI, asDs, toSl, putBack, pbE, outs, wipeE, unwipe, flatD, reduceIte, reduceCtorEq, Nat.reduceAdd, Nat.reduceLT, Nat.reduceLeDiff, evK, okK_gen, hlk]))))
      rfl
    · ((try (with_reducible refine Sq.nx.mpr ?_)); (try simp only [evS, isOwn, isOwnL, thawS, asB, asI, asDs, toSl, putBack, pbE, outs, wipeE, unwipe, flatD, reduceIte, reduceCtorEq, Nat.reduceAdd, Nat.reduceLT, Nat.reduceLeDiff, evK]); (repeat ((with_reducible refine Sq.nx.mpr ?_); (try simp only [evS, isOwn, isOwnL, thawS, asB, asI, asDs, toSl, putBack, pbE, outs, wipeE, unwipe, flatD, reduceIte, reduceCtorEq, Nat.reduceAdd, Nat.reduceLT, Nat.reduceLeDiff, evK]))))
      exact hh

theorem w__law_told_by {ns : List Str} {gs : List Grp} {w : Wd} {Q : D → List Sl → Prop} (hw : WdOk ns gs w) (hn : (gs.map (·.1)).Nodup) : WC p__law_told_by.sem [.val (.list (ns.map fun x => (.str x : D))), .val (.tuple (gs.map encG)), .val (encW w)] Q ↔ Q (.list ((memW ns gs w.1).map fun x => (.str x : D))) [.un, .un, .un] := by
  refine WC.iff_of ?_
  rw [run__law_told_by, w_run]
  refine ⟨rfl, ?_⟩
  show WS m__law_told_by [_, _, _] _
  unfold m__law_told_by
  obtain ⟨e1, e2, e3, e4, e5⟩ := fEqW
  obtain ⟨h, v⟩ := w
  rcases hw with h | ⟨x, hx, h⟩ | ⟨g, h1, h⟩ <;> (have h : _ = _ := h; dsimp only at h; subst h)
  · ((try (with_reducible refine Sq.nx.mpr ?_)); (try simp only [evS, isOwn, isOwnL, thawS, asB, asI, asDs, toSl, putBack, pbE, outs, wipeE, unwipe, flatD, reduceIte, reduceCtorEq, Nat.reduceAdd, Nat.reduceLT, Nat.reduceLeDiff, evK, encW, memW_all, e1]); (repeat ((with_reducible refine Sq.nx.mpr ?_); (try simp only [evS, isOwn, isOwnL, thawS, asB, asI, asDs, toSl, putBack, pbE, outs, wipeE, unwipe, flatD, reduceIte, reduceCtorEq, Nat.reduceAdd, Nat.reduceLT, Nat.reduceLeDiff, evK, encW, memW_all, e1]))))
  · ((try (with_reducible refine Sq.nx.mpr ?_)); (try simp only [evS, isOwn, isOwnL, thawS, asB, asI, asDs, toSl, putBack, pbE, outs, wipeE, unwipe, flatD, reduceIte, reduceCtorEq, Nat.reduceAdd, Nat.reduceLT, Nat.reduceLeDiff, evK, encW, memW_lamp, e2, e4]); (repeat ((with_reducible refine Sq.nx.mpr ?_); (try simp only [evS, isOwn, isOwnL, thawS, asB, asI, asDs, toSl, putBack, pbE, outs, wipeE, unwipe, flatD, reduceIte, reduceCtorEq, Nat.reduceAdd, Nat.reduceLT, Nat.reduceLeDiff, evK, encW, memW_lamp, e2, e4]))))
  · ((try (with_reducible refine Sq.nx.mpr ?_)); (try simp only [evS, isOwn, isOwnL, thawS, asB, asI, asDs, toSl, putBack, pbE, outs, wipeE, unwipe, flatD, reduceIte, reduceCtorEq, Nat.reduceAdd, Nat.reduceLT, Nat.reduceLeDiff, evK, encW, memW_group h1 hn, e3, e5, dDict_grps hn, dIdx_grps, lkG_mem h1 hn]); (repeat ((with_reducible refine Sq.nx.mpr ?_); (try simp only [evS, isOwn, isOwnL, thawS, asB, asI, asDs, toSl, putBack, pbE, outs, wipeE, unwipe, flatD, reduceIte, reduceCtorEq, Nat.reduceAdd, Nat.reduceLT, Nat.reduceLeDiff, evK, encW, memW_group h1 hn, e3, e5, dDict_grps hn, dIdx_grps, lkG_mem h1 hn]))))

theorem w__law_levels {t : D} {ns : List Str} {Q : D → List Sl → Prop} (ht : Tape t) (h : ∀ t' s, Tape t' → HdT ns s → Q (.tuple (s.map encP)) [.own t', .un]) : WC p__law_levels.sem [.own t, .val (.list (ns.map fun x => (.str x : D)))] Q := by
  rw [run__law_levels, w_run]
  refine ⟨rfl, ?_⟩
  show WS m__law_levels [_, _, _] _
  unfold m__law_levels
  ((try (with_reducible refine Sq.nx.mpr ?_)); (try simp only [evS, isOwn, isOwnL, thawS, asB, asI, asDs, toSl, putBack, pbE, outs, wipeE, unwipe, flatD, reduceIte, reduceCtorEq, Nat.reduceAdd, Nat.reduceLT, Nat.reduceLeDiff, evK]); (repeat ((with_reducible refine Sq.nx.mpr ?_); (try simp only [evS, isOwn, isOwnL, thawS, asB, asI, asDs, toSl, putBack, pbE, outs, wipeE, unwipe, flatD, reduceIte, reduceCtorEq, Nat.reduceAdd, Nat.reduceLT, Nat.reduceLeDiff, evK]))))
  refine WLc.invT (fun pre ys ρ => ∃ t s, ρ = [.own t, .val (.list (ns.map fun x => (.str x : D))), .un] ∧ Tape t ∧ ys = s.map encP ∧ HdT pre s) ⟨t, [], rfl, ht, rfl, rfl, by simp⟩ (fun pre x post ys ρ hq hP => ?_) (fun ys ρ hP => ?_)
  · obtain ⟨t1, s, rfl, ht1, rfl, hd⟩ := hP
    ((try (with_reducible refine Sq.nx.mpr ?_)); (try simp only [evS, isOwn, isOwnL, thawS, asB, asI, asDs, toSl, putBack, pbE, outs, wipeE, unwipe, flatD, reduceIte, reduceCtorEq, Nat.reduceAdd, Nat.reduceLT, Nat.reduceLeDiff, evK, nps__law_draw]); (repeat ((with_reducible refine Sq.nx.mpr ?_); (try simp only [evS, isOwn, isOwnL, thawS, asB, asI, asDs, toSl, putBack, pbE, outs, wipeE, unwipe, flatD, reduceIte, reduceCtorEq, Nat.reduceAdd, Nat.reduceLT, Nat.reduceLeDiff, evK, nps__law_draw]))))
    refine w__law_draw ht1 (by decide) (by decide) fun t2 n ht2 hn0 hn1 => ?_
    ((try (with_reducible refine Sq.nx.mpr ?_)); (try simp only [evS, isOwn, isOwnL, thawS, asB, asI, asDs, toSl, putBack, pbE, outs, wipeE, unwipe, flatD, reduceIte, reduceCtorEq, Nat.reduceAdd, Nat.reduceLT, Nat.reduceLeDiff, evK]); (repeat ((with_reducible refine Sq.nx.mpr ?_); (try simp only [evS, isOwn, isOwnL, thawS, asB, asI, asDs, toSl, putBack, pbE, outs, wipeE, unwipe, flatD, reduceIte, reduceCtorEq, Nat.reduceAdd, Nat.reduceLT, Nat.reduceLeDiff, evK]))))
    obtain ⟨z, hz, hm⟩ := atI_mem (l := [PyData.int 0, .int 50, .int 50, .int 100]) hn0 hn1
    rw [hz]
    ((try (with_reducible refine Sq.nx.mpr ?_)); (try simp only [evS, isOwn, isOwnL, thawS, asB, asI, asDs, toSl, putBack, pbE, outs, wipeE, unwipe, flatD, reduceIte, reduceCtorEq, Nat.reduceAdd, Nat.reduceLT, Nat.reduceLeDiff, evK]); (repeat ((with_reducible refine Sq.nx.mpr ?_); (try simp only [evS, isOwn, isOwnL, thawS, asB, asI, asDs, toSl, putBack, pbE, outs, wipeE, unwipe, flatD, reduceIte, reduceCtorEq, Nat.reduceAdd, Nat.reduceLT, Nat.reduceLeDiff, evK]))))
    obtain ⟨v, rfl, hv⟩ : ∃ v, z = .int v ∧ (v = 0 ∨ v = 50 ∨ v = 100) := by
      simp only [List.mem_cons, List.not_mem_nil, or_false] at hm
      rcases hm with rfl | rfl | rfl | rfl
      · exact ⟨0, rfl, .inl rfl⟩
      · exact ⟨50, rfl, .inr (.inl rfl)⟩
      · exact ⟨50, rfl, .inr (.inl rfl)⟩
      · exact ⟨100, rfl, .inr (.inr rfl)⟩
    refine ⟨t2, s ++ [(x, v)], rfl, ht2, by rw [List.map_append]; rfl, by rw [List.map_append, hd.nm]; rfl, fun p hp => ?_⟩
    rcases List.mem_append.mp hp with hp | hp
    · exact hd.lv p hp
    · obtain rfl := List.mem_singleton.mp hp
      exact hv
  · obtain ⟨t1, s, rfl, ht1, rfl, hd⟩ := hP
    ((try (with_reducible refine Sq.nx.mpr ?_)); (try simp only [evS, isOwn, isOwnL, thawS, asB, asI, asDs, toSl, putBack, pbE, outs, wipeE, unwipe, flatD, reduceIte, reduceCtorEq, Nat.reduceAdd, Nat.reduceLT, Nat.reduceLeDiff, evK]); (repeat ((with_reducible refine Sq.nx.mpr ?_); (try simp only [evS, isOwn, isOwnL, thawS, asB, asI, asDs, toSl, putBack, pbE, outs, wipeE, unwipe, flatD, reduceIte, reduceCtorEq, Nat.reduceAdd, Nat.reduceLT, Nat.reduceLeDiff, evK]))))
    exact h t1 s ht1 hd

theorem w__law_named {ns : List Str} {s : List Row} {Q : D → List Sl → Prop} (hn : ns.Nodup) (h5 : ns.length ≤ 5) (hs : s.map (·.1) = ns) : WC p__law_named.sem [.val (.tuple (s.map encP)), .val (newD ns)] Q ↔ Q (.tuple ((renR (renOf ns) s).map encP)) [.un, .un] := by
  refine WC.iff_of ?_
  rw [run__law_named, w_run]
  refine ⟨rfl, ?_⟩
  show WS m__law_named [_, _, _, _] _
  unfold m__law_named
  ((try (with_reducible refine Sq.nx.mpr ?_)); (try simp only [evS, isOwn, isOwnL, thawS, asB, asI, asDs, toSl, putBack, pbE, outs, wipeE, unwipe, flatD, reduceIte, reduceCtorEq, Nat.reduceAdd, Nat.reduceLT, Nat.reduceLeDiff, evK]); (repeat ((with_reducible refine Sq.nx.mpr ?_); (try simp only [evS, isOwn, isOwnL, thawS, asB, asI, asDs, toSl, putBack, pbE, outs, wipeE, unwipe, flatD, reduceIte, reduceCtorEq, Nat.reduceAdd, Nat.reduceLT, Nat.reduceLeDiff, evK]))))
  refine WLc.mapT (fun p => encP (renOf ns p.1, p.2)) (fun p hp => ?_) ?_
  · have hx : p.1 ∈ ns := by rw [← hs]; exact List.mem_map_of_mem (f := fun p : Row => p.1) hp
    ((try (with_reducible refine Sq.nx.mpr ?_)); (try simp only [evS, isOwn, isOwnL, thawS, asB, asI, asDs, toSl, putBack, pbE, outs, wipeE, unwipe, flatD, reduceIte, reduceCtorEq, Nat.reduceAdd, Nat.reduceLT, Nat.reduceLeDiff, evK, encP, dIdx_new hn h5 hx]); (repeat ((with_reducible refine Sq.nx.mpr ?_); (try simp only [evS, isOwn, isOwnL, thawS, asB, asI, asDs, toSl, putBack, pbE, outs, wipeE, unwipe, flatD, reduceIte, reduceCtorEq, Nat.reduceAdd, Nat.reduceLT, Nat.reduceLeDiff, evK, encP, dIdx_new hn h5 hx]))))
  · ((try (with_reducible refine Sq.nx.mpr ?_)); (try simp only [evS, isOwn, isOwnL, thawS, asB, asI, asDs, toSl, putBack, pbE, outs, wipeE, unwipe, flatD, reduceIte, reduceCtorEq, Nat.reduceAdd, Nat.reduceLT, Nat.reduceLeDiff, evK]); (repeat ((with_reducible refine Sq.nx.mpr ?_); (try simp only [evS, isOwn, isOwnL, thawS, asB, asI, asDs, toSl, putBack, pbE, outs, wipeE, unwipe, flatD, reduceIte, reduceCtorEq, Nat.reduceAdd, Nat.reduceLT, Nat.reduceLeDiff, evK]))))
    unfold renR
    rw [List.map_map]
    rfl

end Law
end FL
end L2

namespace L2
namespace FL
namespace Law
open PySem
theorem law_true (ns : List Int) (hl : ns.length ≤ 63) : ∃ os, p_law.sem [.val (scrD ns)] = some (.bool true, os) := by
  refine WC.ex ?_
  rw [run_law, w_run]
  refine ⟨rfl, ?_⟩
  show WS m_law [_, _, _, _, _, _, _, _, _, _, _, _, _, _, _, _, _, _, _, _, _] _
  unfold m_law
  have hsz : (3000 : Nat) ≤ sizeLine := by decide
  ((try (with_reducible refine Sq.nx.mpr ?_)); (try simp only [evS, isOwn, isOwnL, thawS, asB, asI, asDs, toSl, putBack, pbE, outs, wipeE, unwipe, flatD, reduceIte, reduceCtorEq, Nat.reduceAdd, Nat.reduceLT, Nat.reduceLeDiff, evK, scrD]); (repeat ((with_reducible refine Sq.nx.mpr ?_); (try simp only [evS, isOwn, isOwnL, thawS, asB, asI, asDs, toSl, putBack, pbE, outs, wipeE, unwipe, flatD, reduceIte, reduceCtorEq, Nat.reduceAdd, Nat.reduceLT, Nat.reduceLeDiff, evK, scrD]))))
  refine ⟨by decide, ?_⟩
  rw [rangeD_0]
  refine WF.invT (fun _ ρ => ∃ t a2 a3 a4 a5 a6 a7 a8 a9 a10 a11 a12 a13 a14 a15 a16 a17 a18 a19 a20, ρ = [.val (scrD ns), .own t, a2, a3, a4, a5, a6, a7, a8, a9, a10, a11, a12, a13, a14, a15, a16, a17, a18, a19, a20] ∧ Tape t) ⟨_, _, _, _, _, _, _, _, _, _, _, _, _, _, _, _, _, _, _, _, rfl, ns, 0, 0, rfl, by decide, by decide⟩ (fun pre d post ρ hq hP => ?_) (fun ρ hP => ?_)
  · obtain ⟨t, a2, a3, a4, a5, a6, a7, a8, a9, a10, a11, a12, a13, a14, a15, a16, a17, a18, a19, a20, rfl, ht⟩ := hP
    ((try (with_reducible refine Sq.nx.mpr ?_)); (try simp only [evS, isOwn, isOwnL, thawS, asB, asI, asDs, toSl, putBack, pbE, outs, wipeE, unwipe, flatD, reduceIte, reduceCtorEq, Nat.reduceAdd, Nat.reduceLT, Nat.reduceLeDiff, evK]); (repeat ((with_reducible refine Sq.nx.mpr ?_); (try simp only [evS, isOwn, isOwnL, thawS, asB, asI, asDs, toSl, putBack, pbE, outs, wipeE, unwipe, flatD, reduceIte, reduceCtorEq, Nat.reduceAdd, Nat.reduceLT, Nat.reduceLeDiff, evK]))))
    refine w__law_lampsT ht (by decide) (by decide) fun t1 L ht1 hL => ?_
    ((try (with_reducible refine Sq.nx.mpr ?_)); (try simp only [evS, isOwn, isOwnL, thawS, asB, asI, asDs, toSl, putBack, pbE, outs, wipeE, unwipe, flatD, reduceIte, reduceCtorEq, Nat.reduceAdd, Nat.reduceLT, Nat.reduceLeDiff, evK]); (repeat ((with_reducible refine Sq.nx.mpr ?_); (try simp only [evS, isOwn, isOwnL, thawS, asB, asI, asDs, toSl, putBack, pbE, outs, wipeE, unwipe, flatD, reduceIte, reduceCtorEq, Nat.reduceAdd, Nat.reduceLT, Nat.reduceLeDiff, evK]))))
    refine w__law_groups ht1 hL fun t2 gs ht2 hG => ?_
    have hn := hL.nsOk
    have hg := hG.gw hL
    ((try (with_reducible refine Sq.nx.mpr ?_)); (try simp only [evS, isOwn, isOwnL, thawS, asB, asI, asDs, toSl, putBack, pbE, outs, wipeE, unwipe, flatD, reduceIte, reduceCtorEq, Nat.reduceAdd, Nat.reduceLT, Nat.reduceLeDiff, evK, encGs, encS]); (repeat ((with_reducible refine Sq.nx.mpr ?_); (try simp only [evS, isOwn, isOwnL, thawS, asB, asI, asDs, toSl, putBack, pbE, outs, wipeE, unwipe, flatD, reduceIte, reduceCtorEq, Nat.reduceAdd, Nat.reduceLT, Nat.reduceLeDiff, evK, encGs, encS]))))
    refine WLc.mapT (fun p => .str p.1) (fun p hp => ?_) ?_
    · ((try (with_reducible refine Sq.nx.mpr ?_)); (try simp only [evS, isOwn, isOwnL, thawS, asB, asI, asDs, toSl, putBack, pbE, outs, wipeE, unwipe, flatD, reduceIte, reduceCtorEq, Nat.reduceAdd, Nat.reduceLT, Nat.reduceLeDiff, evK, encP]); (repeat ((with_reducible refine Sq.nx.mpr ?_); (try simp only [evS, isOwn, isOwnL, thawS, asB, asI, asDs, toSl, putBack, pbE, outs, wipeE, unwipe, flatD, reduceIte, reduceCtorEq, Nat.reduceAdd, Nat.reduceLT, Nat.reduceLeDiff, evK, encP]))))
    rw [show (L.map fun p => (.str p.1 : D)) = (L.map (·.1)).map fun x => (.str x : D) from nmD_eq L]
    have h5 : (L.map (·.1)).length ≤ 5 := by
      obtain ⟨k, _, h1, _, h2⟩ := hL.nm
      rw [h2, List.length_take]
      omega
    generalize hN : L.map (·.1) = N at hn hg h5
    ((try (with_reducible refine Sq.nx.mpr ?_)); (try simp only [evS, isOwn, isOwnL, thawS, asB, asI, asDs, toSl, putBack, pbE, outs, wipeE, unwipe, flatD, reduceIte, reduceCtorEq, Nat.reduceAdd, Nat.reduceLT, Nat.reduceLeDiff, evK, rangeD_0]); (repeat ((with_reducible refine Sq.nx.mpr ?_); (try simp only [evS, isOwn, isOwnL, thawS, asB, asI, asDs, toSl, putBack, pbE, outs, wipeE, unwipe, flatD, reduceIte, reduceCtorEq, Nat.reduceAdd, Nat.reduceLT, Nat.reduceLeDiff, evK, rangeD_0]))))
    refine ⟨by decide, ?_⟩
    refine WLc.invT (fun pre ys ρ => ∃ t, ∃ ss : List (List Row), ρ = [.val (scrD ns), .own t, .val (.int (d : Int)), .val (.tuple (L.map encP)), .val (.tuple (gs.map encG)), .val (.list (N.map fun x => (.str x : D))), a6, a7, a8, a9, a10, a11, a12, a13, a14, a15, .un, a17, a18, a19, a20] ∧ Tape t ∧ ss.length = pre.length ∧ ys = ss.map (fun s => .tuple (s.map encP)) ∧ ∀ s ∈ ss, HdT N s) ⟨t2, [], rfl, ht2, rfl, rfl, by simp⟩ (fun pre x post ys ρ hq hP => ?_) (fun ys ρ hP => ?_)
    · obtain ⟨t1, ss, rfl, ht1, hlen, rfl, hss⟩ := hP
      ((try (with_reducible refine Sq.nx.mpr ?_)); (try simp only [evS, isOwn, isOwnL, thawS, asB, asI, asDs, toSl, putBack, pbE, outs, wipeE, unwipe, flatD, reduceIte, reduceCtorEq, Nat.reduceAdd, Nat.reduceLT, Nat.reduceLeDiff, evK]); (repeat ((with_reducible refine Sq.nx.mpr ?_); (try simp only [evS, isOwn, isOwnL, thawS, asB, asI, asDs, toSl, putBack, pbE, outs, wipeE, unwipe, flatD, reduceIte, reduceCtorEq, Nat.reduceAdd, Nat.reduceLT, Nat.reduceLeDiff, evK]))))
      refine w__law_levels ht1 fun t3 s ht3 hs => ?_
      ((try (with_reducible refine Sq.nx.mpr ?_)); (try simp only [evS, isOwn, isOwnL, thawS, asB, asI, asDs, toSl, putBack, pbE, outs, wipeE, unwipe, flatD, reduceIte, reduceCtorEq, Nat.reduceAdd, Nat.reduceLT, Nat.reduceLeDiff, evK]); (repeat ((with_reducible refine Sq.nx.mpr ?_); (try simp only [evS, isOwn, isOwnL, thawS, asB, asI, asDs, toSl, putBack, pbE, outs, wipeE, unwipe, flatD, reduceIte, reduceCtorEq, Nat.reduceAdd, Nat.reduceLT, Nat.reduceLeDiff, evK]))))
      refine ⟨_, ss ++ [s], rfl, ht3, by simp [hlen], by rw [List.map_append]; rfl, fun s' h' => ?_⟩
      rcases List.mem_append.mp h' with h' | h'
      · exact hss s' h'
      · rw [List.mem_singleton.mp h']; exact hs
    obtain ⟨t3, ss, rfl, ht3, hlen, rfl, hss⟩ := hP
    obtain ⟨s, b, due, rfl⟩ : ∃ s b due, ss = [s, b, due] := by
      match ss, hlen with
      | [s, b, due], _ => exact ⟨s, b, due, rfl⟩
    have hs := hss s (by simp)
    have hb := hss b (by simp)
    have hd := hss due (by simp)
    have rs := hs.rsOk hn
    have rb := hb.rsOk hn
    have rd' := hd.rsOk hn
    have hdth : Th 1000 2 (.tuple (due.map encP)) := rd'.th
    have e0 : nkT (.tuple []) = some (keyS []) := nkT_strs []
    ((try (with_reducible refine Sq.nx.mpr ?_)); (try simp only [evS, isOwn, isOwnL, thawS, asB, asI, asDs, toSl, putBack, pbE, outs, wipeE, unwipe, flatD, reduceIte, reduceCtorEq, Nat.reduceAdd, Nat.reduceLT, Nat.reduceLeDiff, evK, ww_GLst]); (repeat ((with_reducible refine Sq.nx.mpr ?_); (try simp only [evS, isOwn, isOwnL, thawS, asB, asI, asDs, toSl, putBack, pbE, outs, wipeE, unwipe, flatD, reduceIte, reduceCtorEq, Nat.reduceAdd, Nat.reduceLT, Nat.reduceLeDiff, evK, ww_GLst]))))
    refine w_fewest_words hn hs.nm hd.nm hg fun ws hf => ?_
    ((try (with_reducible refine Sq.nx.mpr ?_)); (try simp only [evS, isOwn, isOwnL, thawS, asB, asI, asDs, toSl, putBack, pbE, outs, wipeE, unwipe, flatD, reduceIte, reduceCtorEq, Nat.reduceAdd, Nat.reduceLT, Nat.reduceLeDiff, evK]); (repeat ((with_reducible refine Sq.nx.mpr ?_); (try simp only [evS, isOwn, isOwnL, thawS, asB, asI, asDs, toSl, putBack, pbE, outs, wipeE, unwipe, flatD, reduceIte, reduceCtorEq, Nat.reduceAdd, Nat.reduceLT, Nat.reduceLeDiff, evK]))))
    refine w_fewest_words hn hs.nm hb.nm hg fun w0 hf0 => ?_
    ((try (with_reducible refine Sq.nx.mpr ?_)); (try simp only [evS, isOwn, isOwnL, thawS, asB, asI, asDs, toSl, putBack, pbE, outs, wipeE, unwipe, flatD, reduceIte, reduceCtorEq, Nat.reduceAdd, Nat.reduceLT, Nat.reduceLeDiff, evK]); (repeat ((with_reducible refine Sq.nx.mpr ?_); (try simp only [evS, isOwn, isOwnL, thawS, asB, asI, asDs, toSl, putBack, pbE, outs, wipeE, unwipe, flatD, reduceIte, reduceCtorEq, Nat.reduceAdd, Nat.reduceLT, Nat.reduceLeDiff, evK]))))
    refine w_fewest_words hn hb.nm hd.nm hg fun w1 hf1 => ?_
    have hwl := hf.len hn.nd hd.nm hs.nm
    have hwl0 := hf0.len hn.nd hb.nm hs.nm
    have hwl1 := hf1.len hn.nd hd.nm hb.nm
    have after : ∀ {s : List Row} {us : List Wd} {Q : D → List Sl → Prop}, HdT N s → (∀ w ∈ us, WdOk N gs w) → us.length ≤ 1000 → aft0 N gs us s = due → Q (.tuple (due.map encP)) [.un, .un, .un, .un] → WC p_heard_after.sem [.val (.tuple (s.map encP)), .val (.tuple (gs.map encG)), .val (.list (us.map encW)), .val (.tuple [])] Q := fun {s us Q} hs hu hl h q => by
      refine (w_heard_after (s := s) (gs := gs) (ws := us) (ls := []) (hs.rsOk hn) hg.ok.nd (fun g hg' x hx => by rw [hs.nm]; exact hg.ok.sub g hg' x hx) (fun w hw => by rw [hs.nm]; exact hu w hw) hl (Nat.zero_le _) (fun l hl => nomatch hl)).mpr ?_
      rw [losB_nil, aft0_eq, hs.nm, h]
      exact q
    have ok : ∀ {s b : List Row} {us : List Wd}, Few N gs b s us → ∀ w ∈ us, WdOk N gs w := fun h w hw => (h.ok w hw).1
    have ok2 : ∀ {us vs : List Wd}, (∀ w ∈ us, WdOk N gs w) → (∀ w ∈ vs, WdOk N gs w) → ∀ w ∈ us ++ vs, WdOk N gs w := fun h1 h2 w hw => (List.mem_append.mp hw).elim (h1 w) (h2 w)
    have le2 : ws.length ≤ w0.length + w1.length := by
      have := hf.few (w0 ++ w1) (ok2 (ok hf0) (ok hf1)) (by rw [aft0_app, hf0.heal, hf1.heal])
      rwa [List.length_append] at this
    ((try (with_reducible refine Sq.nx.mpr ?_)); (try simp only [evS, isOwn, isOwnL, thawS, asB, asI, asDs, toSl, putBack, pbE, outs, wipeE, unwipe, flatD, reduceIte, reduceCtorEq, Nat.reduceAdd, Nat.reduceLT, Nat.reduceLeDiff, evK, List.length_map]); (repeat ((with_reducible refine Sq.nx.mpr ?_); (try simp only [evS, isOwn, isOwnL, thawS, asB, asI, asDs, toSl, putBack, pbE, outs, wipeE, unwipe, flatD, reduceIte, reduceCtorEq, Nat.reduceAdd, Nat.reduceLT, Nat.reduceLeDiff, evK, List.length_map]))))
    refine ⟨fun h => absurd h (by omega), fun _ => ⟨by omega, ?_⟩⟩
    rw [← List.map_append]
    refine after hs (ok2 (ok hf0) (ok hf1)) (by rw [List.length_append]; omega) (by rw [aft0_app, hf0.heal, hf1.heal]) ?_
    ((try (with_reducible refine Sq.nx.mpr ?_)); (try simp only [evS, isOwn, isOwnL, thawS, asB, asI, asDs, toSl, putBack, pbE, outs, wipeE, unwipe, flatD, reduceIte, reduceCtorEq, Nat.reduceAdd, Nat.reduceLT, Nat.reduceLeDiff, evK, fNe_refl hdth (by decide), List.length_map]); (repeat ((with_reducible refine Sq.nx.mpr ?_); (try simp only [evS, isOwn, isOwnL, thawS, asB, asI, asDs, toSl, putBack, pbE, outs, wipeE, unwipe, flatD, reduceIte, reduceCtorEq, Nat.reduceAdd, Nat.reduceLT, Nat.reduceLeDiff, evK, fNe_refl hdth (by decide), List.length_map]))))
    refine ⟨by omega, by rw [List.length_append, List.length_map, List.length_map]; omega, ?_⟩
    rw [← List.map_append, ← List.map_append]
    refine after hb (ok2 (ok2 (ok hf) (ok hf0)) (ok hf1)) (by rw [List.length_append, List.length_append]; omega) (heals_three hn.nd hs.nm hb.nm hd.nm hf.heal hf0.heal hf1.heal) ?_
    ((try (with_reducible refine Sq.nx.mpr ?_)); (try simp only [evS, isOwn, isOwnL, thawS, asB, asI, asDs, toSl, putBack, pbE, outs, wipeE, unwipe, flatD, reduceIte, reduceCtorEq, Nat.reduceAdd, Nat.reduceLT, Nat.reduceLeDiff, evK, fNe_refl hdth (by decide), List.length_map]); (repeat ((with_reducible refine Sq.nx.mpr ?_); (try simp only [evS, isOwn, isOwnL, thawS, asB, asI, asDs, toSl, putBack, pbE, outs, wipeE, unwipe, flatD, reduceIte, reduceCtorEq, Nat.reduceAdd, Nat.reduceLT, Nat.reduceLeDiff, evK, fNe_refl hdth (by decide), List.length_map]))))
    refine ⟨by omega, ?_⟩
    rw [← List.map_append]
    refine after hs (ok2 (ok hf) (ok hf)) (by rw [List.length_append]; omega) (heals_two hn.nd hs.nm hd.nm hf.heal) ?_
    have e1 : dCut (.tuple (gs.map encG)) (some 1) none = some (.tuple ((gs.drop 1).map encG)) := by
      rw [dCut_t, rest_cut, ← List.drop_one, List.map_drop]
    have hgd : GW N (gs.drop 1) := ⟨⟨by rw [List.map_drop]; exact hg.ok.nd.sublist (List.drop_sublist _ _), fun g h => hg.ok.sub g (List.mem_of_mem_drop h)⟩, by rw [List.length_drop]; have := hg.len; omega, fun g h => hg.sl g (List.mem_of_mem_drop h)⟩
    have hgn : GW N [] := ⟨⟨List.nodup_nil, fun g h => nomatch h⟩, Nat.zero_le _, fun g h => nomatch h⟩
    ((try (with_reducible refine Sq.nx.mpr ?_)); (try simp only [evS, isOwn, isOwnL, thawS, asB, asI, asDs, toSl, putBack, pbE, outs, wipeE, unwipe, flatD, reduceIte, reduceCtorEq, Nat.reduceAdd, Nat.reduceLT, Nat.reduceLeDiff, evK, fNe_refl hdth (by decide), List.length_map, e1]); (repeat ((with_reducible refine Sq.nx.mpr ?_); (try simp only [evS, isOwn, isOwnL, thawS, asB, asI, asDs, toSl, putBack, pbE, outs, wipeE, unwipe, flatD, reduceIte, reduceCtorEq, Nat.reduceAdd, Nat.reduceLT, Nat.reduceLeDiff, evK, fNe_refl hdth (by decide), List.length_map, e1]))))
    refine w_fewest_words hn hs.nm hd.nm hgd fun us1 hu1 => ?_
    have lu1 := hf.less hg.ok.nd hgd.ok.nd (fun g h => List.mem_of_mem_drop h) hu1
    ((try (with_reducible refine Sq.nx.mpr ?_)); (try simp only [evS, isOwn, isOwnL, thawS, asB, asI, asDs, toSl, putBack, pbE, outs, wipeE, unwipe, flatD, reduceIte, reduceCtorEq, Nat.reduceAdd, Nat.reduceLT, Nat.reduceLeDiff, evK, List.length_map]); (repeat ((with_reducible refine Sq.nx.mpr ?_); (try simp only [evS, isOwn, isOwnL, thawS, asB, asI, asDs, toSl, putBack, pbE, outs, wipeE, unwipe, flatD, reduceIte, reduceCtorEq, Nat.reduceAdd, Nat.reduceLT, Nat.reduceLeDiff, evK, List.length_map]))))
    refine ⟨fun h => absurd h (by omega), fun _ => ⟨fun h => absurd h (by omega), fun _ => ?_⟩⟩
    have hsub : ∀ w : Wd, WdOk N gs w → ∀ x ∈ memW N gs w.1, x ∈ N := fun w hw => memW_in hw hg.ok.sub hg.ok.nd
    have hnd : ∀ w : Wd, WdOk N gs w → (memW N gs w.1).Nodup := fun w hw => hn.nd.sublist (memW_sub hw hg.sl hg.ok.nd)
    ((try (with_reducible refine Sq.nx.mpr ?_)); (try simp only [evS, isOwn, isOwnL, thawS, asB, asI, asDs, toSl, putBack, pbE, outs, wipeE, unwipe, flatD, reduceIte, reduceCtorEq, Nat.reduceAdd, Nat.reduceLT, Nat.reduceLeDiff, evK, dEnum_l, enum_typed]); (repeat ((with_reducible refine Sq.nx.mpr ?_); (try simp only [evS, isOwn, isOwnL, thawS, asB, asI, asDs, toSl, putBack, pbE, outs, wipeE, unwipe, flatD, reduceIte, reduceCtorEq, Nat.reduceAdd, Nat.reduceLT, Nat.reduceLeDiff, evK, dEnum_l, enum_typed]))))
    refine WF.invT (fun pre ρ => ∃ a12 a13, ρ = [.val (scrD ns), .own t3, .val (.int (d : Int)), .val (.tuple (L.map encP)), .val (.tuple (gs.map encG)), .val (.list (N.map fun x => (.str x : D))), .val (.tuple (s.map encP)), .val (.tuple (b.map encP)), .val (.tuple (due.map encP)), .val (.list (ws.map encW)), .val (.list [.list (w0.map encW), .list (w1.map encW)]), .own (.dict ((toldI N gs pre).map fun p => ((.str p.1 : D), (.int p.2 : D)))), a12, a13, a14, a15, a16, a17, a18, a19, a20]) ⟨_, _, rfl⟩ (fun pre q post ρ hq hP => ?_) (fun ρ hP => ?_)
    · obtain ⟨a12, a13, rfl⟩ := hP
      obtain ⟨w, i⟩ := q
      have hm : w ∈ ws := List.fst_mem_of_mem_zipIdx (show (w, i) ∈ ws.zipIdx by rw [hq]; simp)
      have hpre : ∀ q ∈ pre, WdOk N gs q.1 := fun q h => ok hf q.1 (List.fst_mem_of_mem_zipIdx (show (q.1, q.2) ∈ ws.zipIdx by rw [hq]; simp [h]))
      have hsz1 := toldI_sub hsub hpre
      have hw := ok hf w hm
      have hml := nodup_len (hnd w hw) (hsub w hw)
      ((try (with_reducible refine Sq.nx.mpr ?_)); (try simp only [evS, isOwn, isOwnL, thawS, asB, asI, asDs, toSl, putBack, pbE, outs, wipeE, unwipe, flatD, reduceIte, reduceCtorEq, Nat.reduceAdd, Nat.reduceLT, Nat.reduceLeDiff, evK, pairD, w__law_told_by hw hg.ok.nd, nps__law_told_by]); (repeat ((with_reducible refine Sq.nx.mpr ?_); (try simp only [evS, isOwn, isOwnL, thawS, asB, asI, asDs, toSl, putBack, pbE, outs, wipeE, unwipe, flatD, reduceIte, reduceCtorEq, Nat.reduceAdd, Nat.reduceLT, Nat.reduceLeDiff, evK, pairD, w__law_told_by hw hg.ok.nd, nps__law_told_by]))))
      refine ⟨okK_rows _, ?_⟩
      refine WLc.mapT (fun x => .tuple [.str x, .int (i : Int)]) (fun x hx => ?_) ?_
      · ((try (with_reducible refine Sq.nx.mpr ?_)); (try simp only [evS, isOwn, isOwnL, thawS, asB, asI, asDs, toSl, putBack, pbE, outs, wipeE, unwipe, flatD, reduceIte, reduceCtorEq, Nat.reduceAdd, Nat.reduceLT, Nat.reduceLeDiff, evK]); (repeat ((with_reducible refine Sq.nx.mpr ?_); (try simp only [evS, isOwn, isOwnL, thawS, asB, asI, asDs, toSl, putBack, pbE, outs, wipeE, unwipe, flatD, reduceIte, reduceCtorEq, Nat.reduceAdd, Nat.reduceLT, Nat.reduceLeDiff, evK]))))
      ((try (with_reducible refine Sq.nx.mpr ?_)); (try simp only [evS, isOwn, isOwnL, thawS, asB, asI, asDs, toSl, putBack, pbE, outs, wipeE, unwipe, flatD, reduceIte, reduceCtorEq, Nat.reduceAdd, Nat.reduceLT, Nat.reduceLeDiff, evK, dDict_puts (i : Int) (hnd w hw), okK_puts, okK_rows, unD_puts, mergeD_puts, List.length_map]); (repeat ((with_reducible refine Sq.nx.mpr ?_); (try simp only [evS, isOwn, isOwnL, thawS, asB, asI, asDs, toSl, putBack, pbE, outs, wipeE, unwipe, flatD, reduceIte, reduceCtorEq, Nat.reduceAdd, Nat.reduceLT, Nat.reduceLeDiff, evK, dDict_puts (i : Int) (hnd w hw), okK_puts, okK_rows, unD_puts, mergeD_puts, List.length_map]))))
      refine ⟨by omega, ?_⟩
      rw [toldI_snoc]
      exact ⟨_, _, rfl⟩
    obtain ⟨a12, a13, rfl⟩ := hP
    have hzo : ∀ q ∈ ws.zipIdx, WdOk N gs q.1 := fun q h => ok hf q.1 (List.fst_mem_of_mem_zipIdx (show (q.1, q.2) ∈ ws.zipIdx from h))
    have hsz1 := toldI_sub hsub hzo
    have hpl := hf.places hn.nd hs.nm hd.nm
    have hnk := toldI_nodup (ns := N) (gs := gs) ws.zipIdx
    generalize toldI N gs ws.zipIdx = K at hpl hnk hsz1
    ((try (with_reducible refine Sq.nx.mpr ?_)); (try simp only [evS, isOwn, isOwnL, thawS, asB, asI, asDs, toSl, putBack, pbE, outs, wipeE, unwipe, flatD, reduceIte, reduceCtorEq, Nat.reduceAdd, Nat.reduceLT, Nat.reduceLeDiff, evK, ww_sortU, ww_listRg, okK_rows]); (repeat ((with_reducible refine Sq.nx.mpr ?_); (try simp only [evS, isOwn, isOwnL, thawS, asB, asI, asDs, toSl, putBack, pbE, outs, wipeE, unwipe, flatD, reduceIte, reduceCtorEq, Nat.reduceAdd, Nat.reduceLT, Nat.reduceLeDiff, evK, ww_sortU, ww_listRg, okK_rows]))))
    rw [show (List.map (fun x => x.fst) (K.map fun p => ((.str p.1 : D), (.int p.2 : D)))) = K.map fun p => (.str p.1 : D) from by rw [List.map_map]; rfl]
    refine WLc.mapT (fun p => .int p.2) (fun p hp => ?_) ?_
    · have hk : lk K p.1 = some p.2 := by
        have := lk_map_mem (fun q => q.2) hp hnk
        simpa using this
      ((try (with_reducible refine Sq.nx.mpr ?_)); (try simp only [evS, isOwn, isOwnL, thawS, asB, asI, asDs, toSl, putBack, pbE, outs, wipeE, unwipe, flatD, reduceIte, reduceCtorEq, Nat.reduceAdd, Nat.reduceLT, Nat.reduceLeDiff, evK, dIdx_rowsD, hk]); (repeat ((with_reducible refine Sq.nx.mpr ?_); (try simp only [evS, isOwn, isOwnL, thawS, asB, asI, asDs, toSl, putBack, pbE, outs, wipeE, unwipe, flatD, reduceIte, reduceCtorEq, Nat.reduceAdd, Nat.reduceLT, Nat.reduceLeDiff, evK, dIdx_rowsD, hk]))))
    have e2 : dInts (.list (K.map fun p => (.int p.2 : D))) = some (K.map (·.2)) := by
      have := asInts_map (K.map (·.2))
      rw [List.map_map] at this
      exact this
    have e3 : ∀ n : Int, intD (.int n) = some n := fun n => rfl
    have hth : Th 1000 2 (.list ((List.range ws.length).map fun i : Nat => (.int (i : Int) : D))) := th_list (mem_th (fun d hd => by
      obtain ⟨i, _, rfl⟩ := List.mem_map.mp hd
      exact Th.int) (by rw [List.length_map, List.length_range]; omega))
    have e4 : fNe (.list ((sortU (K.map (·.2))).map fun i => (.int i : D))) (.list (rangeD 0 ((ws.length : Int)).toNat)) = some (.bool false) := by
      rw [hpl, rangeD_0, Int.toNat_natCast, List.map_map]
      exact fNe_refl hth (by decide)
    ((try (with_reducible refine Sq.nx.mpr ?_)); (try simp only [evS, isOwn, isOwnL, thawS, asB, asI, asDs, toSl, putBack, pbE, outs, wipeE, unwipe, flatD, reduceIte, reduceCtorEq, Nat.reduceAdd, Nat.reduceLT, Nat.reduceLeDiff, evK, e2, e3, e4, List.length_map]); (repeat ((with_reducible refine Sq.nx.mpr ?_); (try simp only [evS, isOwn, isOwnL, thawS, asB, asI, asDs, toSl, putBack, pbE, outs, wipeE, unwipe, flatD, reduceIte, reduceCtorEq, Nat.reduceAdd, Nat.reduceLT, Nat.reduceLeDiff, evK, e2, e3, e4, List.length_map]))))
    refine ⟨by omega, by omega, ?_⟩
    ((try (with_reducible refine Sq.nx.mpr ?_)); (try simp only [evS, isOwn, isOwnL, thawS, asB, asI, asDs, toSl, putBack, pbE, outs, wipeE, unwipe, flatD, reduceIte, reduceCtorEq, Nat.reduceAdd, Nat.reduceLT, Nat.reduceLeDiff, evK, ww_dz, dzD_new hn.nd h5]); (repeat ((with_reducible refine Sq.nx.mpr ?_); (try simp only [evS, isOwn, isOwnL, thawS, asB, asI, asDs, toSl, putBack, pbE, outs, wipeE, unwipe, flatD, reduceIte, reduceCtorEq, Nat.reduceAdd, Nat.reduceLT, Nat.reduceLeDiff, evK, ww_dz, dzD_new hn.nd h5]))))
    refine WLc.mapT (fun g => encG (renG (renOf N) g)) (fun g hgm => ?_) ?_
    · ((try (with_reducible refine Sq.nx.mpr ?_)); (try simp only [evS, isOwn, isOwnL, thawS, asB, asI, asDs, toSl, putBack, pbE, outs, wipeE, unwipe, flatD, reduceIte, reduceCtorEq, Nat.reduceAdd, Nat.reduceLT, Nat.reduceLeDiff, evK, encG]); (repeat ((with_reducible refine Sq.nx.mpr ?_); (try simp only [evS, isOwn, isOwnL, thawS, asB, asI, asDs, toSl, putBack, pbE, outs, wipeE, unwipe, flatD, reduceIte, reduceCtorEq, Nat.reduceAdd, Nat.reduceLT, Nat.reduceLeDiff, evK, encG]))))
      refine WLc.mapT (fun x => .str (renOf N x)) (fun x hx => ?_) ?_
      · ((try (with_reducible refine Sq.nx.mpr ?_)); (try simp only [evS, isOwn, isOwnL, thawS, asB, asI, asDs, toSl, putBack, pbE, outs, wipeE, unwipe, flatD, reduceIte, reduceCtorEq, Nat.reduceAdd, Nat.reduceLT, Nat.reduceLeDiff, evK, dIdx_new hn.nd h5 (hg.ok.sub g hgm x hx)]); (repeat ((with_reducible refine Sq.nx.mpr ?_); (try simp only [evS, isOwn, isOwnL, thawS, asB, asI, asDs, toSl, putBack, pbE, outs, wipeE, unwipe, flatD, reduceIte, reduceCtorEq, Nat.reduceAdd, Nat.reduceLT, Nat.reduceLeDiff, evK, dIdx_new hn.nd h5 (hg.ok.sub g hgm x hx)]))))
      ((try (with_reducible refine Sq.nx.mpr ?_)); (try simp only [evS, isOwn, isOwnL, thawS, asB, asI, asDs, toSl, putBack, pbE, outs, wipeE, unwipe, flatD, reduceIte, reduceCtorEq, Nat.reduceAdd, Nat.reduceLT, Nat.reduceLeDiff, evK, encG, renG]); (repeat ((with_reducible refine Sq.nx.mpr ?_); (try simp only [evS, isOwn, isOwnL, thawS, asB, asI, asDs, toSl, putBack, pbE, outs, wipeE, unwipe, flatD, reduceIte, reduceCtorEq, Nat.reduceAdd, Nat.reduceLT, Nat.reduceLeDiff, evK, encG, renG]))))
      unfold encSs
      rw [List.map_map]
      rfl
    rw [show (gs.map fun g => encG (renG (renOf N) g)) = (gs.map (renG (renOf N))).map encG from by rw [List.map_map]; rfl]
    ((try (with_reducible refine Sq.nx.mpr ?_)); (try simp only [evS, isOwn, isOwnL, thawS, asB, asI, asDs, toSl, putBack, pbE, outs, wipeE, unwipe, flatD, reduceIte, reduceCtorEq, Nat.reduceAdd, Nat.reduceLT, Nat.reduceLeDiff, evK, w__law_named hn.nd h5 hs.nm, w__law_named hn.nd h5 hd.nm, nps__law_named]); (repeat ((with_reducible refine Sq.nx.mpr ?_); (try simp only [evS, isOwn, isOwnL, thawS, asB, asI, asDs, toSl, putBack, pbE, outs, wipeE, unwipe, flatD, reduceIte, reduceCtorEq, Nat.reduceAdd, Nat.reduceLT, Nat.reduceLeDiff, evK, w__law_named hn.nd h5 hs.nm, w__law_named hn.nd h5 hd.nm, nps__law_named]))))
    refine w_fewest_words (renOf_ns hn.nd h5) (by rw [renR_fst, hs.nm]) (by rw [renR_fst, hd.nm]) (renG_gw hg) fun us2 hu2 => ?_
    have l2 := hf.ren hg.ok (inj_of_nodup (renOf_ns hn.nd h5).nd) hs.nm hd.nm hu2
    ((try (with_reducible refine Sq.nx.mpr ?_)); (try simp only [evS, isOwn, isOwnL, thawS, asB, asI, asDs, toSl, putBack, pbE, outs, wipeE, unwipe, flatD, reduceIte, reduceCtorEq, Nat.reduceAdd, Nat.reduceLT, Nat.reduceLeDiff, evK, fNe_i, List.length_map, l2]); (repeat ((with_reducible refine Sq.nx.mpr ?_); (try simp only [evS, isOwn, isOwnL, thawS, asB, asI, asDs, toSl, putBack, pbE, outs, wipeE, unwipe, flatD, reduceIte, reduceCtorEq, Nat.reduceAdd, Nat.reduceLT, Nat.reduceLeDiff, evK, fNe_i, List.length_map, l2]))))
    refine w_fewest_words hn hs.nm hd.nm hgn fun us3 hu3 => ?_
    have lu3 := hf.less hg.ok.nd hgn.ok.nd (fun g h => nomatch h) hu3
    ((try (with_reducible refine Sq.nx.mpr ?_)); (try simp only [evS, isOwn, isOwnL, thawS, asB, asI, asDs, toSl, putBack, pbE, outs, wipeE, unwipe, flatD, reduceIte, reduceCtorEq, Nat.reduceAdd, Nat.reduceLT, Nat.reduceLeDiff, evK, List.length_map]); (repeat ((with_reducible refine Sq.nx.mpr ?_); (try simp only [evS, isOwn, isOwnL, thawS, asB, asI, asDs, toSl, putBack, pbE, outs, wipeE, unwipe, flatD, reduceIte, reduceCtorEq, Nat.reduceAdd, Nat.reduceLT, Nat.reduceLeDiff, evK, List.length_map]))))
    refine ⟨fun h => absurd h (by omega), fun _ => ?_⟩
    ((try (with_reducible refine Sq.nx.mpr ?_)); (try simp only [evS, isOwn, isOwnL, thawS, asB, asI, asDs, toSl, putBack, pbE, outs, wipeE, unwipe, flatD, reduceIte, reduceCtorEq, Nat.reduceAdd, Nat.reduceLT, Nat.reduceLeDiff, evK]); (repeat ((with_reducible refine Sq.nx.mpr ?_); (try simp only [evS, isOwn, isOwnL, thawS, asB, asI, asDs, toSl, putBack, pbE, outs, wipeE, unwipe, flatD, reduceIte, reduceCtorEq, Nat.reduceAdd, Nat.reduceLT, Nat.reduceLeDiff, evK]))))
    exact ⟨t3, _, _, _, _, _, _, _, _, _, _, _, _, _, _, _, _, _, _, _, rfl, ht3⟩
  · obtain ⟨t, a2, a3, a4, a5, a6, a7, a8, a9, a10, a11, a12, a13, a14, a15, a16, a17, a18, a19, a20, rfl, ht⟩ := hP
    ((try (with_reducible refine Sq.nx.mpr ?_)); (try simp only [evS, isOwn, isOwnL, thawS, asB, asI, asDs, toSl, putBack, pbE, outs, wipeE, unwipe, flatD, reduceIte, reduceCtorEq, Nat.reduceAdd, Nat.reduceLT, Nat.reduceLeDiff, evK]); (repeat ((with_reducible refine Sq.nx.mpr ?_); (try simp only [evS, isOwn, isOwnL, thawS, asB, asI, asDs, toSl, putBack, pbE, outs, wipeE, unwipe, flatD, reduceIte, reduceCtorEq, Nat.reduceAdd, Nat.reduceLT, Nat.reduceLeDiff, evK]))))

end Law
end FL
end L2

open PySem PySem.W PyProof.Rows
set_option maxHeartbeats 0 in
theorem PySem.Challenge.cw_lamprank_k16_whole_words_go_together_holds : PySem.Challenge.rw_lamprank_k16_whole_words_go_together.Holds := by
  w_on; o_law; k_head; (case hw => w_witness2)
  k_fill
  refine L2.walk_ofK (l := PySem.Challenge.rw_lamprank_k16_whole_words_go_together) (n := 63) (k := 4) (x := "_law_script") (CX := L2.CX0) (sp := fun K => L2.FL.spLaw K L2.FL.Law.p_law) rfl (by decide) rfl ⟨rfl, by decide, by decide⟩ (fun w h Y => PySem.W.kIn_of Y) ?F (fun K H a ns hl _ hS => ⟨a, ns, rfl, hS, L2.FL.Law.law_true ns hl, fun _ => rfl⟩) (fun _ _ _ _ h => h)
  case F =>
    intro w mg fa h KX G hmg
    refine' L2.FL.Law.all_mk KX G hmg ?a1 ?l1 ?c1 ?k1 ?a2 ?l2 ?c2 ?k2 ?a3 ?l3 ?c3 ?k3 ?kn3 ?kl3 ?a4 ?l4 ?c4 ?k4 ?a5 ?l5 ?c5 ?k5 ?a6 ?l6 ?c6 ?k6 ?a7 ?l7 ?c7 ?k7 ?a8 ?l8 ?c8 ?k8 ?a9 ?l9 ?c9 ?k9 ?a10 ?l10 ?c10 ?k10 ?a11 ?l11 ?c11 ?k11 ?a12 ?l12 ?c12 ?k12 ?a13 ?l13 ?c13 ?k13 ?a14 ?l14 ?c14 ?k14 ?z0 ?z1 ?z2 ?z3 ?z4 ?z5 ?z6 ?z7 ?z8 ?z9 ?z10 ?z11 ?z12 ?z13 ?z14 ?z15 ?z16 ?z17
    (case a1 => k_is); (case l1 => k_is); (case c1 => k_is); (case k1 => k_is); (case a2 => k_is); (case l2 => k_is); (case c2 => k_is); (case k2 => k_is); (case a3 => k_is); (case l3 => k_is); (case c3 => k_is); (case k3 => k_is); (case kn3 => k_is); (case kl3 => k_is); (case a4 => k_is); (case l4 => k_is); (case c4 => k_is); (case k4 => k_is); (case a5 => k_is); (case l5 => k_is); (case c5 => k_is); (case k5 => k_is); (case a6 => k_is); (case l6 => k_is); (case c6 => k_is); (case k6 => k_is); (case a7 => k_is); (case l7 => k_is); (case c7 => k_is); (case k7 => k_is); (case a8 => k_is); (case l8 => k_is); (case c8 => k_is); (case k8 => k_is); (case a9 => k_is); (case l9 => k_is); (case c9 => k_is); (case k9 => k_is); (case a10 => k_is); (case l10 => k_is); (case c10 => k_is); (case k10 => k_is); (case a11 => k_is); (case l11 => k_is); (case c11 => k_is); (case k11 => k_is); (case a12 => k_is); (case l12 => k_is); (case c12 => k_is); (case k12 => k_is); (case a13 => k_is); (case l13 => k_is); (case c13 => k_is); (case k13 => k_is); (case a14 => k_is); (case l14 => k_is); (case c14 => k_is); (case k14 => k_is); (case z0 => k_is); (case z1 => k_is); (case z2 => k_is); (case z3 => k_is); (case z4 => k_is); (case z5 => k_is); (case z6 => k_is); (case z7 => k_is); (case z8 => k_is); (case z9 => k_is); (case z10 => k_is); (case z11 => k_is); (case z12 => k_is); (case z13 => k_is); (case z14 => k_is); (case z15 => k_is); (case z16 => k_is); (case z17 => k_is)
