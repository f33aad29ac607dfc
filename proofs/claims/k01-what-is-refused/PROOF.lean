import PyProof.Rows.All
import Wide.All
import OpenK.AllK
import Wide.FinOn
import HandS.ForMost
import HandS.Exc
import HandS.TryOnly
import HandS.ExcOwn
import HandS.ExcCtx
import HandS.HotCalls
import HandS.ExcIs
import HandS.WordsExc
import HandS.Deep
import KE.KDictKeyed
import KE.KDictItemsList
import KE.SortData
import HandS.TupAny
import HandS.IsInst
import HandS.Defaults
import HandS.Iter
import HandS.Zip
import KE.GoesMore
import KE.GoesZip
import KE.GoesEnum
import HandS.Ends
import HandS.HeadEnd
import HandS.HeadHook2
import HandS.Conv
import HandS.ListItems
import KE.KDictSum
import HandS.Sort
import HandS.Set
import HandS.ExcValue
import KE.KDictWalk
import KE.KDictPairs
import KE.DataMinMax
import HandS.SortKw
import HandS.DictEq
import PyProof.DictFindH
import HandS.Rev
import HandS.Style
import KE.KUnpack
import PyProof.NeKinds
import HandS.DeepEq
import HandS.TupMul
import HandS.Star
import KE.KStateDown
import HandS.Head0
import HandS.Head1
import HandS.Head2
import HandS.HeadHook1
import PySem.Challenge.RW_sidinglane_k01_what_is_refused
set_option Elab.async false
set_option linter.all false
set_option maxRecDepth 100000
set_option maxHeartbeats 4000000
namespace DS
open PySem PySem.Spec PyProof.Rows L2
abbrev St := L2.St
/-- the program, its world, the written part -/
structure Bs where
  P : Program
  w : World
  K : PySem.W.Frag
  h : Option Value
abbrev bs (X : Cx) : Bs := ⟨X.prog, X.w, X.K, X.A.handled⟩
/-- a set of addresses: what is frozen -/
abbrev Fz := Addr → Prop
abbrev KE1 := NestedKey × Addr × V
abbrev KN : List KE1 → List (NestedKey × Addr × Value) → Prop := Paired fun p q => p.1 = q.1 ∧ p.2.1 = q.2.1 ∧ RelV p.2.2 q.2.2
def ndφ (B : Bs) (a : Addr) (xs : List KE1) (h : Heap) : Prop :=
  xs.length ≤ sizeLine ∧ (a == sysModules) = false ∧ ∃ ys, KN xs ys ∧ ∃ o es ep, h.get? a = some o ∧ o.ExactDict ∧ o.data = .dict es ep ∧ es.toList = ys.map (entryOfKey (nestedKind B.P B.w)) ∧ (ys.map (·.1)).Nodup
abbrev ndO (B : Bs) (a : Addr) (xs : List KE1) : HO := .ext (ndφ B a xs)
mutual
/-- a datum as a dict's key -/
def nk : PyData → Option NestedKey
  | .none => some .none
  | .bool b => some (.num (if b = true then 1 else 0))
  | .int i => some (.num i)
  | .str x => some (.text x)
  | .tuple ds => (nks ds).map .tup
  | .list _ => none
  | .dict _ => none
def nks : List PyData → Option (List NestedKey)
  | [] => some []
  | d :: ds => match nk d, nks ds with
    | some k, some ks => some (k :: ks)
    | _, _ => none
end
/-- the exception that is handled -/
abbrev excD : PyData := .dict [(.none, .none)]
def keyD : Key → PyData
  | .inl i => .int i
  | .inr x => .str x
/-- a dict with keys ints and texts; an instance by its fields -/
abbrev dkD (ks : List Key) (ds : List PyData) : PyData := .dict ((.none, .int 0) :: (ks.map keyD).zip ds)
abbrev insD (ks : List Str) (ds : List PyData) : PyData := .dict ((.none, .int 1) :: (ks.map PyData.str).zip ds)
/-- the thing at a, of which nothing is said -/
abbrev adrD (a : Addr) : PyData := .dict [(.none, .bool true), (.none, .int (a : Nat))]
/-- the script, told apart from lists -/
def scrD (ns : List Int) : PyData := .dict [(.none, .list (ns.map .int))]
def ScrAt (K : PySem.W.Frag) (H : Hp) (a : Addr) (xs : List V) : Prop :=
  (∃ o, H a = some (.frz o (.lst xs))) ∨ ∃ (o : Obj) (its : Array Value) (n : Nat), K.lookup a = some o ∧ o.cls = .type "list" ∧ o.dict = none ∧ o.data = .seq its n ∧ its.size ≤ sizeLine ∧ Vals xs its.toList
theorem ScrAt.sq {K : PySem.W.Frag} {H : Hp} {a : Addr} {xs : List V} (h : ScrAt K H a xs) : SqL K H a xs := h.elim (fun ⟨o, e⟩ => .inl (.inr ⟨o, e⟩)) .inr
/-- a tuple that was made here: known to the object, which has no dict -/
def TupF (H : Hp) (a : Addr) (xs : List V) : Prop := ∃ o : Obj, o.dict = none ∧ H a = some (.frz o (.tup xs))
theorem TupF.sq {K : PySem.W.Frag} {H : Hp} {a : Addr} {xs : List V} (h : TupF H a xs) : SqT K H a xs := let ⟨o, _, e⟩ := h; .inl (.inr ⟨o, e⟩)
mutual
/-- the value v reads as the datum d; all lists and dicts that it leans on are in F -/
inductive Dd (B : Bs) (F : Fz) (H : Hp) : V → PyData → Prop
  | non : Dd B F H .non .none
  | bl (b : Bool) : Dd B F H (.bl b) (.bool b)
  | int (i : Int) : Dd B F H (.int i) (.int i)
  | str (x : Str) : Dd B F H (.str x) (.str x)
  | tup {a : Addr} {xs : List V} {ds : List PyData} : TupF H a xs → DdAll B F H xs ds → Dd B F H (.ref a) (.tuple ds)
  | lst {a : Addr} {xs : List V} {ds : List PyData} : F a → H a = some (.lst xs) → xs.length ≤ sizeLine → DdAll B F H xs ds → Dd B F H (.ref a) (.list ds)
  | dic {a : Addr} {o : Obj} {xs : List KE1} {kvs : List (PyData × PyData)} : H a = some (.frz o (ndO B a xs)) → xs.length ≤ sizeLine → DdPairs B F H xs kvs → Dd B F H (.ref a) (.dict kvs)
  | scr {a : Addr} {ns : List Int} : ScrAt B.K H a (ns.map V.int) → Dd B F H (.ref a) (scrD ns)
  | exc {a : Addr} : B.h = some (.ref a) → Dd B F H (.ref a) excD
  | adr (a : Addr) : Dd B F H (.ref a) (adrD a)
  | dk {a : Addr} {ks : List Key} {vs : List V} {ds : List PyData} : F a → H a = some (.dK (ks.zip vs)) → ks.length = vs.length → DdAll B F H vs ds → Dd B F H (.ref a) (dkD ks ds)
  | ins {a C dx : Addr} {ks : List Str} {vs : List V} {ds : List PyData} : F a → H a = some (.ins C dx (ks.zip vs)) → ks.length = vs.length → DdAll B F H vs ds → Dd B F H (.ref a) (insD ks ds)
inductive DdAll (B : Bs) (F : Fz) (H : Hp) : List V → List PyData → Prop
  | nil : DdAll B F H [] []
  | cons {v : V} {vs : List V} {d : PyData} {ds : List PyData} : Dd B F H v d → DdAll B F H vs ds → DdAll B F H (v :: vs) (d :: ds)
inductive DdPairs (B : Bs) (F : Fz) (H : Hp) : List KE1 → List (PyData × PyData) → Prop
  | nil : DdPairs B F H [] []
  | cons {k : NestedKey} {b : Addr} {v : V} {xs : List KE1} {kd vd : PyData} {kvs : List (PyData × PyData)} : Dd B F H (.ref b) kd → nk kd = some k → k.depth ≤ 8 → Dd B F H v vd → DdPairs B F H xs kvs → DdPairs B F H ((k, b, v) :: xs) ((kd, vd) :: kvs)
end
/-- what F leans on is kept from H to H' -/
structure Keep (F : Fz) (H H' : Hp) : Prop where
  t : ∀ a xs, TupF H a xs → TupF H' a xs
  l : ∀ a u, F a → H a = some u → H' a = some u
  e : ∀ a o φ, H a = some (.frz o (.ext φ)) → H' a = some (.frz o (.ext φ))
  f : ∀ a o xs, H a = some (.frz o (.lst xs)) → H' a = some (.frz o (.lst xs))
def Ex (H H' : Hp) : Prop := ∀ a o, H a = some o → H' a = some o
theorem Ex.refl (H : Hp) : Ex H H := fun _ _ h => h
theorem Ex.trans {H H1 H2 : Hp} (a : Ex H H1) (b : Ex H1 H2) : Ex H H2 := fun x o h => b x o (a x o h)
theorem Ex.new {H : Hp} {p : Addr} {o : HO} (h : H p = none) : Ex H (upd H p o) := fun a u e => by
  rw [upd_ne (ne_of_none e h)]
  exact e
theorem Ex.free {H H' : Hp} {p : Addr} (e : Ex H H') (h : H' p = none) : H p = none := by
  cases h1 : H p with
  | none => rfl
  | some o =>
    rw [e p o h1] at h
    cases h
theorem Ex.mut {H H' : Hp} {p : Addr} {o : HO} (e : Ex H H') (h : H p = none) : Ex H (upd H' p o) := fun a u ha => by
  rw [upd_ne (ne_of_none ha h)]
  exact e a u ha
theorem Ex.rd {H H' : Hp} {a : Addr} {u : HO} (e : Ex H H') (h : Rd H a u) : Rd H' a u := by
  rcases h with h | ⟨o, h⟩
  · exact Or.inl (e a _ h)
  · exact Or.inr ⟨o, e a _ h⟩
theorem Ex.keep {F : Fz} {H H' : Hp} (e : Ex H H') : Keep F H H' := ⟨fun a xs ⟨o, d, h⟩ => ⟨o, d, e a _ h⟩, fun a xs _ h => e a _ h, fun a o φ h => e a _ h, fun a o xs h => e a _ h⟩
/-- a thing outside of F is written -/
theorem Keep.upd {F : Fz} {H : Hp} {p : Addr} {o u : HO} (hF : ¬ F p) (hp : H p = some u) (hf : ∀ o' u', u ≠ .frz o' u') : Keep F H (upd H p o) := by
  refine ⟨fun a xs ⟨o', d, h⟩ => ?_, fun a xs fa h => ?_, fun a o' φ h => ?_, fun a o' xs h => ?_⟩
  · exact ⟨o', d, by rw [upd_ne (fun e => by subst e; rw [hp] at h; exact hf _ _ (Option.some.inj h))]; exact h⟩
  · rw [upd_ne (fun e => by subst e; exact hF fa)]; exact h
  · rw [upd_ne (fun e => by subst e; rw [hp] at h; exact hf _ _ (Option.some.inj h))]; exact h
  · rw [upd_ne (fun e => by subst e; rw [hp] at h; exact hf _ _ (Option.some.inj h))]; exact h
theorem Keep.trans {F F' : Fz} {H H1 H2 : Hp} (a : Keep F H H1) (hs : ∀ x, F x → F' x) (b : Keep F' H1 H2) : Keep F H H2 :=
  ⟨fun x xs h => b.t x xs (a.t x xs h), fun x xs f h => b.l x xs (hs x f) (a.l x xs f h), fun x o φ h => b.e x o φ (a.e x o φ h), fun x o xs h => b.f x o xs (a.f x o xs h)⟩
section
variable {B : Bs} {F F' : Fz} {H H' : Hp}
mutual
theorem Dd.mono (hs : ∀ a, F a → F' a) (k : Keep F H H') : ∀ {v : V} {d : PyData}, Dd B F H v d → Dd B F' H' v d
  | _, _, .non => .non
  | _, _, .bl b => .bl b
  | _, _, .int i => .int i
  | _, _, .str x => .str x
  | _, _, .tup h a => .tup (k.t _ _ h) (DdAll.mono hs k a)
  | _, _, .lst f h z a => .lst (hs _ f) (k.l _ _ f h) z (DdAll.mono hs k a)
  | _, _, .dic h z a => .dic (k.e _ _ _ h) z (DdPairs.mono hs k a)
  | _, _, .scr h => .scr (h.elim (fun ⟨o, e⟩ => .inl ⟨o, k.f _ _ _ e⟩) .inr)
  | _, _, .exc h => .exc h
  | _, _, .adr a => .adr a
  | _, _, .dk f h z a => .dk (hs _ f) (k.l _ _ f h) z (DdAll.mono hs k a)
  | _, _, .ins f h z a => .ins (hs _ f) (k.l _ _ f h) z (DdAll.mono hs k a)
theorem DdAll.mono (hs : ∀ a, F a → F' a) (k : Keep F H H') : ∀ {vs : List V} {ds : List PyData}, DdAll B F H vs ds → DdAll B F' H' vs ds
  | _, _, .nil => .nil
  | _, _, .cons a b => .cons (Dd.mono hs k a) (DdAll.mono hs k b)
theorem DdPairs.mono (hs : ∀ a, F a → F' a) (k : Keep F H H') : ∀ {xs : List KE1} {kvs : List (PyData × PyData)}, DdPairs B F H xs kvs → DdPairs B F' H' xs kvs
  | _, _, .nil => .nil
  | _, _, .cons a n z b c => .cons (Dd.mono hs k a) n z (Dd.mono hs k b) (DdPairs.mono hs k c)
end
theorem Dd.ex {v : V} {d : PyData} (h : Dd B F H v d) (e : Ex H H') : Dd B F H' v d := h.mono (fun _ x => x) e.keep
theorem DdAll.ex {v : List V} {d : List PyData} (h : DdAll B F H v d) (e : Ex H H') : DdAll B F H' v d := h.mono (fun _ x => x) e.keep
theorem Dd.wide {v : V} {d : PyData} (h : Dd B F H v d) (hs : ∀ a, F a → F' a) : Dd B F' H v d := h.mono hs (Ex.refl H).keep
theorem DdAll.wide {v : List V} {d : List PyData} (h : DdAll B F H v d) (hs : ∀ a, F a → F' a) : DdAll B F' H v d := h.mono hs (Ex.refl H).keep
theorem DdPairs.ex {xs : List KE1} {kvs : List (PyData × PyData)} (h : DdPairs B F H xs kvs) (e : Ex H H') : DdPairs B F H' xs kvs := h.mono (fun _ x => x) e.keep
theorem DdPairs.wide {xs : List KE1} {kvs : List (PyData × PyData)} (h : DdPairs B F H xs kvs) (hs : ∀ a, F a → F' a) : DdPairs B F' H xs kvs := h.mono hs (Ex.refl H).keep
mutual
def imm : PyData → Bool
  | .none | .bool _ | .int _ | .str _ => true
  | .tuple ds => imms ds
  | .list _ | .dict _ => false
def imms : List PyData → Bool
  | [] => true
  | d :: ds => imm d && imms ds
end
mutual
theorem Dd.imm : ∀ {v : V} {d : PyData}, imm d = true → Dd B F H v d → Dd B F' H v d
  | _, _, _, .non => .non
  | _, _, _, .bl b => .bl b
  | _, _, _, .int i => .int i
  | _, _, _, .str x => .str x
  | _, _, i, .tup h a => .tup h (DdAll.imm i a)
  | _, _, i, .lst _ _ _ _ => nomatch i
  | _, _, i, .dic _ _ _ => nomatch i
  | _, _, i, .scr _ => nomatch i
  | _, _, i, .exc _ => nomatch i
  | _, _, i, .adr _ => nomatch i
  | _, _, i, .dk _ _ _ _ => nomatch i
  | _, _, i, .ins _ _ _ _ => nomatch i
theorem DdAll.imm : ∀ {vs : List V} {ds : List PyData}, imms ds = true → DdAll B F H vs ds → DdAll B F' H vs ds
  | _, _, _, .nil => .nil
  | _, _, i, .cons a b => .cons (Dd.imm (Bool.and_eq_true_iff.mp i).1 a) (DdAll.imm (Bool.and_eq_true_iff.mp i).2 b)
end
mutual
theorem Dd.dp : ∀ {v : V} {d : PyData}, d.canLay0 = true → Dd B F H v d → Dp B.K H v d
  | _, _, _, .non => .non
  | _, _, _, .bl b => .bl b
  | _, _, _, .int i => .int i
  | _, _, _, .str x => .str x
  | _, _, i, .tup h a => .tup h.sq (DdAll.dp (by simpa [PyData.canLay0] using i) a)
  | _, _, i, .lst _ h _ a => .lst (.of h) (DdAll.dp (by simpa [PyData.canLay0] using i) a)
  | _, _, i, .dic _ _ _ => by simp [PyData.canLay0] at i
  | _, _, i, .scr _ => by simp [PyData.canLay0, scrD] at i
  | _, _, i, .exc _ => by simp [PyData.canLay0] at i
  | _, _, i, .adr _ => by simp [PyData.canLay0] at i
  | _, _, i, .dk _ _ _ _ => by simp [PyData.canLay0] at i
  | _, _, i, .ins _ _ _ _ => by simp [PyData.canLay0] at i
theorem DdAll.dp : ∀ {vs : List V} {ds : List PyData}, PyData.canLayAll0 ds = true → DdAll B F H vs ds → DpAll B.K H vs ds
  | _, _, _, .nil => .nil
  | _, _, i, .cons a b => .cons (Dd.dp (Bool.and_eq_true_iff.mp (by simpa [PyData.canLayAll0] using i)).1 a) (DdAll.dp (Bool.and_eq_true_iff.mp (by simpa [PyData.canLayAll0] using i)).2 b)
end
theorem DdAll.length : ∀ {vs : List V} {ds : List PyData}, DdAll B F H vs ds → vs.length = ds.length
  | _, _, .nil => rfl
  | _, _, .cons _ t => by rw [List.length_cons, List.length_cons, t.length]
theorem DdPairs.length : ∀ {vs : List KE1} {ds : List (PyData × PyData)}, DdPairs B F H vs ds → vs.length = ds.length
  | _, _, .nil => rfl
  | _, _, .cons _ _ _ _ t => by rw [List.length_cons, List.length_cons, t.length]
theorem DdAll.get : ∀ {vs : List V} {ds : List PyData} {i : Nat} {d : PyData}, DdAll B F H vs ds → ds[i]? = some d → ∃ v, vs[i]? = some v ∧ Dd B F H v d
  | _, _, _, _, .nil, e => by simp at e
  | _, _, 0, _, .cons r _, e => by simp at e; subst e; exact ⟨_, rfl, r⟩
  | _, _, i + 1, _, .cons _ t, e => by
    obtain ⟨v, h1, h2⟩ := t.get (by simpa using e)
    exact ⟨v, by simpa using h1, h2⟩
theorem DdAll.get' : ∀ {vs : List V} {ds : List PyData} {i : Nat} {v : V}, DdAll B F H vs ds → vs[i]? = some v → ∃ d, ds[i]? = some d ∧ Dd B F H v d
  | _, _, _, _, .nil, e => by simp at e
  | _, _, 0, _, .cons r _, e => by simp at e; subst e; exact ⟨_, rfl, r⟩
  | _, _, i + 1, _, .cons _ t, e => by
    obtain ⟨v, h1, h2⟩ := t.get' (by simpa using e)
    exact ⟨v, by simpa using h1, h2⟩
theorem DdAll.append : ∀ {xs ys : List V} {ds es : List PyData}, DdAll B F H xs ds → DdAll B F H ys es → DdAll B F H (xs ++ ys) (ds ++ es)
  | _, _, _, _, .nil, s => s
  | _, _, _, _, .cons r t, s => .cons r (t.append s)
theorem DdAll.take : ∀ {xs : List V} {ds : List PyData} (n : Nat), DdAll B F H xs ds → DdAll B F H (xs.take n) (ds.take n)
  | _, _, 0, _ => by simp only [List.take_zero]; exact .nil
  | _, _, _ + 1, .nil => .nil
  | _, _, n + 1, .cons r t => .cons r (t.take n)
theorem DdAll.drop : ∀ {xs : List V} {ds : List PyData} (n : Nat), DdAll B F H xs ds → DdAll B F H (xs.drop n) (ds.drop n)
  | _, _, 0, r => r
  | _, _, _ + 1, .nil => .nil
  | _, _, n + 1, .cons _ t => t.drop n
theorem DdAll.set {v : V} {d : PyData} (r : Dd B F H v d) : ∀ {xs : List V} {ds : List PyData} (i : Nat), DdAll B F H xs ds → DdAll B F H (xs.set i v) (ds.set i d)
  | _, _, _, .nil => .nil
  | _, _, 0, .cons _ t => .cons r t
  | _, _, i + 1, .cons q t => .cons q (DdAll.set r i t)
theorem DdAll.dropLast : ∀ {xs : List V} {ds : List PyData}, DdAll B F H xs ds → DdAll B F H xs.dropLast ds.dropLast := fun {xs ds} h => by
  rw [List.dropLast_eq_take, List.dropLast_eq_take, h.length]
  exact h.take _
theorem DdAll.reverse : ∀ {xs : List V} {ds : List PyData}, DdAll B F H xs ds → DdAll B F H xs.reverse ds.reverse
  | _, _, .nil => .nil
  | _, _, .cons r t => by rw [List.reverse_cons, List.reverse_cons]; exact t.reverse.append (.cons r .nil)
end
section
variable {X : Cx} {pins : List (Addr × Obj)} {σ : DS.St} {H : Hp} {s : Shared} {F : Fz}
mutual
theorem Dd.key (I : Inv X pins σ H s) : ∀ {d : PyData} {v : V} {u : Value} {k : NestedKey}, Dd (bs X) F H v d → RelV v u → nk d = some k → NestedIs s.heap k u
  | .none, _, _, _, h, r, e => by
    cases h
    cases r
    simp only [nk, Option.some.injEq] at e
    subst e
    exact .none
  | .bool b, _, _, _, h, r, e => by
    cases h
    cases r
    simp only [nk, Option.some.injEq] at e
    subst e
    exact .bool rfl
  | .int i, _, _, _, h, r, e => by
    cases h
    obtain ⟨t, rfl⟩ := r
    simp only [nk, Option.some.injEq] at e
    subst e
    exact .int i t
  | .str x, _, _, _, h, r, e => by
    cases h
    obtain ⟨t, rfl⟩ := r
    simp only [nk, Option.some.injEq] at e
    subst e
    exact .text x t
  | .tuple ds, _, _, _, h, r, e => by
    cases h with
    | tup hs ha =>
      cases r
      obtain ⟨its, rv, ⟨o, ho, hc, n, hd⟩, _⟩ := I.tuple hs.sq
      simp only [nk, Option.map_eq_some_iff] at e
      obtain ⟨ks, e1, rfl⟩ := e
      exact .tup ho hc hd (DdAll.keys I ha rv e1)
  | .list ds, _, _, _, _, _, e => by simp [nk] at e
  | .dict _, _, _, _, _, _, e => by simp [nk] at e
theorem DdAll.keys (I : Inv X pins σ H s) : ∀ {ds : List PyData} {vs : List V} {us : List Value} {ks : List NestedKey}, DdAll (bs X) F H vs ds → Vals vs us → nks ds = some ks → NestedAll s.heap ks us
  | [], _, _, _, h, r, e => by
    cases h
    cases r
    simp only [nks, Option.some.injEq] at e
    subst e
    exact .nil
  | d :: ds, _, _, _, h, r, e => by
    cases h with
    | cons h1 h2 =>
      cases r with
      | cons r1 r2 =>
        simp only [nks] at e
        cases q1 : nk d with
        | none => rw [q1] at e; simp at e
        | some k =>
          cases q2 : nks ds with
          | none => rw [q1, q2] at e; simp at e
          | some ks =>
            rw [q1, q2] at e
            simp only [Option.some.injEq] at e
            subst e
            exact .cons (Dd.key I h1 r1 q1) (DdAll.keys I h2 r2 q2)
end
theorem Dd.isKey (I : Inv X pins σ H s) {d : PyData} {b : Addr} {k : NestedKey} (h : Dd (bs X) F H (.ref b) d) (e : nk d = some k) (z : k.depth ≤ 8) : (nestedKind X.prog X.w).is s.heap k b := ⟨h.key I rfl e, z⟩
theorem DdPairs.areKeys (I : Inv X pins σ H s) : ∀ {xs : List KE1} {kvs : List (PyData × PyData)} {ys : List (NestedKey × Addr × Value)}, DdPairs (bs X) F H xs kvs → KN xs ys → ∀ y ∈ ys, (nestedKind X.prog X.w).is s.heap y.1 y.2.1
  | _, _, _, .nil, .nil, _, hy => nomatch hy
  | _, _, _, .cons a n z _ t, .cons r rs, y, hy => by
    rcases List.mem_cons.mp hy with e | hy
    · subst e
      rw [← r.1, ← r.2.1]
      exact a.isKey I n z
    · exact t.areKeys I rs y hy
theorem nd_of {a : Addr} {xs : List KE1} {kvs : List (PyData × PyData)} (I : Inv X pins σ H s) (e : Rd H a (ndO (bs X) a xs)) (p : DdPairs (bs X) F H xs kvs) :
    xs.length ≤ sizeLine ∧ (a == sysModules) = false ∧ ∃ ys, KN xs ys ∧ s.heap.DictOfH (nestedKind X.prog X.w) a ys := by
  have q : ObjOk X.prog X.w H s.heap a (ndO (bs X) a xs) := e.ok I.hok
  obtain ⟨⟨z, y, ys, r, o, es, ep, h1, h2, h3, h4, h5⟩, _, _⟩ := q
  exact ⟨z, y, ys, r, o, es, ep, h1, h2, h3, h4, p.areKeys I r, h5⟩
theorem nd_ok {H' : Hp} {h' : Heap} {a : Addr} {xs : List KE1} {ys : List (NestedKey × Addr × Value)} (z : xs.length ≤ sizeLine) (y : (a == sysModules) = false) (r : KN xs ys) (d : h'.DictOfH (nestedKind X.prog X.w) a ys) :
    ObjOk X.prog X.w H' h' a (ndO (bs X) a xs) := by
  obtain ⟨o, es, ep, h1, h2, h3, h4, _, h5⟩ := d
  refine ⟨⟨z, y, ys, r, o, es, ep, h1, h2, h3, h4, h5⟩, ⟨o, h1⟩, fun g1 g2 ⟨z, y, ys, r, o, es, ep, h1, h2, h3, h4, h5⟩ k => ⟨z, y, ys, r, o, es, ep, k o h1, h2, h3, h4, h5⟩⟩
end
end DS
namespace DS
open PySem PySem.Spec PyProof.Rows L2
inductive Xc where
  | lane | ways | stand | move | place
  deriving DecidableEq
abbrev Res := Except Xc PyData
/-- a slot: own (a list or dict that nobody else has) or frozen, and its datum -/
abbrev Env := List (Option (Bool × PyData))
abbrev Ef := Env → Option Res
def Dom (F : Fz) (H : Hp) : Prop := ∀ a, F a → H a ≠ none
/-- a list or dict at a, itself not in F -/
inductive Own (B : Bs) (F : Fz) (H : Hp) (a : Addr) : PyData → Prop
  | lst {xs : List V} {ds : List PyData} : H a = some (.lst xs) → xs.length ≤ sizeLine → DdAll B F H xs ds → Own B F H a (.list ds)
  | dic {xs : List KE1} {kvs : List (PyData × PyData)} : H a = some (ndO B a xs) → xs.length ≤ sizeLine → DdPairs B F H xs kvs → Own B F H a (.dict kvs)
/-- what the body stands on: what is protected, what existed at the entry, what was frozen at the entry -/
structure Bd where
  Bp : Hp
  Bn : Fz
  F0 : Fz
structure Stt (B : Bs) (D : Bd) (F : Fz) (H : Hp) (σ : DS.St) (env : DS.Env) : Prop where
  pro : Ex D.Bp H
  bn : ∀ a, D.Bn a → H a ≠ none
  sub : ∀ a, D.F0 a → F a
  new : ∀ a, F a → D.F0 a ∨ ¬ D.Bn a
  dom : Dom F H
  len : σ.length = env.length
  slot : ∀ (i : Nat) (d : PyData), env[i]? = some (some (false, d)) → ∃ v : V, σ[i]? = some (some v) ∧ Dd B F H v d
  own : ∀ (i : Nat) (d : PyData), env[i]? = some (some (true, d)) → ∃ a : Addr, σ[i]? = some (some (V.ref a)) ∧ ¬ F a ∧ D.Bp a = none ∧ ¬ D.Bn a ∧ Own B F H a d
  sep : ∀ (i j : Nat) (d d' : PyData) (a : Addr), env[i]? = some (some (true, d)) → env[j]? = some (some (true, d')) → σ[i]? = some (some (V.ref a)) → σ[j]? = some (some (V.ref a)) → i = j
/-- from (F, H) to (F', H'): all stands as it was, new things may be frozen -/
structure Ext (F : Fz) (H : Hp) (F' : Fz) (H' : Hp) : Prop where
  ex : Ex H H'
  sub : ∀ a, F a → F' a
  new : ∀ a, F' a → F a ∨ H a = none
  dom : Dom F' H'
section
variable {B : Bs} {D : Bd} {F F' F1 F2 : Fz} {H H' H1 H2 : Hp} {σ : DS.St} {env : DS.Env} {a : Addr} {d : PyData} {v : V}
theorem Ext.refl (h : Dom F H) : Ext F H F H := ⟨Ex.refl H, fun _ x => x, fun _ x => .inl x, h⟩
theorem Ext.of (h : Dom F H) (e : Ex H H') : Ext F H F H' := ⟨e, fun _ x => x, fun _ x => .inl x, fun a f z => h a f (e.free z)⟩
theorem Ext.trans (x : Ext F H F1 H1) (y : Ext F1 H1 F2 H2) : Ext F H F2 H2 := ⟨x.ex.trans y.ex, fun a f => y.sub a (x.sub a f), fun a f => (y.new a f).elim (x.new a) fun z => .inr (x.ex.free z), y.dom⟩
theorem Own.live (h : Own B F H a d) : H a ≠ none := by
  cases h with
  | lst h _ _ => rw [h]; simp
  | dic h _ _ => rw [h]; simp
theorem Own.ext (h : Own B F H a d) (x : Ext F H F' H') : Own B F' H' a d := by
  cases h with
  | lst h z r => exact .lst (x.ex _ _ h) z (r.mono x.sub x.ex.keep)
  | dic h z r => exact .dic (x.ex _ _ h) z (r.mono x.sub x.ex.keep)
theorem Own.wide (h : Own B F H a d) (hs : ∀ b, F b → F' b) : Own B F' H a d := by
  cases h with
  | lst h z r => exact .lst h z (r.wide hs)
  | dic h z r => exact .dic h z (r.wide hs)
/-- no dict at the top -/
def noDi : PyData → Bool
  | .dict _ => false
  | _ => true
theorem Own.frz (h : Own B F H a d) (nd : noDi d = true) : Dd B (fun b => F b ∨ b = a) H (.ref a) d := by
  cases h with
  | lst h z r => exact .lst (.inr rfl) h z (r.wide fun b x => .inl x)
  | dic h z r => cases nd
theorem Dd.ext (h : Dd B F H v d) (x : Ext F H F' H') : Dd B F' H' v d := h.mono x.sub x.ex.keep
theorem DdAll.ext {vs : List V} {ds : List PyData} (h : DdAll B F H vs ds) (x : Ext F H F' H') : DdAll B F' H' vs ds := h.mono x.sub x.ex.keep
theorem DdPairs.ext {vs : List KE1} {ds : List (PyData × PyData)} (h : DdPairs B F H vs ds) (x : Ext F H F' H') : DdPairs B F' H' vs ds := h.mono x.sub x.ex.keep
theorem Stt.ext (S : Stt B D F H σ env) (x : Ext F H F' H') : Stt B D F' H' σ env :=
  ⟨S.pro.trans x.ex, fun a h z => S.bn a h (x.ex.free z), fun a h => x.sub a (S.sub a h), fun a h => (x.new a h).elim (S.new a) fun z => .inr fun b => S.bn a b z, x.dom, S.len,
    fun i d e => let ⟨v, h1, h2⟩ := S.slot i d e; ⟨v, h1, h2.ext x⟩,
    fun i d e => let ⟨a, h1, h2, h3, h4, h5⟩ := S.own i d e; ⟨a, h1, fun f => (x.new a f).elim h2 h5.live, h3, h4, h5.ext x⟩, S.sep⟩
/-- readable: frozen, or an own thing -/
inductive Top (B : Bs) (F : Fz) (H : Hp) : V → PyData → Prop
  | dd {v : V} {d : PyData} : Dd B F H v d → Top B F H v d
  | own {a : Addr} {d : PyData} : Own B F H a d → Top B F H (.ref a) d
theorem Top.ext (h : Top B F H v d) (x : Ext F H F' H') : Top B F' H' v d := by
  cases h with
  | dd h => exact .dd (h.ext x)
  | own h => exact .own (h.ext x)
theorem Top.lst {ds : List PyData} (h : Top B F H v (.list ds)) : ∃ a xs, v = .ref a ∧ H a = some (.lst xs) ∧ xs.length ≤ sizeLine ∧ DdAll B F H xs ds := by
  cases h with
  | dd h => cases h with
    | lst f h z r => exact ⟨_, _, rfl, h, z, r⟩
  | own h => cases h with
    | lst h z r => exact ⟨_, _, rfl, h, z, r⟩
theorem Top.tup {ds : List PyData} (h : Top B F H v (.tuple ds)) : ∃ a xs, v = .ref a ∧ TupF H a xs ∧ DdAll B F H xs ds := by
  cases h with
  | dd h => cases h with
    | tup h r => exact ⟨_, _, rfl, h, r⟩
  | own h => cases h
/-- in a frozen set that holds all that lives -/
theorem Top.live (hd : Dom F H) (h : Top B F H v d) (nd : noDi d = true) : Dd B (fun a => H a ≠ none) H v d := by
  cases h with
  | dd h => exact h.wide hd
  | own h => exact (h.frz nd).wide fun b x => x.elim (hd b) fun e => by rw [e]; exact h.live
/-- what is got: e frozen, r readable, o own and new -/
inductive Md where
  | e | r | o | v
def Got (B : Bs) (m : Md) (H0 : Hp) (F : Fz) (H : Hp) (v : V) (d : PyData) : Prop := match m with
  | .e => Dd B F H v d
  | .r => Top B F H v d
  | .o => ∃ a, v = .ref a ∧ ¬ F a ∧ H0 a = none ∧ Own B F H a d
  | .v => Dd B (fun a => H a ≠ none) H v d
theorem Got.back {m : Md} {H0 : Hp} (x : Ex H0 H1) (h : Got B m H1 F H v d) : Got B m H0 F H v d := by
  cases m with
  | e => exact h
  | r => exact h
  | o =>
    obtain ⟨a, h1, h2, h3, h4⟩ := h
    exact ⟨a, h1, h2, x.free h3, h4⟩
  | v => exact h
variable {W : WX} {xa : Xc → Addr} {Q : VK}
/-- THE READING: from a state with such an environment, f tells what comes out -/
def tM (B : Bs) (W : WX) (xa : Xc → Addr) (m : Md) (f : Ef) : TE := fun σ H Q => ∃ D F env r, Stt B D F H σ env ∧ f env = some r ∧ match r with
  | .ok d => ∀ v F' H', Ext F H F' H' → Got B m H F' H' v d → Q v H'
  | .error c => ∀ H', Ex H H' → W (.ref (xa c)) none σ H'
theorem tM.mk {m : Md} {f : Ef} {d : PyData} (S : Stt B D F H σ env) (e : f env = some (.ok d)) (k : ∀ v F' H', Ext F H F' H' → Got B m H F' H' v d → Q v H') : tM B W xa m f σ H Q := ⟨D, F, env, .ok d, S, e, k⟩
theorem tM.err {m : Md} {f : Ef} {c : Xc} (S : Stt B D F H σ env) (e : f env = some (.error c)) (k : ∀ H', Ex H H' → W (.ref (xa c)) none σ H') : tM B W xa m f σ H Q := ⟨D, F, env, .error c, S, e, k⟩
/-- what comes is no dict -/
def NoD (f : Ef) : Prop := ∀ env d, f env = some (.ok d) → noDi d = true
theorem tM.frz {f : Ef} (nd : NoD f) (h : tM B W xa .e f σ H Q) : tM B W xa .o f σ H Q := by
  obtain ⟨D, F, env, r, S, e, k⟩ := h
  refine ⟨D, F, env, r, S, e, ?_⟩
  cases r with
  | error c => exact k
  | ok d =>
    rintro v F' H' x ⟨a, rfl, h2, h3, h4⟩
    refine k _ (fun b => F' b ∨ b = a) H' ⟨x.ex, fun b f => .inl (x.sub b f), fun b f => f.elim (x.new b) fun e => .inr (by rw [e]; exact h3), fun b f => f.elim (x.dom b) fun e => by rw [e]; exact h4.live⟩ (h4.frz (nd env d e))
theorem tM.rd {f : Ef} (h : tM B W xa .r f σ H Q) : tM B W xa .e f σ H Q := by
  obtain ⟨D, F, env, r, S, e, k⟩ := h
  refine ⟨D, F, env, r, S, e, ?_⟩
  cases r with
  | error c => exact k
  | ok d => exact fun v F' H' x g => k v F' H' x (.dd g)
end
/-- an expression whose reading is told by f -/
theorem impE {X : Cx} {e : Expr} {t t' : TE} (h : PE X e t) (k : ∀ σ H Q, t' σ H Q → t σ H Q) : PE X e t' := ⟨fun pins s σ H Q I q => h.run pins s σ H Q I (k σ H Q q)⟩
theorem impT {X : Cx} {e : Expr} {t t' : TT} (h : PT X e t) (k : ∀ σ H Q, t' σ H Q → t σ H Q) : PT X e t' := ⟨fun pins s σ H Q I q => h.run pins s σ H Q I (k σ H Q q)⟩
theorem impS {X : Cx} {e : Stmt} {t t' : TS} (h : PS X e t) (k : ∀ D σ H, t' D σ H → t D σ H) : PS X e t' := ⟨fun pins s σ H D I q => h.run pins s σ H D I (k D σ H q)⟩
theorem impSs {X : Cx} {e : List Stmt} {t t' : TS} (h : PSs X e t) (k : ∀ D σ H, t' D σ H → t D σ H) : PSs X e t' := ⟨fun pins s σ H D I q => h.run pins s σ H D I (k D σ H q)⟩
theorem impA {X : Cx} {e : List Expr} {t t' : TA} (h : PA X e t) (k : ∀ σ H Q, t' σ H Q → t σ H Q) : PA X e t' := ⟨fun pos pins s σ H Q I q => h.run pos pins s σ H Q I (k σ H Q q)⟩
/-- the judgement -/
theorem bs_none {X : Cx} (h : X.A.handled = none) : (⟨X.prog, X.w, X.K, none⟩ : Bs) = bs X := by rw [bs, h]
/-- the judgement -/
abbrev PD (X : Cx) (W : WX) (xa : Xc → Addr) (m : Md) (e : Expr) (f : Ef) : Prop := PE X e (tM (bs X) W xa m f)
section
variable {X : Cx} {W : WX} {xa : Xc → Addr} {e a b : Expr} {f g : Ef} {pos : Pos}
theorem PD.frz (h : PD X W xa .o e f) (nd : NoD f) : PD X W xa .e e f := impE h fun _ _ _ q => q.frz nd
theorem PD.rd (h : PD X W xa .e e f) : PD X W xa .r e f := impE h fun _ _ _ q => q.rd
theorem tM.rdo {f : Ef} {B : Bs} {σ : DS.St} {H : Hp} {Q : VK} (h : tM B W xa .r f σ H Q) : tM B W xa .o f σ H Q := by
  obtain ⟨D, F, env, r, S, e, k⟩ := h
  refine ⟨D, F, env, r, S, e, ?_⟩
  cases r with
  | error c => exact k
  | ok d =>
    rintro v F' H' x ⟨a, rfl, h2, h3, h4⟩
    exact k _ F' H' x (.own h4)
theorem PD.rdo (h : PD X W xa .o e f) : PD X W xa .r e f := impE h fun _ _ _ q => q.rdo
/-- what lives: all that it leans on may be looked at while nothing is changed -/
theorem tM.ev {f : Ef} {B : Bs} {σ : DS.St} {H : Hp} {Q : VK} (h : tM B W xa .v f σ H Q) : tM B W xa .e f σ H Q := by
  obtain ⟨D, F, env, r, S, e, k⟩ := h
  refine ⟨D, F, env, r, S, e, ?_⟩
  cases r with
  | error c => exact k
  | ok d => exact fun v F' H' x g => k v F' H' x (Dd.wide g x.dom)
theorem PD.ev (h : PD X W xa .e e f) : PD X W xa .v e f := impE h fun _ _ _ q => q.ev
theorem tM.rv {f : Ef} {B : Bs} {σ : DS.St} {H : Hp} {Q : VK} (nd : NoD f) (h : tM B W xa .v f σ H Q) : tM B W xa .r f σ H Q := by
  obtain ⟨D, F, env, r, S, e, k⟩ := h
  refine ⟨D, F, env, r, S, e, ?_⟩
  cases r with
  | error c => exact k
  | ok d => exact fun v F' H' x g => k v F' H' x (Top.live x.dom g (nd env d e))
theorem PD.rv (h : PD X W xa .r e f) (nd : NoD f) : PD X W xa .v e f := impE h fun _ _ _ q => q.rv nd
/-- a dict is not looked for -/
def noD (f : Ef) : Ef := fun env => match f env with
  | some (.ok d) => if noDi d = true then some (.ok d) else none
  | r => r
theorem nd_noD {f : Ef} : NoD (noD f) := fun env d e => by
  unfold noD at e
  split at e
  · rename_i d' h
    simp only [Option.ite_none_right_eq_some, Option.some.injEq, Except.ok.injEq] at e
    rw [← e.2]
    exact e.1
  · rename_i h
    exact absurd e (h d)
theorem pd_noD {m : Md} (h : PD X W xa m e f) : PD X W xa m e (noD f) := impE h fun σ H Q ⟨D, F, env, r, S, q, k⟩ => by
  unfold noD at q
  split at q
  · rename_i d' h
    simp only [Option.ite_none_right_eq_some, Option.some.injEq] at q
    obtain ⟨_, rfl⟩ := q
    exact ⟨D, F, env, _, S, h, k⟩
  · exact ⟨D, F, env, r, S, q, k⟩
def eV (i : Nat) : Ef := fun env => match env[i]? with
  | some (some (false, d)) => some (.ok d)
  | _ => none
def rV (i : Nat) : Ef := fun env => match env[i]? with
  | some (some (_, d)) => some (.ok d)
  | _ => none
def eC (d : PyData) : Ef := fun _ => some (.ok d)
theorem pd_var (i : Nat) (h : PE X e (tVar i)) : PD X W xa .e e (eV i) := impE h fun σ H Q ⟨D, F, env, r, S, e, k⟩ => by
  unfold eV at e
  split at e
  · rename_i d he
    cases e
    obtain ⟨v, h1, h2⟩ := S.slot i d he
    exact ⟨v, h1, k v F H (Ext.refl S.dom) h2⟩
  · cases e
theorem pd_varR (i : Nat) (h : PE X e (tVar i)) : PD X W xa .r e (rV i) := impE h fun σ H Q ⟨D, F, env, r, S, e, k⟩ => by
  unfold rV at e
  split at e
  · rename_i o d he
    cases e
    cases o with
    | false =>
      obtain ⟨v, h1, h2⟩ := S.slot i d he
      exact ⟨v, h1, k v F H (Ext.refl S.dom) (.dd h2)⟩
    | true =>
      obtain ⟨a, h1, h2, h3, h4, h5⟩ := S.own i d he
      exact ⟨_, h1, k _ F H (Ext.refl S.dom) (.own h5)⟩
  · cases e
theorem pd_c {v : V} {d : PyData} (h : PE X e (tC v)) (hd : ∀ F H, Dd (bs X) F H v d) : PD X W xa .e e (eC d) := impE h fun σ H Q ⟨D, F, env, r, S, e, k⟩ => by
  cases e
  exact k v F H (Ext.refl S.dom) (hd F H)
theorem pd_int {i j} : PD X W xa .e (.Constant (.int i) j pos) (eC (.int i)) := pd_c pe_int fun _ _ => .int i
theorem pd_bl {i j} : PD X W xa .e (.Constant (.bool i) j pos) (eC (.bool i)) := pd_c pe_bl fun _ _ => .bl i
theorem pd_str {i j} : PD X W xa .e (.Constant (.str i) j pos) (eC (.str i)) := pd_c pe_str fun _ _ => .str i
theorem pd_non {j} : PD X W xa .e (.Constant .none j pos) (eC .none) := pd_c pe_non fun _ _ => .non
/-- behind f, h -/
def bindR (x : Option Res) (h : PyData → Option Res) : Option Res := match x with
  | none => none
  | some (.error c) => some (.error c)
  | some (.ok d) => h d
def lift1 (op : PyData → Option PyData) (f : Ef) : Ef := fun env => bindR (f env) fun x => (op x).map .ok
def lift2 (op : PyData → PyData → Option PyData) (f g : Ef) : Ef := fun env => bindR (f env) fun x => bindR (g env) fun y => (op x y).map .ok
/-- an operation's rule keeps what op tells -/
def Op2 (B : Bs) (m1 m2 m3 : Md) (op : PyData → PyData → Option PyData) (r : R2) : Prop :=
  ∀ x y z v u H1 H2 F H Q, op x y = some z → Got B m1 H1 F H v x → Got B m2 H2 F H u y → Dom F H → (∀ w F' H', Ext F H F' H' → Got B m3 H F' H' w z → Q w H') → r v u H Q
def Op1 (B : Bs) (m1 m3 : Md) (op : PyData → Option PyData) (r : V → Hp → VK → Prop) : Prop :=
  ∀ x z v H1 F H Q, op x = some z → Got B m1 H1 F H v x → Dom F H → (∀ w F' H', Ext F H F' H' → Got B m3 H F' H' w z → Q w H') → r v H Q
theorem Got.fwd {B : Bs} {m : Md} {H0 H H' : Hp} {F F' : Fz} {v : V} {d : PyData} (hm : m ≠ .o) (h : Got B m H0 F H v d) (x : Ext F H F' H') : Got B m H0 F' H' v d := by
  cases m with
  | e => exact h.ext x
  | r => exact h.ext x
  | o => exact (hm rfl).elim
  | v => exact Dd.mono (fun a ha z => ha (x.ex.free z)) x.ex.keep h
/-- the reading of a first operand, then the rest -/
theorem tM.step {B : Bs} {m m3 : Md} {op : PyData → Option Res} {σ : DS.St} {H : Hp} {Q Q' : VK} (h : tM B W xa m3 (fun env => bindR (f env) op) σ H Q)
    (k : ∀ (D : Bd) F env v d r F' H', Stt B D F H σ env → f env = some (.ok d) → op d = some r → Ext F H F' H' → Got B m H F' H' v d →
      (match r with | .ok z => ∀ w F2 H2, Ext F H F2 H2 → Got B m3 H F2 H2 w z → Q w H2 | .error c => ∀ H2, Ex H H2 → W (.ref (xa c)) none σ H2) → Q' v H') : tM B W xa m f σ H Q' := by
  obtain ⟨D, F, env, r, S, e, q⟩ := h
  simp only [bindR] at e
  cases hf : f env with
  | none => rw [hf] at e; cases e
  | some r1 =>
    rw [hf] at e
    cases r1 with
    | error c =>
      cases e
      exact ⟨D, F, env, .error c, S, hf, q⟩
    | ok d => exact ⟨D, F, env, .ok d, S, hf, fun v F' H' x g => k D F env v d r F' H' S hf e x g q⟩
theorem tOp_of {B : Bs} {m1 m2 m3 : Md} {op : PyData → PyData → Option PyData} {r : R2} (hm : m1 ≠ .o) (hr : Op2 B m1 m2 m3 op r) {σ : DS.St} {H : Hp} {Q : VK} (h : tM B W xa m3 (lift2 op f g) σ H Q) : tOp r (tM B W xa m1 f) (tM B W xa m2 g) σ H Q := by
  obtain ⟨D, F, env, r0, S, e, q⟩ := h
  simp only [lift2, bindR] at e
  cases hf : f env with
  | none => rw [hf] at e; cases e
  | some r1 =>
    rw [hf] at e
    cases r1 with
    | error c => cases e; exact ⟨D, F, env, .error c, S, hf, q⟩
    | ok x =>
      refine ⟨D, F, env, .ok x, S, hf, fun v F1 H1 x1 g1 => ?_⟩
      cases hg : g env with
      | none => simp only [hg] at e; cases e
      | some r2 =>
        simp only [hg] at e
        cases r2 with
        | error c => cases e; exact ⟨D, F1, env, .error c, S.ext x1, hg, fun H' e' => q H' (x1.ex.trans e')⟩
        | ok y =>
          refine ⟨D, F1, env, .ok y, S.ext x1, hg, fun u F2 H2 x2 g2 => ?_⟩
          simp only [Option.map_eq_some_iff] at e
          obtain ⟨z, e, rfl⟩ := e
          exact hr x y z v u H H1 F2 H2 Q e (g1.fwd hm x2) g2 x2.dom fun w F3 H3 x3 g3 => q w F3 H3 ((x1.trans x2).trans x3) (g3.back (x1.trans x2).ex)
theorem pd_op {m1 m2 m3 : Md} {op : Operator} {o2 : PyData → PyData → Option PyData} {r : R2} (hm : m1 ≠ .o) (ho : OpR X (binaryOp op) r) (hr : Op2 (bs X) m1 m2 m3 o2 r) (ha : PD X W xa m1 a f) (hb : PD X W xa m2 b g) : PD X W xa m3 (.BinOp a op b pos) (lift2 o2 f g) :=
  impE (pe_op ho ha hb) fun _ _ _ h => tOp_of hm hr h
theorem pd_cmp {m1 m2 m3 : Md} {op : CmpOp} {o2 : PyData → PyData → Option PyData} {r : R2} (hm : m1 ≠ .o) (ho : OpR X (compareOp op) r) (hr : Op2 (bs X) m1 m2 m3 o2 r) (ha : PD X W xa m1 a f) (hb : PD X W xa m2 b g) (hn : behindInMarks op b = false) : PD X W xa m3 (.Compare a [op] [b] pos) (lift2 o2 f g) :=
  impE (pe_cmpR ho ha hb hn) fun _ _ _ h => tOp_of hm hr h
theorem pd_ix {m1 m2 m3 : Md} {o2 : PyData → PyData → Option PyData} {r : R2} (hm : m1 ≠ .o) (ho : IxR X r) (hr : Op2 (bs X) m1 m2 m3 o2 r) (ha : PD X W xa m1 a f) (hb : PD X W xa m2 b g) (hs : PlainIx b) : PD X W xa m3 (.Subscript a b pos) (lift2 o2 f g) :=
  impE (pe_ix ho ha hb hs) fun _ _ _ h => tOp_of hm hr h
end
end DS
namespace DS
open PySem PySem.Spec PyProof.Rows L2
section
variable {B : Bs} {F : Fz} {H : Hp} {v : V}
theorem Dd.int_ {i : Int} (h : Dd B F H v (.int i)) : v = .int i := by cases h; rfl
theorem Dd.bl_ {i : Bool} (h : Dd B F H v (.bool i)) : v = .bl i := by cases h; rfl
theorem Dd.str_ {i : Str} (h : Dd B F H v (.str i)) : v = .str i := by cases h; rfl
theorem Dd.non_ (h : Dd B F H v .none) : v = .non := by cases h; rfl
theorem Dd.tup_ {ds : List PyData} (h : Dd B F H v (.tuple ds)) : ∃ a xs, v = .ref a ∧ TupF H a xs ∧ DdAll B F H xs ds := by
  cases h with
  | tup h r => exact ⟨_, _, rfl, h, r⟩
theorem Top.int_ {i : Int} (h : Top B F H v (.int i)) : v = .int i := by
  cases h with
  | dd h => exact h.int_
  | own h => cases h
theorem Top.non_ (h : Top B F H v .none) : v = .non := by
  cases h with
  | dd h => exact h.non_
  | own h => cases h
theorem Top.dp {d : PyData} (hd : d.canLay0 = true) (h : Top B F H v d) : Dp B.K H v d := by
  cases h with
  | dd h => exact h.dp hd
  | own h => cases h with
    | lst h _ r => exact .lst (.of h) (r.dp (by simpa [PyData.canLay0] using hd))
    | dic h _ r => simp [PyData.canLay0] at hd
end
section
variable {X : Cx} {pins : List (Addr × Obj)} {σ : DS.St} {H : Hp} {s : Shared}
theorem TupF.new {H : Hp} {p : Addr} {o : Obj} {xs : List V} (h : o.dict = none) : TupF (upd H p (.frz o (.tup xs))) p xs := ⟨o, h, upd_same⟩
theorem Inv.newTup {xs : List V} {its : List Value} (I : Inv X pins σ H s) (r : Vals xs its) (z : xs.length ≤ sizeLine) : ∃ o : Obj, o.dict = none ∧ H s.heap.objs.size = none ∧
    Inv X pins σ (upd H s.heap.objs.size (.frz o (.tup xs))) { s with heap := s.heap.push { cls := .type "tuple", data := .seq its.toArray } } :=
  ⟨{ cls := .type "tuple", data := .seq its.toArray }, rfl, I.hok.fresh (Nat.le_refl _), I.laid (t' := s.toks) (fun b u e => Heap.get?_push_of_some _ e) (Nat.le_refl _) ⟨Heap.get?_push_size _ rfl, z, its, r, ⟨_, Heap.get?_push_size _ rfl, rfl, _, rfl⟩⟩⟩
/-- what is wanted of a new tuple -/
abbrev NewT (xs : List V) (H : Hp) (Q : VK) : Prop := ∀ p (o : Obj), o.dict = none → H p = none → Q (.ref p) (upd H p (.frz o (.tup xs)))
theorem Inv.newEP {xs : List V} {its : List Value} {Q : VK} (I : Inv X pins σ H s) (r : Vals xs its) (z : xs.length ≤ sizeLine) (q : NewT xs H Q) : EP X pins σ Q (.ref s.heap.objs.size) { s with heap := s.heap.push { cls := .type "tuple", data := .seq its.toArray } } := by
  obtain ⟨o, h1, h2, I1⟩ := DS.Inv.newTup I r z
  exact ⟨.ref s.heap.objs.size, _, I1, rfl, q _ o h1 h2⟩
def tTupF (t : TA) : TE := fun σ H Q => t σ H fun xs H1 => xs.length ≤ sizeLine ∧ NewT xs H1 Q
theorem pe_tupF {es : List Expr} {t : TA} {pos : Pos} {x1} (h : PA X es t) : PE X (.Tuple es x1 pos) (tTupF t) := by
  refine ⟨fun pins s σ H Q I hq => ?_⟩
  exact wpAny_Tuple_spliced (thn (h.run pos pins s σ H _ I hq) fun us s1 ⟨xs, H1, I1, r, z, q⟩ => ⟨by rw [← r.length]; exact z, DS.Inv.newEP I1 r z q⟩)
def rCatF (K : PySem.W.Frag) : R2 := fun x y H Q => ∃ a b xs ys, x = .ref a ∧ y = .ref b ∧ SqT K H a xs ∧ SqT K H b ys ∧ xs.length + ys.length ≤ sizeLine ∧
  (xs = [] → Q (.ref b) H) ∧ (xs ≠ [] → ys = [] → Q (.ref a) H) ∧ (xs ≠ [] → ys ≠ [] → NewT (xs ++ ys) H Q)
theorem op_catF : OpR X (binaryOp .Add) (rCatF X.K) := by
  intro pins s σ H x y v u Q I rx ry h
  obtain ⟨a, b, xs, ys, rfl, rfl, ha, hb, hz, q0, q1, q2⟩ := h
  cases rx
  cases ry
  obtain ⟨its, r1, p1, _⟩ := I.tuple ha
  obtain ⟨its2, r2, p2, _⟩ := I.tuple hb
  by_cases hx : xs = []
  · subst hx
    cases r1
    exact cat_tup0 p1 p2 ⟨.ref b, H, I, rfl, q0 rfl⟩
  · exact HT.cat_tup p1 p2 (fun z => hx (r1.nil_iff.mp z)) (fun z => ⟨.ref a, H, I, rfl, q1 hx (r2.nil_iff.mp z)⟩) (fun z => DS.Inv.newEP I (r1.append r2) (by rw [List.length_append]; exact hz) (q2 hx fun w => z (r2.nil_iff.mpr w))) (by rw [← r1.length, ← r2.length]; exact hz)
def rSlF (K : PySem.W.Frag) : V → Option Int → Option Int → Hp → VK → Prop := fun x lo hi H Q => ∃ a xs, x = .ref a ∧ SqT K H a xs ∧
  (HT.sIx xs.length 0 lo = 0 ∧ HT.sIx xs.length xs.length hi = xs.length → Q (.ref a) H) ∧ (¬ (HT.sIx xs.length 0 lo = 0 ∧ HT.sIx xs.length xs.length hi = xs.length) → NewT (cutV xs lo hi) H Q)
theorem sl_tupF : SlR X (rSlF X.K) := by
  intro pins s σ H x v vl vu lo hi sl Q I rx hs pl pu h
  obtain ⟨a, xs, rfl, hx, q1, q2⟩ := h
  cases rx
  obtain ⟨its, r, ht, hz⟩ := I.tuple hx
  have hlen : its.toArray.size = xs.length := by rw [List.size_toArray]; exact r.length.symm
  by_cases hw : HT.sIx xs.length 0 lo = 0 ∧ HT.sIx xs.length xs.length hi = xs.length
  · refine ⟨"tuple", _, PyProof.Rows.slot_tuple_getitem.lookup, ht.typeIs, ?_⟩
    exact getItem_tuple_whole ht hs pl pu (by rw [hlen]; exact hw) ⟨.ref a, H, I, rfl, q1 hw⟩
  · refine ⟨"tuple", _, PyProof.Rows.slot_tuple_getitem.lookup, ht.typeIs, ?_⟩
    refine HT.getItem_tuple_cut ht hs pl pu (by rw [hlen]; exact hw) ?_ (by rw [hlen]; exact hz)
    rw [hlen]
    exact DS.Inv.newEP I ((r.drop (HT.sIx xs.length 0 lo)).take (HT.sIx xs.length xs.length hi - HT.sIx xs.length 0 lo)) (Nat.le_trans (cutV_length xs lo hi) hz) (q2 hw)
theorem call_tupleF : CallR X (.type "tuple") (fun xs H Q => ∃ p ys, xs = [.ref p] ∧ ((SqL X.K H p ys ∧ NewT ys H Q) ∨ (SqT X.K H p ys ∧ Q (.ref p) H))) := by
  intro pins s σ H xs us Q I r h
  obtain ⟨p, ys, rfl, h⟩ := h
  obtain ⟨u, rfl, rx⟩ := vals1 r
  cases rx
  rcases h with ⟨hq, q⟩ | ⟨hq, q⟩
  · obtain ⟨its, r', pl, hz⟩ := I.list hq
    have hlen := r'.length
    refine call_tuple_list pl.isList (fun h' kp => ?_) (by simp only [List.size_toArray] <;> omega)
    have I1 : Inv X pins σ H { s with heap := h' } := I.kept (t' := s.toks) kp
    exact DS.Inv.newEP I1 r' hz q
  · obtain ⟨its, r', pl, hz⟩ := I.tuple hq
    exact call_tuple_same pl ⟨.ref p, H, I, rfl, q⟩
end
def dInt2 (g : Int → Int → Option Int) : PyData → PyData → Option PyData
  | .int i, .int j => (g i j).map .int
  | _, _ => none
def iSub : PyData → PyData → Option PyData := dInt2 fun i j => some (i - j)
def iMul : PyData → PyData → Option PyData := dInt2 fun i j => if (-(2 ^ 64) < i ∧ i < 2 ^ 64) ∨ (-(2 ^ 64) < j ∧ j < 2 ^ 64) then some (i * j) else none
def iDiv : PyData → PyData → Option PyData := dInt2 fun i j => if 0 < j ∧ j < 1073741824 then some (i / j) else none
def iMod : PyData → PyData → Option PyData := dInt2 fun i j => if 0 < j then some (i % j) else none
def iPow : PyData → PyData → Option PyData := dInt2 fun i j => if 0 ≤ j ∧ j ≤ 1000000 ∧ i.natAbs < 2 ^ 64 then some (i ^ j.toNat) else none
/-- ints, tuples -/
def iAdd : PyData → PyData → Option PyData
  | .int i, .int j => some (.int (i + j))
  | .tuple xs, .tuple ys => if xs.length + ys.length ≤ sizeLine then some (.tuple (xs ++ ys)) else none
  | _, _ => none
/-- lists -/
def iCat : PyData → PyData → Option PyData
  | .list xs, .list ys => if xs.length + ys.length ≤ sizeLine then some (.list (xs ++ ys)) else none
  | _, _ => none
def iRep : PyData → PyData → Option PyData
  | .list xs, .int k => if 0 ≤ k ∧ k ≤ 1000 ∧ xs.length * k.toNat ≤ sizeLine then some (.list (List.replicate k.toNat xs).flatten) else none
  | _, _ => none
section
variable {X : Cx} {W : WX} {xa : Xc → Addr} {e a b c : Expr} {f g h : Ef} {pos : Pos} {m1 m2 m3 : Md}
theorem op2_int {C : Int → Int → Prop} {g : Int → Int → Int} {g' : Int → Int → Option Int} (hg : ∀ i j z, g' i j = some z → C i j ∧ z = g i j) : Op2 (bs X) .e .e .e (dInt2 g') (rI C fun i j => .int (g i j)) := by
  intro x y z v u H1 H2 F H Q e gx gy hd k
  cases x <;> first | (simp [dInt2] at e; done) | skip
  rename_i i
  cases y <;> first | (simp [dInt2] at e; done) | skip
  rename_i j
  simp only [dInt2, Option.map_eq_some_iff] at e
  obtain ⟨z, e, rfl⟩ := e
  obtain ⟨hc, rfl⟩ := hg i j z e
  exact ⟨i, j, Dd.int_ gx, Dd.int_ gy, hc, k _ F H (Ext.refl hd) (.int _)⟩
theorem op2_int0 {g : Int → Int → Int} : Op2 (bs X) .e .e .e (dInt2 fun i j => some (g i j)) (rI0 fun i j => .int (g i j)) := by
  intro x y z v u H1 H2 F H Q e gx gy hd k
  cases x <;> first | (simp [dInt2] at e; done) | skip
  rename_i i
  cases y <;> first | (simp [dInt2] at e; done) | skip
  rename_i j
  simp only [dInt2, Option.map_eq_some_iff] at e
  obtain ⟨z, e, rfl⟩ := e
  cases e
  exact ⟨i, j, Dd.int_ gx, Dd.int_ gy, k _ F H (Ext.refl hd) (.int _)⟩
theorem pd_sub (ha : PD X W xa .e a f) (hb : PD X W xa .e b g) : PD X W xa .e (.BinOp a .Sub b pos) (lift2 iSub f g) := pd_op (by simp) op_sub op2_int0 ha hb
theorem pd_mul (ha : PD X W xa .e a f) (hb : PD X W xa .e b g) : PD X W xa .e (.BinOp a .Mult b pos) (lift2 iMul f g) := pd_op (by simp) op_mul (op2_int fun i j z e => by
  simp only [ite_eq_left_iff, Option.ite_none_right_eq_some, Option.some.injEq] at e
  exact ⟨e.1, e.2.symm⟩) ha hb
theorem pd_div (ha : PD X W xa .e a f) (hb : PD X W xa .e b g) : PD X W xa .e (.BinOp a .FloorDiv b pos) (lift2 iDiv f g) := pd_op (by simp) op_fdiv (op2_int fun i j z e => by
  simp only [Option.ite_none_right_eq_some, Option.some.injEq] at e
  exact ⟨e.1, e.2.symm⟩) ha hb
theorem pd_mod (ha : PD X W xa .e a f) (hb : PD X W xa .e b g) : PD X W xa .e (.BinOp a .Mod b pos) (lift2 iMod f g) := pd_op (by simp) op_mod (op2_int fun i j z e => by
  simp only [Option.ite_none_right_eq_some, Option.some.injEq] at e
  exact ⟨e.1, e.2.symm⟩) ha hb
theorem pd_pow (ha : PD X W xa .e a f) (hb : PD X W xa .e b g) : PD X W xa .e (.BinOp a .Pow b pos) (lift2 iPow f g) := pd_op (by simp) op_pow (op2_int fun i j z e => by
  simp only [Option.ite_none_right_eq_some, Option.some.injEq] at e
  exact ⟨e.1, e.2.symm⟩) ha hb
theorem pd_add (ha : PD X W xa .e a f) (hb : PD X W xa .e b g) : PD X W xa .e (.BinOp a .Add b pos) (lift2 iAdd f g) := pd_op (by simp) (op_add.or op_catF) (by
  intro x y z v u H1 H2 F H Q e gx gy hd k
  cases x <;> first | (simp [iAdd] at e; done) | skip
  · rename_i i
    cases y <;> first | (simp [iAdd] at e; done) | skip
    rename_i j
    simp only [iAdd, Option.some.injEq] at e
    subst e
    exact .inl ⟨i, j, Dd.int_ gx, Dd.int_ gy, k _ F H (Ext.refl hd) (.int _)⟩
  · rename_i xs
    cases y <;> first | (simp [iAdd] at e; done) | skip
    rename_i ys
    simp only [iAdd, Option.ite_none_right_eq_some, Option.some.injEq] at e
    obtain ⟨hz, rfl⟩ := e
    obtain ⟨p, ps, rfl, hp, rp⟩ := Dd.tup_ gx
    obtain ⟨q, qs, rfl, hq, rq⟩ := Dd.tup_ gy
    refine .inr ⟨p, q, ps, qs, rfl, rfl, hp.sq, hq.sq, by rw [rp.length, rq.length]; exact hz, fun e => ?_, fun e1 e => ?_, fun e1 e2 t o ho ht => ?_⟩
    · subst e
      cases rp
      exact k _ F H (Ext.refl hd) gy
    · subst e
      cases rq
      exact k _ F H (Ext.refl hd) (by simp only [List.append_nil]; exact gx)
    · have x := Ext.of hd (Ex.new (o := .frz o (.tup (ps ++ qs))) ht)
      exact k _ F _ x (.tup (.new ho) ((rp.ext x).append (rq.ext x)))) ha hb
theorem pd_catL (ha : PD X W xa .r a f) (hb : PD X W xa .r b g) : PD X W xa .o (.BinOp a .Add b pos) (lift2 iCat f g) := pd_op (by simp) op_cat (by
  intro x y z v u H1 H2 F H Q e gx gy hd k
  cases x <;> first | (simp [iCat] at e; done) | skip
  rename_i xs
  cases y <;> first | (simp [iCat] at e; done) | skip
  rename_i ys
  simp only [iCat, Option.ite_none_right_eq_some, Option.some.injEq] at e
  obtain ⟨hz, rfl⟩ := e
  obtain ⟨p, ps, rfl, hp, zp, rp⟩ := Top.lst gx
  obtain ⟨q, qs, rfl, hq, zq, rq⟩ := Top.lst gy
  have hz' : ps.length + qs.length ≤ sizeLine := by rw [rp.length, rq.length]; exact hz
  refine ⟨p, q, ps, qs, rfl, rfl, hp, hq, hz', fun t ht => ?_⟩
  have x := Ext.of hd (Ex.new (o := .lst (ps ++ qs)) ht)
  exact k _ F _ x ⟨t, rfl, fun f => hd t f ht, ht, .lst upd_same (by rw [List.length_append]; exact hz') ((rp.ext x).append (rq.ext x))⟩) ha hb
def dNeg : PyData → Option PyData
  | .int i => some (.int (-i))
  | _ => none
theorem tUn_of {op : PyData → Option PyData} {r : V → Hp → VK → Prop} (hr : Op1 (bs X) m1 m3 op r) {σ : DS.St} {H : Hp} {Q : VK} (h : tM (bs X) W xa m3 (lift1 op f) σ H Q) : tUn r (tM (bs X) W xa m1 f) σ H Q := by
  obtain ⟨D, F, env, r0, S, e, q⟩ := h
  simp only [lift1, bindR] at e
  cases hf : f env with
  | none => rw [hf] at e; cases e
  | some r1 =>
    rw [hf] at e
    cases r1 with
    | error c => cases e; exact ⟨D, F, env, .error c, S, hf, q⟩
    | ok x =>
      simp only [Option.map_eq_some_iff] at e
      obtain ⟨z, e, rfl⟩ := e
      exact ⟨D, F, env, .ok x, S, hf, fun v F1 H1 x1 g1 => hr x z v H F1 H1 Q e g1 x1.dom fun w F2 H2 x2 g2 => q w F2 H2 (x1.trans x2) (g2.back x1.ex)⟩
theorem pd_neg (ha : PD X W xa .e a f) : PD X W xa .e (.UnaryOp .USub a pos) (lift1 dNeg f) := impE (pe_un un_neg ha) fun _ _ _ h => tUn_of (by
  intro x z v H1 F H Q e g hd k
  cases x <;> first | (simp [dNeg] at e; done) | skip
  rename_i i
  simp only [dNeg, Option.some.injEq] at e
  subst e
  exact ⟨i, Dd.int_ g, k _ F H (Ext.refl hd) (.int _)⟩) h
def dCmp (p : Int → Int → Bool) : PyData → PyData → Option PyData
  | .int i, .int j => some (.bool (p i j))
  | _, _ => none
def dLt : PyData → PyData → Option PyData := dCmp fun i j => decide (i < j)
def dLe : PyData → PyData → Option PyData := dCmp fun i j => decide (i ≤ j)
def dGt : PyData → PyData → Option PyData := dCmp fun i j => decide (j < i)
def dGe : PyData → PyData → Option PyData := dCmp fun i j => decide (j ≤ i)
theorem op2_cmp {p : Int → Int → Bool} : Op2 (bs X) .e .e .e (dCmp p) (rI0 fun i j => .bl (p i j)) := by
  intro x y z v u H1 H2 F H Q e gx gy hd k
  cases x <;> first | (simp [dCmp] at e; done) | skip
  rename_i i
  cases y <;> first | (simp [dCmp] at e; done) | skip
  rename_i j
  simp only [dCmp, Option.some.injEq] at e
  subst e
  exact ⟨i, j, Dd.int_ gx, Dd.int_ gy, k _ F H (Ext.refl hd) (.bl _)⟩
/-- == of data -/
def dEq (neg : Bool) (x y : PyData) : Option PyData := if (SeqAt.shaped x && SeqAt.shaped y) = true then some (.bool (if neg then !PyData.eqv x y else PyData.eqv x y)) else none
theorem op2_eq : Op2 (bs X) .r .r .e (dEq false) (rEqD X.K) := by
  intro x y z v u H1 H2 F H Q e gx gy hd k
  simp only [dEq, Bool.and_eq_true, Option.ite_none_right_eq_some, Option.some.injEq] at e
  obtain ⟨⟨s1, s2⟩, rfl⟩ := e
  exact ⟨x, y, Top.dp (SeqAt.canLay_of_shaped s1) gx, Top.dp (SeqAt.canLay_of_shaped s2) gy, s1, s2, k _ F H (Ext.refl hd) (.bl _)⟩
theorem op2_ne : Op2 (bs X) .r .r .e (dEq true) (rNeD X.K) := by
  intro x y z v u H1 H2 F H Q e gx gy hd k
  simp only [dEq, Bool.and_eq_true, Option.ite_none_right_eq_some, Option.some.injEq] at e
  obtain ⟨⟨s1, s2⟩, rfl⟩ := e
  exact ⟨x, y, Top.dp (SeqAt.canLay_of_shaped s1) gx, Top.dp (SeqAt.canLay_of_shaped s2) gy, s1, s2, k _ F H (Ext.refl hd) (.bl _)⟩
/-- is None -/
def dIsN (neg : Bool) (x y : PyData) : Option PyData := match y with
  | .none => some (.bool (match x with | .none => !neg | _ => neg))
  | _ => none
theorem dd_non {B : Bs} {F : Fz} {H : Hp} {v : V} {d : PyData} (h : Top B F H v d) : decide (v = .non) = (match d with | .none => true | _ => false) := by
  cases h with
  | dd h => cases h <;> rfl
  | own h => cases h <;> rfl
theorem op2_isN : Op2 (bs X) .r .e .e (dIsN false) (fun x y H Q => y = .non ∧ Q (.bl (decide (x = .non))) H) := by
  intro x y z v u H1 H2 F H Q e gx gy hd k
  cases y <;> first | (simp [dIsN] at e; done) | skip
  simp only [dIsN, Option.some.injEq] at e
  refine ⟨Dd.non_ gy, ?_⟩
  rw [dd_non (show Top (bs X) F H v x from gx)]
  refine k _ F H (Ext.refl hd) ?_
  subst e
  cases x <;> exact .bl _
theorem op2_notN : Op2 (bs X) .r .e .e (dIsN true) (fun x y H Q => y = .non ∧ Q (.bl (!decide (x = .non))) H) := by
  intro x y z v u H1 H2 F H Q e gx gy hd k
  cases y <;> first | (simp [dIsN] at e; done) | skip
  simp only [dIsN, Option.some.injEq] at e
  refine ⟨Dd.non_ gy, ?_⟩
  rw [dd_non (show Top (bs X) F H v x from gx)]
  refine k _ F H (Ext.refl hd) ?_
  subst e
  cases x <;> exact .bl _
def kAt (kvs : List (PyData × PyData)) (k : NestedKey) : Option PyData := (kvs.find? fun p => decide (nk p.1 = some k)).map (·.2)
def isScr : List (PyData × PyData) → Bool
  | (.none, _) :: _ => true
  | _ => false
def kOk (x : PyData) : Option NestedKey := match x with
  | .tuple _ => match nk x with
    | some k => if k.depth ≤ 8 then some k else none
    | none => none
  | _ => none
def dIn (neg : Bool) (x y : PyData) : Option PyData := match y with
  | .list ds => if (SeqAt.shaped x && SeqAt.shaped (.list ds)) = true then some (.bool (if neg then !(ds.any fun z => PyData.eqv z x) else ds.any fun z => PyData.eqv z x)) else none
  | .tuple ds => if (SeqAt.shaped x && SeqAt.shaped (.tuple ds)) = true then some (.bool (if neg then !(ds.any fun z => PyData.eqv z x) else ds.any fun z => PyData.eqv z x)) else none
  | .dict kvs => if isScr kvs = true then none else (kOk x).map fun k => .bool (if neg then !(kAt kvs k).isSome else (kAt kvs k).isSome)
  | _ => none
def rInT (K : PySem.W.Frag) (neg : Bool) : R2 := fun x y H Q => ∃ d ds, Dp K H x d ∧ Dp K H y (.tuple ds) ∧ SeqAt.shaped d = true ∧ SeqAt.shaped (.tuple ds) = true ∧ Q (.bl (if neg then !(ds.any fun z => PyData.eqv z d) else ds.any fun z => PyData.eqv z d)) H
theorem op_inT (hu : X.A.units + 65 < cLine) : OpR X (compareOp .In) (rInT X.K false) := by
  intro pins s σ H x y v u Q I rx ry h
  obtain ⟨d, ds, hd, he, sd, se, q⟩ := h
  obtain ⟨as, r1⟩ := Dp.reads I d x v hd rx
  obtain ⟨bs, r2⟩ := Dp.reads I (.tuple ds) y u he ry
  exact SeqAt.in_tuple_reads r2 r1 (SeqAt.canLay_of_shaped se) (SeqAt.canLay_of_shaped sd) (PyProof.Rows.room_in_shaped sd hu) ⟨.bl _, H, I, rfl, q⟩
theorem op_notInT (hu : X.A.units + 65 < cLine) : OpR X (compareOp .NotIn) (rInT X.K true) := by
  intro pins s σ H x y v u Q I rx ry h
  obtain ⟨d, ds, hd, he, sd, se, q⟩ := h
  obtain ⟨as, r1⟩ := Dp.reads I d x v hd rx
  obtain ⟨bs, r2⟩ := Dp.reads I (.tuple ds) y u he ry
  exact SeqAt.notIn_tuple_reads r2 r1 (SeqAt.canLay_of_shaped se) (SeqAt.canLay_of_shaped sd) (PyProof.Rows.room_in_shaped sd hu) ⟨.bl _, H, I, rfl, q⟩
/-- the dict at a reads as kvs -/
def NdR (B : Bs) (H : Hp) (a : Addr) (kvs : List (PyData × PyData)) : Prop := ∃ (F : Fz) (xs : List KE1), Rd H a (ndO B a xs) ∧ DdPairs B F H xs kvs
def KeyR (B : Bs) (H : Hp) (b : Addr) (k : NestedKey) : Prop := ∃ (F : Fz) (d : PyData), Dd B F H (.ref b) d ∧ nk d = some k ∧ k.depth ≤ 8
theorem KN.at_ : ∀ {xs : List KE1} {ys : List (NestedKey × Addr × Value)}, KN xs ys → ∀ k, RelO ((xs.find? fun x => decide (x.1 = k)).map (·.2.2)) ((atKey ys k).map (·.2))
  | _, _, .nil, k => True.intro
  | _, _, .cons (a := p) (b := q) r t, k => by
    have ih := KN.at_ t k
    by_cases e : p.1 = k
    · have e' : q.1 = k := r.1.symm.trans e
      simp only [atKey, List.find?_cons, e, e', decide_true, Option.map_some]
      exact r.2.2
    · have e' : ¬ q.1 = k := fun z => e (r.1.trans z)
      simp only [atKey, List.find?_cons, e, e', decide_false] at ih ⊢
      exact ih
theorem DdPairs.at_ {B : Bs} {F : Fz} {H : Hp} : ∀ {xs : List KE1} {kvs : List (PyData × PyData)}, DdPairs B F H xs kvs → ∀ k,
    (∃ x d, (xs.find? fun x => decide (x.1 = k)).map (·.2.2) = some x ∧ kAt kvs k = some d ∧ Dd B F H x d) ∨ ((xs.find? fun x => decide (x.1 = k)).map (·.2.2) = none ∧ kAt kvs k = none)
  | _, _, .nil, k => .inr ⟨rfl, rfl⟩
  | _, _, .cons (k := j) a n z b t, k => by
    by_cases e : j = k
    · subst e
      refine .inl ⟨_, _, ?_, ?_, b⟩
      · simp only [List.find?_cons, decide_true, Option.map_some]
      · simp only [kAt, List.find?_cons, n, decide_true, Option.map_some]
    · have e' : ¬ (some j = some k) := fun q => e (Option.some.inj q)
      have ih := t.at_ k
      simp only [kAt, List.find?_cons, n, e, e', decide_false] at ih ⊢
      exact ih
theorem nroom {A : Around} (hu : A.units + 65 < cLine) : (nestedKind X.prog X.w).room A.in1 := by
  show A.units + 1 + 8 < cLine
  omega
def rInN (B : Bs) (neg : Bool) : R2 := fun x y H Q => ∃ a b kvs k, x = .ref b ∧ y = .ref a ∧ NdR B H a kvs ∧ KeyR B H b k ∧ Q (.bl (if neg then !(kAt kvs k).isSome else (kAt kvs k).isSome)) H
theorem nd_isSome {ys : List (NestedKey × Addr × Value)} {xs : List KE1} {kvs : List (PyData × PyData)} {F : Fz} {H : Hp} {B : Bs} (p : DdPairs B F H xs kvs) (r : KN xs ys) (k : NestedKey) : (atKey ys k).isSome = (kAt kvs k).isSome := by
  have h1 := (r.at_ k).isSome_eq
  rw [Option.isSome_map] at h1
  rw [Option.isSome_map] at h1
  rw [← h1]
  rcases p.at_ k with ⟨x, d, e1, e2, _⟩ | ⟨e1, e2⟩
  · rw [e2]
    have := congrArg Option.isSome e1
    rw [Option.isSome_map] at this
    rw [this]
    rfl
  · rw [e2]
    have := congrArg Option.isSome e1
    rw [Option.isSome_map] at this
    rw [this]
    rfl
theorem op_inN (hu : X.A.units + 65 < cLine) : OpR X (compareOp .In) (rInN (bs X) false) := by
  intro pins s σ H x y v u Q I rx ry h
  obtain ⟨a, b, kvs, k, rfl, rfl, ⟨F, xs, hr, hp⟩, ⟨F', d, hk, nkd, dz⟩, q⟩ := h
  cases rx
  cases ry
  obtain ⟨z, hd, ys, r, dd⟩ := nd_of I hr hp
  refine wpAny_in_heap (nroom hu) (hk.isKey I nkd dz) hd dd ?_
  rw [nd_isSome hp r k]
  exact ⟨.bl _, H, I.tok _, rfl, q⟩
theorem op_notInN (hu : X.A.units + 65 < cLine) : OpR X (compareOp .NotIn) (rInN (bs X) true) := by
  intro pins s σ H x y v u Q I rx ry h
  obtain ⟨a, b, kvs, k, rfl, rfl, ⟨F, xs, hr, hp⟩, ⟨F', d, hk, nkd, dz⟩, q⟩ := h
  cases rx
  cases ry
  obtain ⟨z, hd, ys, r, dd⟩ := nd_of I hr hp
  refine wpAny_notIn_heap (nroom hu) (hk.isKey I nkd dz) hd dd ?_
  rw [nd_isSome hp r k]
  exact ⟨.bl _, H, I.tok _, rfl, q⟩
theorem kOk_ref {B : Bs} {F : Fz} {H : Hp} {v : V} {x : PyData} {k : NestedKey} (e : kOk x = some k) (h : Dd B F H v x) : ∃ b, v = .ref b ∧ KeyR B H b k := by
  cases x <;> first | (simp [kOk] at e; done) | skip
  rename_i ds
  obtain ⟨b, xs, rfl, _, _⟩ := h.tup_
  simp only [kOk] at e
  split at e
  · rename_i k' e'
    simp only [Option.ite_none_right_eq_some, Option.some.injEq] at e
    obtain ⟨z, rfl⟩ := e
    exact ⟨b, rfl, F, _, h, e', z⟩
  · cases e
theorem Top.ndr {B : Bs} {F : Fz} {H : Hp} {v : V} {kvs : List (PyData × PyData)} (hk : isScr kvs = false) (h : Top B F H v (.dict kvs)) : ∃ a xs, v = .ref a ∧ Rd H a (ndO B a xs) ∧ xs.length ≤ sizeLine ∧ DdPairs B F H xs kvs := by
  generalize hd : PyData.dict kvs = d at h
  cases h with
  | dd h => cases h with
    | dic h z p => cases hd; exact ⟨_, _, rfl, .inr ⟨_, h⟩, z, p⟩
    | scr h =>
      injection hd with hd
      subst hd
      simp [isScr] at hk
    | exc h =>
      injection hd with hd
      subst hd
      simp [isScr] at hk
    | adr a =>
      injection hd with hd
      subst hd
      simp [isScr] at hk
    | dk f h z a =>
      injection hd with hd
      subst hd
      simp [isScr] at hk
    | ins f h z a =>
      injection hd with hd
      subst hd
      simp [isScr] at hk
    | _ => cases hd
  | own h => cases h with
    | dic h z p => cases hd; exact ⟨_, _, rfl, .inl h, z, p⟩
    | _ => cases hd
theorem op2_in (neg : Bool) (rl rt : R2) (hl : ∀ x y H Q, (∃ d ds, Dp X.K H x d ∧ Dp X.K H y (.list ds) ∧ SeqAt.shaped d = true ∧ SeqAt.shaped (.list ds) = true ∧ Q (.bl (if neg then !(ds.any fun z => PyData.eqv z d) else ds.any fun z => PyData.eqv z d)) H) → rl x y H Q) :
    Op2 (bs X) .e .r .e (dIn neg) (fun x y H Q => rl x y H Q ∨ (rInT X.K neg x y H Q ∨ rInN (bs X) neg x y H Q)) := by
  intro x y z v u H1 H2 F H Q e gx gy hd k
  cases y <;> first | (simp [dIn] at e; done) | skip
  · rename_i ds
    simp only [dIn, Bool.and_eq_true, Option.ite_none_right_eq_some, Option.some.injEq] at e
    obtain ⟨⟨s1, s2⟩, rfl⟩ := e
    exact .inl (hl _ _ _ _ ⟨x, ds, Dd.dp (SeqAt.canLay_of_shaped s1) gx, Top.dp (SeqAt.canLay_of_shaped s2) gy, s1, s2, k _ F H (Ext.refl hd) (.bl _)⟩)
  · rename_i ds
    simp only [dIn, Bool.and_eq_true, Option.ite_none_right_eq_some, Option.some.injEq] at e
    obtain ⟨⟨s1, s2⟩, rfl⟩ := e
    exact .inr (.inl ⟨x, ds, Dd.dp (SeqAt.canLay_of_shaped s1) gx, Top.dp (SeqAt.canLay_of_shaped s2) gy, s1, s2, k _ F H (Ext.refl hd) (.bl _)⟩)
  · rename_i kvs
    simp only [dIn, Option.ite_none_left_eq_some, Option.map_eq_some_iff, Bool.not_eq_true] at e
    obtain ⟨hs, j, e, rfl⟩ := e
    obtain ⟨a, xs, rfl, h1, _, h2⟩ := Top.ndr hs gy
    obtain ⟨b, rfl, hb⟩ := kOk_ref e gx
    exact .inr (.inr ⟨a, b, kvs, j, rfl, rfl, ⟨F, xs, h1, h2⟩, hb, k _ F H (Ext.refl hd) (.bl _)⟩)
theorem pd_in (hu : X.A.units + 65 < cLine) (ha : PD X W xa .e a f) (hb : PD X W xa .r b g) (hn : behindInMarks .In b = false) : PD X W xa .e (.Compare a [.In] [b] pos) (lift2 (dIn false) f g) :=
  pd_cmp (by simp) ((op_inD hu).or ((op_inT hu).or (op_inN hu))) (op2_in false _ (rInT X.K false) fun _ _ _ _ h => h) ha hb hn
theorem pd_nin (hu : X.A.units + 65 < cLine) (ha : PD X W xa .e a f) (hb : PD X W xa .r b g) (hn : behindInMarks .NotIn b = false) : PD X W xa .e (.Compare a [.NotIn] [b] pos) (lift2 (dIn true) f g) :=
  pd_cmp (by simp) ((op_notInD hu).or ((op_notInT hu).or (op_notInN hu))) (op2_in true _ (rInT X.K true) fun _ _ _ _ h => h) ha hb hn
theorem pd_lt (ha : PD X W xa .e a f) (hb : PD X W xa .e b g) : PD X W xa .e (.Compare a [.Lt] [b] pos) (lift2 dLt f g) := pd_cmp (by simp) op_lt op2_cmp ha hb (nomark _)
theorem pd_le (ha : PD X W xa .e a f) (hb : PD X W xa .e b g) : PD X W xa .e (.Compare a [.LtE] [b] pos) (lift2 dLe f g) := pd_cmp (by simp) op_le op2_cmp ha hb (nomark _)
theorem pd_gt (ha : PD X W xa .e a f) (hb : PD X W xa .e b g) : PD X W xa .e (.Compare a [.Gt] [b] pos) (lift2 dGt f g) := pd_cmp (by simp) op_gt op2_cmp ha hb (nomark _)
theorem pd_ge (ha : PD X W xa .e a f) (hb : PD X W xa .e b g) : PD X W xa .e (.Compare a [.GtE] [b] pos) (lift2 dGe f g) := pd_cmp (by simp) op_ge op2_cmp ha hb (nomark _)
theorem pd_eq (hu : X.A.units + 65 < cLine) (ha : PD X W xa .r a f) (hb : PD X W xa .r b g) : PD X W xa .e (.Compare a [.Eq] [b] pos) (lift2 (dEq false) f g) := pd_cmp (by simp) (op_eqD (by omega)) op2_eq ha hb (nomark _)
theorem pd_ne (hu : X.A.units + 65 < cLine) (ha : PD X W xa .r a f) (hb : PD X W xa .r b g) : PD X W xa .e (.Compare a [.NotEq] [b] pos) (lift2 (dEq true) f g) := pd_cmp (by simp) (op_neD (by omega)) op2_ne ha hb (nomark _)
theorem pd_isN (ha : PD X W xa .r a f) (hb : PD X W xa .e b g) : PD X W xa .e (.Compare a [.Is] [b] pos) (lift2 (dIsN false) f g) := pd_cmp (by simp) op_isN op2_isN ha hb (nomark _)
theorem pd_notN (ha : PD X W xa .r a f) (hb : PD X W xa .e b g) : PD X W xa .e (.Compare a [.IsNot] [b] pos) (lift2 (dIsN true) f g) := pd_cmp (by simp) op_notN op2_notN ha hb (nomark _)
abbrev PTD (X : Cx) (W : WX) (xa : Xc → Addr) (e : Expr) (f : Ef) : Prop := PT X e (tB (tM (bs X) W xa .e f))
abbrev PWD (X : Cx) (W : WX) (xa : Xc → Addr) (e : Expr) (f : Ef) : Prop := PW X e (tB (tM (bs X) W xa .e f))
theorem impW {e : Expr} {t t' : TT} (h : PW X e t) (k : ∀ σ H Q, t' σ H Q → t σ H Q) : PW X e t' := ⟨fun wh pins s σ H Q I q => h.run wh pins s σ H Q I (k σ H Q q)⟩
theorem pt_v (h : PD X W xa .e e f) (he : ∀ whole, isTrue e X.env whole = (do let v ← whole; standAt e.pos; holding [v] (truthy v)) := by intro _; rfl) : PTD X W xa e f := pt_val h he
/-- a comparison that is proved as a value, as a test -/
theorem pt_op {m1 m2 : Md} {op : CmpOp} {o2 : PyData → PyData → Option PyData} {r : R2} (hm : m1 ≠ .o) (ho : OpR X (compareOp op) r) (hr : Op2 (bs X) m1 m2 .e o2 r) (ha : PD X W xa m1 a f) (hb : PD X W xa m2 b g) (hn : behindInMarks op b = false) : PTD X W xa (.Compare a [op] [b] pos) (lift2 o2 f g) :=
  impT (pt_cmpR ho ha hb hn) fun _ _ _ h => tOp_of hm hr h
theorem pt_in (hu : X.A.units + 65 < cLine) (ha : PD X W xa .e a f) (hb : PD X W xa .r b g) (hn : behindInMarks .In b = false) : PTD X W xa (.Compare a [.In] [b] pos) (lift2 (dIn false) f g) :=
  pt_op (by simp) ((op_inD hu).or ((op_inT hu).or (op_inN hu))) (op2_in false _ (rInT X.K false) fun _ _ _ _ h => h) ha hb hn
theorem pt_nin (hu : X.A.units + 65 < cLine) (ha : PD X W xa .e a f) (hb : PD X W xa .r b g) (hn : behindInMarks .NotIn b = false) : PTD X W xa (.Compare a [.NotIn] [b] pos) (lift2 (dIn true) f g) :=
  pt_op (by simp) ((op_notInD hu).or ((op_notInT hu).or (op_notInN hu))) (op2_in true _ (rInT X.K true) fun _ _ _ _ h => h) ha hb hn
theorem pt_lt (ha : PD X W xa .e a f) (hb : PD X W xa .e b g) : PTD X W xa (.Compare a [.Lt] [b] pos) (lift2 dLt f g) := pt_op (by simp) op_lt op2_cmp ha hb (nomark _)
theorem pt_le (ha : PD X W xa .e a f) (hb : PD X W xa .e b g) : PTD X W xa (.Compare a [.LtE] [b] pos) (lift2 dLe f g) := pt_op (by simp) op_le op2_cmp ha hb (nomark _)
theorem pt_gt (ha : PD X W xa .e a f) (hb : PD X W xa .e b g) : PTD X W xa (.Compare a [.Gt] [b] pos) (lift2 dGt f g) := pt_op (by simp) op_gt op2_cmp ha hb (nomark _)
theorem pt_ge (ha : PD X W xa .e a f) (hb : PD X W xa .e b g) : PTD X W xa (.Compare a [.GtE] [b] pos) (lift2 dGe f g) := pt_op (by simp) op_ge op2_cmp ha hb (nomark _)
theorem pt_eq (hu : X.A.units + 65 < cLine) (ha : PD X W xa .r a f) (hb : PD X W xa .r b g) : PTD X W xa (.Compare a [.Eq] [b] pos) (lift2 (dEq false) f g) := pt_op (by simp) (op_eqD (by omega)) op2_eq ha hb (nomark _)
theorem pt_ne (hu : X.A.units + 65 < cLine) (ha : PD X W xa .r a f) (hb : PD X W xa .r b g) : PTD X W xa (.Compare a [.NotEq] [b] pos) (lift2 (dEq true) f g) := pt_op (by simp) (op_neD (by omega)) op2_ne ha hb (nomark _)
theorem pt_isN (ha : PD X W xa .r a f) (hb : PD X W xa .e b g) : PTD X W xa (.Compare a [.Is] [b] pos) (lift2 (dIsN false) f g) := pt_op (by simp) op_isN op2_isN ha hb (nomark _)
theorem pt_notN (ha : PD X W xa .r a f) (hb : PD X W xa .e b g) : PTD X W xa (.Compare a [.IsNot] [b] pos) (lift2 (dIsN true) f g) := pt_op (by simp) op_notN op2_notN ha hb (nomark _)
/-- and, or: the rest is asked where the first doesn't decide -/
def fNot (f : Ef) : Ef := lift1 (fun x => match x with | .bool b => some (.bool (!b)) | _ => none) f
def fIf (c f g : Ef) : Ef := fun env => bindR (c env) fun x => match x with
  | .bool true => f env
  | .bool false => g env
  | _ => none
def fAnd (f g : Ef) : Ef := fIf f g (eC (.bool false))
def fOr (f g : Ef) : Ef := fIf f (eC (.bool true)) g
/-- a first part, a bool; then the way of it -/
theorem tM.bool {B : Bs} {c f g : Ef} {m3 : Md} {σ : DS.St} {H : Hp} {Q Q' : VK} (h : tM B W xa m3 (fIf c f g) σ H Q)
    (ht : ∀ D F env F' H', Stt B D F H σ env → c env = some (.ok (.bool true)) → Ext F H F' H' → tM B W xa m3 f σ H' Q → Q' (.bl true) H') (hf : ∀ D F env F' H', Stt B D F H σ env → c env = some (.ok (.bool false)) → Ext F H F' H' → tM B W xa m3 g σ H' Q → Q' (.bl false) H') : tM B W xa .e c σ H Q' := by
  obtain ⟨D, F, env, r0, S, e, q⟩ := h
  simp only [fIf, bindR] at e
  cases hc : c env with
  | none => rw [hc] at e; cases e
  | some r1 =>
    rw [hc] at e
    cases r1 with
    | error c' => cases e; exact ⟨D, F, env, .error c', S, hc, q⟩
    | ok x =>
      cases x <;> first | (simp at e; done) | skip
      rename_i b
      refine ⟨D, F, env, .ok (.bool b), S, hc, fun v F1 H1 x1 g1 => ?_⟩
      cases Dd.bl_ g1
      have next : ∀ h : Ef, h env = some r0 → tM B W xa m3 h σ H1 Q := fun h eh => ⟨D, F1, env, r0, S.ext x1, eh, by
        cases r0 with
        | error c => exact fun H' e' => q H' (x1.ex.trans e')
        | ok d => exact fun v F' H' x g => q v F' H' (x1.trans x) (g.back x1.ex)⟩
      cases b with
      | true => exact ht D F env F1 H1 S hc x1 (next f e)
      | false => exact hf D F env F1 H1 S hc x1 (next g e)
theorem fAnd_eq : fAnd f g = fIf f g (eC (.bool false)) := rfl
theorem fOr_eq : fOr f g = fIf f (eC (.bool true)) g := rfl
theorem tM.const {B : Bs} {b : Bool} {σ : DS.St} {H : Hp} {Q : VK} (h : tM B W xa .e (eC (.bool b)) σ H Q) : Q (.bl b) H := by
  obtain ⟨D, F, env, r, S, e, k⟩ := h
  cases e
  exact k _ F H (Ext.refl S.dom) (.bl b)
theorem tAnd_of {σ : DS.St} {H : Hp} {Q : Bool → Hp → Prop} (h : tB (tM (bs X) W xa .e (fAnd f g)) σ H Q) : tAnd (tB (tM (bs X) W xa .e f)) (tB (tM (bs X) W xa .e g)) σ H Q :=
  tM.bool (Q' := fun x H1 => ∃ c, x = .bl c ∧ if c = true then tB (tM (bs X) W xa .e g) σ H1 Q else Q false H1) h (fun D F env F' H' S _ x h => ⟨true, rfl, h⟩) (fun D F env F' H' S _ x h => ⟨false, rfl, by
    obtain ⟨k, e, q⟩ := h.const
    cases e
    exact q⟩)
theorem tOr_of {σ : DS.St} {H : Hp} {Q : Bool → Hp → Prop} (h : tB (tM (bs X) W xa .e (fOr f g)) σ H Q) : tOr (tB (tM (bs X) W xa .e f)) (tB (tM (bs X) W xa .e g)) σ H Q :=
  tM.bool (Q' := fun x H1 => ∃ c, x = .bl c ∧ if c = true then Q true H1 else tB (tM (bs X) W xa .e g) σ H1 Q) h (fun D F env F' H' S _ x h => ⟨true, rfl, by
    obtain ⟨k, e, q⟩ := h.const
    cases e
    exact q⟩) (fun D F env F' H' S _ x h => ⟨false, rfl, h⟩)
variable {rest : List Expr}
theorem pw1_and (ha : PTD X W xa a f) : PWD X W xa (.BoolOp .And [a] pos) f := pw_and1 ha
theorem pw1_or (ha : PTD X W xa a f) : PWD X W xa (.BoolOp .Or [a] pos) f := pw_or1 ha
theorem pwd_and (ha : PTD X W xa a f) (hb : PWD X W xa (.BoolOp .And (b :: rest) pos) g) : PWD X W xa (.BoolOp .And (a :: b :: rest) pos) (fAnd f g) := impW (pw_and ha hb) fun _ _ _ h => tAnd_of h
theorem pwd_or (ha : PTD X W xa a f) (hb : PWD X W xa (.BoolOp .Or (b :: rest) pos) g) : PWD X W xa (.BoolOp .Or (a :: b :: rest) pos) (fOr f g) := impW (pw_or ha hb) fun _ _ _ h => tOr_of h
theorem pt_w (h : PWD X W xa e f) : PTD X W xa e f := h.pt
theorem ptd_not (ha : PTD X W xa a f) : PTD X W xa (.UnaryOp .Not a pos) (fNot f) := impT (pt_not ha) fun σ H Q h => by
  obtain ⟨D, F, env, r0, S, e, q⟩ := h
  simp only [fNot, lift1, bindR] at e
  cases hc : f env with
  | none => rw [hc] at e; cases e
  | some r1 =>
    rw [hc] at e
    cases r1 with
    | error c' => cases e; exact ⟨D, F, env, .error c', S, hc, q⟩
    | ok x =>
      cases x <;> first | (simp at e; done) | skip
      rename_i b
      simp only [Option.map_some, Option.some.injEq] at e
      subst e
      refine ⟨D, F, env, .ok (.bool b), S, hc, fun v F1 H1 x1 g1 => ?_⟩
      cases Dd.bl_ g1
      obtain ⟨k, e', q'⟩ := q (.bl (!b)) F1 H1 x1 (.bl _)
      cases e'
      exact ⟨b, rfl, q'⟩
theorem pd_one {op} (ha : PD X W xa .e a f) : PD X W xa .e (.BoolOp op [a] pos) f := pe_one ha
theorem pd_and (ha : PD X W xa .e a f) (hb : PD X W xa .e (.BoolOp .And (b :: rest) pos) g) : PD X W xa .e (.BoolOp .And (a :: b :: rest) pos) (fAnd f g) := impE (pe_and ha hb) fun σ H Q h =>
  tM.bool (Q' := fun x H1 => ∃ c, x = .bl c ∧ if c = true then tM (bs X) W xa .e g σ H1 Q else Q (.bl false) H1) h (fun D F env F' H' S _ x h => ⟨true, rfl, h⟩) (fun D F env F' H' S _ x h => ⟨false, rfl, h.const⟩)
theorem pd_or (ha : PD X W xa .e a f) (hb : PD X W xa .e (.BoolOp .Or (b :: rest) pos) g) : PD X W xa .e (.BoolOp .Or (a :: b :: rest) pos) (fOr f g) := impE (pe_or ha hb) fun σ H Q h =>
  tM.bool (Q' := fun x H1 => ∃ c, x = .bl c ∧ if c = true then Q (.bl true) H1 else tM (bs X) W xa .e g σ H1 Q) h (fun D F env F' H' S _ x h => ⟨true, rfl, h.const⟩) (fun D F env F' H' S _ x h => ⟨false, rfl, h⟩)
theorem pd_not (ha : PD X W xa .e a f) : PD X W xa .e (.UnaryOp .Not a pos) (fNot f) := impE (pe_not ha) fun σ H Q h => by
  obtain ⟨D, F, env, r0, S, e, q⟩ := h
  simp only [fNot, lift1, bindR] at e
  cases hc : f env with
  | none => rw [hc] at e; cases e
  | some r1 =>
    rw [hc] at e
    cases r1 with
    | error c' => cases e; exact ⟨D, F, env, .error c', S, hc, q⟩
    | ok x =>
      cases x <;> first | (simp at e; done) | skip
      rename_i b
      simp only [Option.map_some, Option.some.injEq] at e
      subst e
      refine ⟨D, F, env, .ok (.bool b), S, hc, fun v F1 H1 x1 g1 => ?_⟩
      cases Dd.bl_ g1
      exact ⟨b, rfl, q (.bl (!b)) F1 H1 x1 (.bl _)⟩
theorem pd_if {c : Expr} {m : Md} {fc : Ef} (hc : PTD X W xa c fc) (ha : PD X W xa m a f) (hb : PD X W xa m b g) : PD X W xa m (.IfExp c a b pos) (fIf fc f g) := impE (pe_ifExp hc ha hb) fun σ H Q h =>
  tM.bool (Q' := fun x H1 => ∃ k, x = .bl k ∧ if k = true then tM (bs X) W xa m f σ H1 Q else tM (bs X) W xa m g σ H1 Q) h (fun D F env F' H' S _ x h => ⟨true, rfl, h⟩) (fun D F env F' H' S _ x h => ⟨false, rfl, h⟩)
end
end DS
namespace DS
open PySem PySem.Spec PyProof.Rows L2
section
variable {X : Cx} {W : WX} {xa : Xc → Addr} {e a b c : Expr} {f g h : Ef} {pos : Pos} {m1 m2 m3 : Md}
theorem DdAll.atI_ {B : Bs} {F : Fz} {H : Hp} {vs : List V} {ds : List PyData} {i : Int} {d : PyData} (r : DdAll B F H vs ds) (e : atI ds i = some d) : ∃ v, atI vs i = some v ∧ Dd B F H v d := by
  unfold atI at e ⊢
  rw [r.length]
  cases q : ixN ds.length i with
  | none => rw [q] at e; cases e
  | some j =>
    rw [q] at e
    exact r.get e
theorem ints_dd {B : Bs} {F : Fz} {H : Hp} (ns : List Int) : DdAll B F H (ns.map V.int) (ns.map PyData.int) := by
  induction ns with
  | nil => exact .nil
  | cons n ns ih => exact .cons (.int n) ih
def dIx (x i : PyData) : Option PyData := match x with
  | .list ds => match i with
    | .int i => atI ds i
    | _ => none
  | .tuple ds => match i with
    | .int i => atI ds i
    | _ => none
  | .dict kvs => match i with
    | .int i => match kvs with
      | [(.none, .list ds)] => atI ds i
      | _ => none
    | i => if isScr kvs = true then none else (kOk i).bind fun k => kAt kvs k
  | _ => none
def rIxN (B : Bs) : R2 := fun x y H Q => ∃ a b F xs kvs k, x = .ref a ∧ y = .ref b ∧ Rd H a (ndO B a xs) ∧ DdPairs B F H xs kvs ∧ KeyR B H b k ∧ (kAt kvs k).isSome = true ∧ ∀ v d, kAt kvs k = some d → Dd B F H v d → Q v H
theorem ix_nd (hu : X.A.units + 65 < cLine) : IxR X (rIxN (bs X)) := by
  intro value slice pins s σ H x y v u Q I rx ry h hs
  obtain ⟨a, b, F, xs, kvs, k, rfl, rfl, h1, h2, ⟨F', kd, hk, nkd, dz⟩, hsome, q⟩ := h
  cases rx
  cases ry
  obtain ⟨z, hd, ys, r, dd⟩ := nd_of I h1 h2
  rcases h2.at_ k with ⟨y, d, e1, e2, hy⟩ | ⟨e1, e2⟩
  · have hrel := r.at_ k
    rw [e1] at hrel
    obtain ⟨w', hw, rw'⟩ := RelO.some_of hrel
    obtain ⟨p, hp, hp2⟩ := Option.map_eq_some_iff.mp hw
    refine subscriptTail_builtinR (x := w') dd.typeIs PySem.F.slot_dict_getitem.lookup
      (wpAny_getItem_heap (nroom hu) (hk.isKey I nkd dz) dd hp ?_) hs
    rw [hp2]
    exact ⟨rfl, ⟨y, H, I.tok _, rw', q y d e2 hy⟩⟩
  · rw [e2] at hsome
    cases hsome
theorem op2_ix : Op2 (bs X) .r .e .e dIx (fun x y H Q => rIxL X.K x y H Q ∨ (rIxT X.K x y H Q ∨ rIxN (bs X) x y H Q)) := by
  intro x y z v u H1 H2 F H Q e gx gy hd k
  cases x <;> first | (simp [dIx] at e; done) | skip
  · rename_i ds
    cases y <;> first | (simp [dIx] at e; done) | skip
    rename_i i
    simp only [dIx] at e
    obtain ⟨a, xs, rfl, h1, _, h2⟩ := Top.lst gx
    obtain ⟨w, e1, e2⟩ := h2.atI_ e
    exact .inl ⟨a, xs, i, w, rfl, Dd.int_ gy, .of h1, e1, k _ F H (Ext.refl hd) e2⟩
  · rename_i ds
    cases y <;> first | (simp [dIx] at e; done) | skip
    rename_i i
    simp only [dIx] at e
    obtain ⟨a, xs, rfl, h1, h2⟩ := Top.tup gx
    obtain ⟨w, e1, e2⟩ := h2.atI_ e
    exact .inr (.inl ⟨a, xs, i, w, rfl, Dd.int_ gy, h1.sq, e1, k _ F H (Ext.refl hd) e2⟩)
  · rename_i kvs
    have other : (if isScr kvs = true then none else (kOk y).bind fun k => kAt kvs k) = some z → rIxL X.K v u H Q ∨ (rIxT X.K v u H Q ∨ rIxN (bs X) v u H Q) := fun e => by
      simp only [Option.ite_none_left_eq_some, Bool.not_eq_true, Option.bind_eq_some_iff] at e
      obtain ⟨hs, j, e1, e2⟩ := e
      obtain ⟨a, xs, rfl, h1, _, h2⟩ := Top.ndr hs gx
      obtain ⟨b, rfl, hb⟩ := kOk_ref e1 gy
      refine .inr (.inr ⟨a, b, F, xs, kvs, j, rfl, rfl, h1, h2, hb, by rw [e2]; rfl, fun w d e3 hw => ?_⟩)
      rw [e2] at e3
      cases e3
      exact k _ F H (Ext.refl hd) hw
    cases y <;> first | exact other e | skip
    rename_i i
    simp only [dIx] at e
    split at e
    · rename_i ds
      generalize hd' : PyData.dict [(PyData.none, PyData.list ds)] = d at gx
      have gx' : Top (bs X) F H v d := gx
      cases gx' with
      | dd gx' => cases gx' with
        | dic h z p =>
          cases hd'
          cases p with
          | cons a n z b p => cases a
        | scr hscr =>
          rename_i p ns
          simp only [scrD, PyData.dict.injEq, List.cons.injEq, Prod.mk.injEq, PyData.list.injEq, true_and, and_true] at hd'
          subst hd'
          have r : DdAll (bs X) F H (ns.map V.int) (ns.map PyData.int) := ints_dd ns
          obtain ⟨w, e1, e2⟩ := r.atI_ e
          exact .inl ⟨_, _, i, w, rfl, Dd.int_ gy, hscr.sq, e1, k _ F H (Ext.refl hd) e2⟩
        | _ => cases hd'
      | own gx' => cases gx' with
        | dic h z p =>
          cases hd'
          cases p with
          | cons a n z b p => cases a
        | _ => cases hd'
    · cases e
theorem pd_ixg (hu : X.A.units + 65 < cLine) (ha : PD X W xa .r a f) (hb : PD X W xa .e b g) (hs : PlainIx b := by exact fun _ _ => rfl) : PD X W xa .e (.Subscript a b pos) (lift2 dIx f g) :=
  pd_ix (by simp) (ix_list.or (ix_tup.or (ix_nd hu))) op2_ix ha hb hs
abbrev Ofn := DS.Env → Option (Except Xc (Option Int))
def oN : Ofn := fun _ => some (.ok none)
def oS (f : Ef) : Ofn := fun env => match f env with
  | none => none
  | some (.error c) => some (.error c)
  | some (.ok (.int i)) => some (.ok (some i))
  | some (.ok _) => none
/-- a slice's end as told by f -/
def tOM (B : Bs) (W : WX) (xa : Xc → Addr) (f : Ofn) : TO := fun σ H Q => ∃ D F env r, Stt B D F H σ env ∧ f env = some r ∧ match r with
  | .ok o => ∀ F' H', Ext F H F' H' → Q o H'
  | .error c => ∀ H', Ex H H' → W (.ref (xa c)) none σ H'
abbrev POD (X : Cx) (W : WX) (xa : Xc → Addr) (e : Option Expr) (f : Ofn) : Prop := PO X e (tOM (bs X) W xa f)
theorem impO {e : Option Expr} {t t' : TO} (h : PO X e t) (k : ∀ σ H Q, t' σ H Q → t σ H Q) : PO X e t' := ⟨fun pins s σ H Q I q => h.run pins s σ H Q I (k σ H Q q)⟩
theorem pod_none : POD X W xa none oN := impO po_none fun σ H Q h => by
  obtain ⟨D, F, env, r, S, e, q⟩ := h
  cases e
  exact q F H (Ext.refl S.dom)
theorem pod_some (h : PD X W xa .e e f) : POD X W xa (some e) (oS f) := impO (po_some h) fun σ H Q h => by
  obtain ⟨D, F, env, r, S, e, q⟩ := h
  unfold oS at e
  split at e
  · cases e
  · rename_i c hc
    cases e
    exact ⟨D, F, env, .error c, S, hc, q⟩
  · rename_i i hi
    cases e
    exact ⟨D, F, env, .ok (.int i), S, hi, fun v F' H' x g => ⟨i, Dd.int_ g, q F' H' x⟩⟩
  · cases e
def cutD (ds : List PyData) (lo hi : Option Int) : List PyData := (ds.drop (HT.sIx ds.length 0 lo)).take (HT.sIx ds.length ds.length hi - HT.sIx ds.length 0 lo)
theorem DdAll.cut {B : Bs} {F : Fz} {H : Hp} {vs : List V} {ds : List PyData} (r : DdAll B F H vs ds) (lo hi : Option Int) : DdAll B F H (cutV vs lo hi) (cutD ds lo hi) := by
  unfold cutV cutD
  rw [r.length]
  exact (r.drop _).take _
def dSl (x : PyData) (lo hi : Option Int) : Option PyData := match x with
  | .tuple ds => some (.tuple (cutD ds lo hi))
  | _ => none
/-- .. a list's, or the script's: a new list -/
def dSlL (x : PyData) (lo hi : Option Int) : Option PyData := match x with
  | .list ds => some (.list (cutD ds lo hi))
  | .dict kvs => match kvs with
    | [(.none, .list ds)] => if ds.length ≤ sizeLine then some (.list (cutD ds lo hi)) else none
    | _ => none
  | _ => none
def lift3 (op : PyData → Option Int → Option Int → Option PyData) (f : Ef) (l u : Ofn) : Ef := fun env => bindR (f env) fun x => match l env with
  | none => none
  | some (.error c) => some (.error c)
  | some (.ok lo) => match u env with
    | none => none
    | some (.error c) => some (.error c)
    | some (.ok hi) => (op x lo hi).map .ok
def Op3 (B : Bs) (m1 m3 : Md) (op : PyData → Option Int → Option Int → Option PyData) (r : V → Option Int → Option Int → Hp → VK → Prop) : Prop :=
  ∀ x lo hi z v H1 F H Q, op x lo hi = some z → Got B m1 H1 F H v x → Dom F H → (∀ w F' H', Ext F H F' H' → Got B m3 H F' H' w z → Q w H') → r v lo hi H Q
theorem tSl_of {op : PyData → Option Int → Option Int → Option PyData} {r : V → Option Int → Option Int → Hp → VK → Prop} {l u : Ofn} (hm : m1 ≠ .o) (hr : Op3 (bs X) m1 m3 op r) {σ : DS.St} {H : Hp} {Q : VK} (h : tM (bs X) W xa m3 (lift3 op f l u) σ H Q) : tSl r (tM (bs X) W xa m1 f) (tOM (bs X) W xa l) (tOM (bs X) W xa u) σ H Q := by
  obtain ⟨D, F, env, r0, S, e, q⟩ := h
  simp only [lift3, bindR] at e
  cases hf : f env with
  | none => rw [hf] at e; cases e
  | some r1 =>
    rw [hf] at e
    cases r1 with
    | error c => cases e; exact ⟨D, F, env, .error c, S, hf, q⟩
    | ok x =>
      refine ⟨D, F, env, .ok x, S, hf, fun v F1 H1 x1 g1 => ?_⟩
      cases hl : l env with
      | none => simp only [hl] at e; cases e
      | some r2 =>
        simp only [hl] at e
        cases r2 with
        | error c => cases e; exact ⟨D, F1, env, .error c, S.ext x1, hl, fun H' e' => q H' (x1.ex.trans e')⟩
        | ok lo =>
          refine ⟨D, F1, env, .ok lo, S.ext x1, hl, fun F2 H2 x2 => ?_⟩
          cases hu : u env with
          | none => simp only [hu] at e; cases e
          | some r3 =>
            simp only [hu] at e
            cases r3 with
            | error c => cases e; exact ⟨D, F2, env, .error c, (S.ext x1).ext x2, hu, fun H' e' => q H' ((x1.trans x2).ex.trans e')⟩
            | ok hi =>
              refine ⟨D, F2, env, .ok hi, (S.ext x1).ext x2, hu, fun F3 H3 x3 => ?_⟩
              simp only [Option.map_eq_some_iff] at e
              obtain ⟨z, e, rfl⟩ := e
              exact hr x lo hi z v H F3 H3 Q e ((g1.fwd hm x2).fwd hm x3) x3.dom fun w F4 H4 x4 g4 => q w F4 H4 (((x1.trans x2).trans x3).trans x4) (g4.back ((x1.trans x2).trans x3).ex)
theorem cutD_whole (ds : List PyData) (lo hi : Option Int) (h : HT.sIx ds.length 0 lo = 0 ∧ HT.sIx ds.length ds.length hi = ds.length) : cutD ds lo hi = ds := by
  unfold cutD
  rw [h.1, h.2]
  simp
theorem pd_sl {lo hi : Option Expr} {p2 : Pos} {l u : Ofn} (ha : PD X W xa .e a f) (hl : POD X W xa lo l) (hu : POD X W xa hi u) : PD X W xa .e (.Subscript a (.Slice lo hi none p2) pos) (lift3 dSl f l u) :=
  impE (pe_slice sl_tupF ha hl hu) fun _ _ _ h => tSl_of (by simp) (by
    intro x lo hi z v H1 F H Q e g hd k
    cases x <;> first | (simp [dSl] at e; done) | skip
    rename_i ds
    simp only [dSl, Option.some.injEq] at e
    subst e
    obtain ⟨p, ps, rfl, hp, rp⟩ := Dd.tup_ g
    refine ⟨p, ps, rfl, hp.sq, fun w => ?_, fun _ t o ho ht => ?_⟩
    · rw [rp.length] at w
      rw [cutD_whole _ _ _ w] at k
      exact k _ F H (Ext.refl hd) g
    · have x := Ext.of hd (Ex.new (o := .frz o (.tup (cutV ps lo hi))) ht)
      exact k _ F _ x (.tup (.new ho) ((rp.cut lo hi).ext x))) h
theorem Top.scr {B : Bs} {F : Fz} {H : Hp} {v : V} {ds : List PyData} (g : Top B F H v (.dict [(.none, .list ds)])) : ∃ (a : Addr) (ns : List Int), v = .ref a ∧ ds = ns.map PyData.int ∧ ScrAt B.K H a (ns.map V.int) := by
  generalize hd' : PyData.dict [(PyData.none, PyData.list ds)] = d at g
  cases g with
  | dd g => cases g with
    | dic h z p =>
      cases hd'
      cases p with
      | cons a n z b p => cases a
    | scr hscr =>
      simp only [scrD, PyData.dict.injEq, List.cons.injEq, Prod.mk.injEq, PyData.list.injEq, true_and, and_true] at hd'
      subst hd'
      exact ⟨_, _, rfl, rfl, hscr⟩
    | _ => cases hd'
  | own g => cases g with
    | dic h z p =>
      cases hd'
      cases p with
      | cons a n z b p => cases a
    | _ => cases hd'
theorem pd_slL {lo hi : Option Expr} {p2 : Pos} {l u : Ofn} (ha : PD X W xa .r a f) (hl : POD X W xa lo l) (hu : POD X W xa hi u) : PD X W xa .o (.Subscript a (.Slice lo hi none p2) pos) (lift3 dSlL f l u) :=
  impE (pe_slice sl_list ha hl hu) fun _ _ _ h => tSl_of (by simp) (by
    intro x lo hi z v H1 F H Q e g hd k
    cases x <;> first | (simp [dSlL] at e; done) | skip
    · rename_i ds
      simp only [dSlL, Option.some.injEq] at e
      subst e
      obtain ⟨p, ps, rfl, hp, hz, rp⟩ := Top.lst g
      refine ⟨p, ps, rfl, .of hp, fun t ht => ?_⟩
      have x := Ext.of hd (Ex.new (o := .lst (cutV ps lo hi)) ht)
      exact k _ F _ x ⟨t, rfl, fun f => hd t f ht, ht, .lst upd_same (Nat.le_trans (cutV_length _ _ _) hz) ((rp.cut lo hi).ext x)⟩
    · rename_i kvs
      simp only [dSlL] at e
      split at e
      · rename_i ds
        simp only [Option.ite_none_right_eq_some, Option.some.injEq] at e
        obtain ⟨hz, rfl⟩ := e
        obtain ⟨p, ns, rfl, rfl, hs⟩ := Top.scr g
        refine ⟨p, _, rfl, hs.sq, fun t ht => ?_⟩
        have x := Ext.of hd (Ex.new (o := .lst (cutV (ns.map V.int) lo hi)) ht)
        exact k _ F _ x ⟨t, rfl, fun f => hd t f ht, ht, .lst upd_same (Nat.le_trans (cutV_length _ _ _) (by simpa using hz)) (((ints_dd ns).cut lo hi).ext x)⟩
      · cases e) h
abbrev Afn := DS.Env → Option (Except Xc (List PyData))
def aN : Afn := fun _ => some (.ok [])
def aC (f : Ef) (r : Afn) : Afn := fun env => match f env with
  | none => none
  | some (.error c) => some (.error c)
  | some (.ok d) => match r env with
    | none => none
    | some (.error c) => some (.error c)
    | some (.ok ds) => some (.ok (d :: ds))
inductive TopAll (B : Bs) (F : Fz) (H : Hp) : List V → List PyData → Prop
  | nil : TopAll B F H [] []
  | cons {v : V} {vs : List V} {d : PyData} {ds : List PyData} : Top B F H v d → TopAll B F H vs ds → TopAll B F H (v :: vs) (d :: ds)
def GotA (B : Bs) (m : Md) (F : Fz) (H : Hp) (vs : List V) (ds : List PyData) : Prop := match m with
  | .e => DdAll B F H vs ds
  | .v => DdAll B (fun a => H a ≠ none) H vs ds
  | _ => TopAll B F H vs ds
/-- the arguments as told by f, all frozen (e) or all readable (r) -/
def tAM (B : Bs) (W : WX) (xa : Xc → Addr) (m : Md) (f : Afn) : TA := fun σ H Q => ∃ D F env r, Stt B D F H σ env ∧ f env = some r ∧ match r with
  | .ok ds => ∀ vs F' H', Ext F H F' H' → GotA B m F' H' vs ds → Q vs H'
  | .error c => ∀ H', Ex H H' → W (.ref (xa c)) none σ H'
abbrev PAD (X : Cx) (W : WX) (xa : Xc → Addr) (m : Md) (es : List Expr) (f : Afn) : Prop := PA X es (tAM (bs X) W xa m f)
theorem pad_nil {m : Md} : PAD X W xa m [] aN := impA pa_nil fun σ H Q h => by
  obtain ⟨D, F, env, r, S, e, q⟩ := h
  cases e
  refine q [] F H (Ext.refl S.dom) ?_
  cases m with
  | e => exact .nil
  | r => exact .nil
  | o => exact .nil
  | v => exact .nil
theorem pad_cons {m : Md} {es : List Expr} {r : Afn} (hm : m ≠ .o) (ha : PD X W xa m e f) (hr : PAD X W xa m es r) (hs : starEach (e :: es) X.env = (false, eval e X.env) :: starEach es X.env := by rfl) : PAD X W xa m (e :: es) (aC f r) := impA (pa_cons ha hr hs) fun σ H Q h => by
  obtain ⟨D, F, env, r0, S, e, q⟩ := h
  unfold aC at e
  cases hf : f env with
  | none => rw [hf] at e; cases e
  | some r1 =>
    rw [hf] at e
    cases r1 with
    | error c => cases e; exact ⟨D, F, env, .error c, S, hf, q⟩
    | ok x =>
      refine ⟨D, F, env, .ok x, S, hf, fun v F1 H1 x1 g1 => ?_⟩
      cases hl : r env with
      | none => simp only [hl] at e; cases e
      | some r2 =>
        simp only [hl] at e
        cases r2 with
        | error c => cases e; exact ⟨D, F1, env, .error c, S.ext x1, hl, fun H' e' => q H' (x1.ex.trans e')⟩
        | ok ds =>
          cases e
          refine ⟨D, F1, env, .ok ds, S.ext x1, hl, fun vs F2 H2 x2 g2 => q (v :: vs) F2 H2 (x1.trans x2) ?_⟩
          cases m with
          | e => exact .cons (Dd.ext g1 x2) g2
          | r => exact .cons (Top.ext g1 x2) g2
          | o => exact (hm rfl).elim
          | v => exact .cons (Dd.mono (fun a ha z => ha (x2.ex.free z)) x2.ex.keep g1) g2
theorem pad_v {es : List Expr} {r : Afn} (ha : PD X W xa .v e f) (hr : PAD X W xa .v es r) (hs : starEach (e :: es) X.env = (false, eval e X.env) :: starEach es X.env := by rfl) : PAD X W xa .v (e :: es) (aC f r) := pad_cons (by simp) ha hr hs
theorem pad_e {es : List Expr} {r : Afn} (ha : PD X W xa .e e f) (hr : PAD X W xa .e es r) (hs : starEach (e :: es) X.env = (false, eval e X.env) :: starEach es X.env := by rfl) : PAD X W xa .e (e :: es) (aC f r) := pad_cons (by simp) ha hr hs
theorem pad_r {es : List Expr} {r : Afn} (ha : PD X W xa .r e f) (hr : PAD X W xa .r es r) (hs : starEach (e :: es) X.env = (false, eval e X.env) :: starEach es X.env := by rfl) : PAD X W xa .r (e :: es) (aC f r) := pad_cons (by simp) ha hr hs
/-- behind the arguments, op -/
def liftA (op : List PyData → Option PyData) (r : Afn) : Ef := fun env => match r env with
  | none => none
  | some (.error c) => some (.error c)
  | some (.ok ds) => (op ds).map .ok
theorem tA_of {op : List PyData → Option PyData} {r : Afn} {m : Md} {k : List V → Hp → VK → Prop} {σ : DS.St} {H : Hp} {Q : VK} (hm : m ≠ .o)
    (hr : ∀ ds z vs F H Q, op ds = some z → GotA (bs X) m F H vs ds → Dom F H → (∀ w F' H', Ext F H F' H' → Got (bs X) m3 H F' H' w z → Q w H') → k vs H Q) (h : tM (bs X) W xa m3 (liftA op r) σ H Q) :
    tAM (bs X) W xa m r σ H (fun vs H1 => k vs H1 Q) := by
  obtain ⟨D, F, env, r0, S, e, q⟩ := h
  unfold liftA at e
  cases hf : r env with
  | none => rw [hf] at e; cases e
  | some r1 =>
    rw [hf] at e
    cases r1 with
    | error c => cases e; exact ⟨D, F, env, .error c, S, hf, q⟩
    | ok ds =>
      simp only [Option.map_eq_some_iff] at e
      obtain ⟨z, e, rfl⟩ := e
      exact ⟨D, F, env, .ok ds, S, hf, fun vs F1 H1 x1 g1 => hr ds z vs F1 H1 Q e g1 x1.dom fun w F2 H2 x2 g2 => q w F2 H2 (x1.trans x2) (g2.back x1.ex)⟩
def dTup (ds : List PyData) : Option PyData := if ds.length ≤ 30 then some (.tuple ds) else none
def dLst (ds : List PyData) : Option PyData := if ds.length ≤ 30 then some (.list ds) else none
theorem le30 {n : Nat} (h : n ≤ 30) : n ≤ sizeLine := Nat.le_trans h (by rw [sizeLine_eq]; decide)
theorem pd_tup {es : List Expr} {r : Afn} {x1} (ha : PAD X W xa .e es r) : PD X W xa .e (.Tuple es x1 pos) (liftA dTup r) := impE (pe_tupF ha) fun σ H Q h => tA_of (X := X) (m := .e) (k := fun vs H1 Q => vs.length ≤ sizeLine ∧ NewT vs H1 Q) (by simp) (by
  intro ds z vs F H Q e g hd k
  simp only [dTup, Option.ite_none_right_eq_some, Option.some.injEq] at e
  obtain ⟨hz, rfl⟩ := e
  have g' : DdAll (bs X) F H vs ds := g
  refine ⟨by rw [g'.length]; exact le30 hz, fun t o ho ht => ?_⟩
  have x := Ext.of hd (Ex.new (o := .frz o (.tup vs)) ht)
  exact k _ F _ x (.tup (.new ho) (g'.ext x))) h
theorem pd_lst {es : List Expr} {r : Afn} (ha : PAD X W xa .e es r) : PD X W xa .o (.List es pos) (liftA dLst r) := impE (pe_lst ha) fun σ H Q h => tA_of (X := X) (m := .e) (k := fun vs H1 Q => vs.length ≤ sizeLine ∧ ∀ p, H1 p = none → Q (.ref p) (upd H1 p (.lst vs))) (by simp) (by
  intro ds z vs F H Q e g hd k
  simp only [dLst, Option.ite_none_right_eq_some, Option.some.injEq] at e
  obtain ⟨hz, rfl⟩ := e
  have g' : DdAll (bs X) F H vs ds := g
  have hz' : vs.length ≤ sizeLine := by rw [g'.length]; exact le30 hz
  refine ⟨hz', fun t ht => ?_⟩
  have x := Ext.of hd (Ex.new (o := .lst vs) ht)
  exact k _ F _ x ⟨t, rfl, fun f => hd t f ht, ht, .lst upd_same hz' (g'.ext x)⟩) h
end
end DS
namespace DS
open PySem PySem.Spec PyProof.Rows L2
section
variable {X : Cx} {W : WX} {xa : Xc → Addr} {e a b c : Expr} {f g h : Ef} {p pos : Pos} {m1 m2 m3 : Md} {x : Str} {id T : String}
theorem pd_callB {op : PyData → Option PyData} {r : List V → Hp → VK → Prop} (hc : CallR X (.builtin id) r) (hr : Op1 (bs X) m1 m3 op (fun v H Q => r [v] H Q)) (hg : Gl X x) (hm : X.mg x = none) (hv : bootBuiltins x = some (.builtin id)) (ha : PD X W xa m1 e f)
    (hn : x ≠ "__name__" := by decide) (hdb : (x == ("__debug__" : Str)) = false := by decide) (he : starEach (e :: []) X.env = (false, eval e X.env) :: starEach [] X.env := by rfl) (hpl : (backTo pos (starEach [] X.env)).any (·.1) = false := by rfl) :
    PD X W xa m3 (.Call (.Name x p) [e] [] pos) (lift1 op f) := impE (pe_callB hc hg hm hv (pa_cons ha pa_nil he) hn hdb he hpl) fun _ _ _ h => tUn_of (r := fun v H Q => r [v] H Q) hr h
theorem pd_callTy {op : PyData → Option PyData} {r : List V → Hp → VK → Prop} (hc : CallR X (.type T) r) (hr : Op1 (bs X) m1 m3 op (fun v H Q => r [v] H Q)) (hg : Gl X x) (hm : X.mg x = none) (hv : bootBuiltins x = some (.type T)) (ha : PD X W xa m1 e f)
    (hn : x ≠ "__name__" := by decide) (hdb : (x == ("__debug__" : Str)) = false := by decide) (he : starEach (e :: []) X.env = (false, eval e X.env) :: starEach [] X.env := by rfl) (hpl : (backTo pos (starEach [] X.env)).any (·.1) = false := by rfl) :
    PD X W xa m3 (.Call (.Name x p) [e] [] pos) (lift1 op f) := impE (pe_callTy hc hg hm hv (pa_cons ha pa_nil he) hn hdb he hpl) fun _ _ _ h => tUn_of (r := fun v H Q => r [v] H Q) hr h
def dLen (x : PyData) : Option PyData := match x with
  | .list ds => some (.int ds.length)
  | .tuple ds => some (.int ds.length)
  | .dict kvs => match kvs with
    | [(.none, .list ds)] => some (.int ds.length)
    | _ => if isScr kvs = true then none else some (.int kvs.length)
  | _ => none
def rLenN (B : Bs) : List V → Hp → VK → Prop := fun vs H Q => ∃ a kvs, vs = [.ref a] ∧ NdR B H a kvs ∧ Q (.int kvs.length) H
theorem call_lenN : CallR X (.builtin "len") (rLenN (bs X)) := by
  intro pins s σ H xs us Q I r h
  obtain ⟨a, kvs, rfl, ⟨F, ys, h1, h2⟩, q⟩ := h
  obtain ⟨u, rfl, rx⟩ := vals1 r
  cases rx
  obtain ⟨z, hd, zs, rel, dd⟩ := nd_of I h1 h2
  have hl : (pairsH zs).length = kvs.length := by rw [pairsH_length, ← Paired.length rel, h2.length]
  have hz : kvs.length ≤ sizeLine := by rw [← h2.length]; exact z
  have hm : s.heap.DictKeyed (nestedKind X.prog X.w) a (pairsH zs) := ⟨zs, dd, rfl⟩
  refine PyProof.Rows.call_len_slot (n := (kvs.length : Int)) hm.typeIs PySem.F.slot_dict_len (fun Q' hq => len_keyed hd hm (by rw [hl]; exact hq)) (by omega) (by rw [sizeLine_eq] at hz; omega) ?_
  exact ⟨.int _, H, I.tok _, ⟨_, rfl⟩, q⟩
theorem op1_len : Op1 (bs X) .r .e dLen (fun v H Q => (∃ p ys, [v] = [V.ref p] ∧ (SqL X.K H p ys ∨ SqT X.K H p ys) ∧ Q (.int ys.length) H) ∨ rLenN (bs X) [v] H Q) := by
  intro x z v H1 F H Q e g hd k
  cases x <;> first | (simp [dLen] at e; done) | skip
  · rename_i ds
    simp only [dLen, Option.some.injEq] at e
    subst e
    obtain ⟨p, ps, rfl, hp, hz, rp⟩ := Top.lst g
    exact .inl ⟨p, ps, rfl, .inl (.of hp), by rw [rp.length]; exact k _ F H (Ext.refl hd) (.int _)⟩
  · rename_i ds
    simp only [dLen, Option.some.injEq] at e
    subst e
    obtain ⟨p, ps, rfl, hp, rp⟩ := Top.tup g
    exact .inl ⟨p, ps, rfl, .inr hp.sq, by rw [rp.length]; exact k _ F H (Ext.refl hd) (.int _)⟩
  · rename_i kvs
    simp only [dLen] at e
    split at e
    · rename_i ds
      simp only [Option.some.injEq] at e
      subst e
      obtain ⟨p, ns, rfl, rfl, hs⟩ := Top.scr g
      refine .inl ⟨p, _, rfl, .inl hs.sq, ?_⟩
      have := k (.int ((ns.map PyData.int).length : Nat)) F H (Ext.refl hd) (.int _)
      simpa only [List.length_map] using this
    · simp only [Option.ite_none_left_eq_some, Bool.not_eq_true, Option.some.injEq] at e
      obtain ⟨hs, rfl⟩ := e
      obtain ⟨a, xs, rfl, h1, _, h2⟩ := Top.ndr hs g
      exact .inr ⟨a, kvs, rfl, ⟨F, xs, h1, h2⟩, k _ F H (Ext.refl hd) (.int _)⟩
theorem pd_len (hg : Gl X "len") (hm : X.mg "len" = none) (ha : PD X W xa .r e f) (he : starEach (e :: []) X.env = (false, eval e X.env) :: starEach [] X.env := by rfl) (hpl : (backTo pos (starEach [] X.env)).any (·.1) = false := by rfl) :
    PD X W xa .e (.Call (.Name "len" p) [e] [] pos) (lift1 dLen f) := pd_callB (call_len_seq.or call_lenN) op1_len hg hm boot_len ha (by decide) (by decide) he hpl
def dInt (x : PyData) : Option PyData := match x with
  | .int i => some (.int i)
  | .bool b => some (.int (if b = true then 1 else 0))
  | _ => none
theorem pd_int1 (hg : Gl X "int") (hm : X.mg "int" = none) (ha : PD X W xa .e e f) (he : starEach (e :: []) X.env = (false, eval e X.env) :: starEach [] X.env := by rfl) (hpl : (backTo pos (starEach [] X.env)).any (·.1) = false := by rfl) :
    PD X W xa .e (.Call (.Name "int" p) [e] [] pos) (lift1 dInt f) := pd_callTy call_int1 (by
  intro x z v H1 F H Q e g hd k
  cases x <;> first | (simp [dInt] at e; done) | skip
  · rename_i b
    simp only [dInt, Option.some.injEq] at e
    subst e
    cases Dd.bl_ g
    exact .inr ⟨b, rfl, k _ F H (Ext.refl hd) (.int _)⟩
  · rename_i i
    simp only [dInt, Option.some.injEq] at e
    subst e
    cases Dd.int_ g
    exact .inl ⟨i, rfl, k _ F H (Ext.refl hd) (.int _)⟩) hg hm (by decide +kernel) ha (by decide) (by decide) he hpl
def dLst1 (x : PyData) : Option PyData := match x with
  | .list ds => some (.list ds)
  | .tuple ds => if ds.length ≤ sizeLine then some (.list ds) else none
  | _ => none
def dTup1 (x : PyData) : Option PyData := match x with
  | .list ds => some (.tuple ds)
  | .tuple ds => some (.tuple ds)
  | _ => none
theorem pd_list1 (hg : Gl X "list") (hm : X.mg "list" = none) (ha : PD X W xa .r e f) (he : starEach (e :: []) X.env = (false, eval e X.env) :: starEach [] X.env := by rfl) (hpl : (backTo pos (starEach [] X.env)).any (·.1) = false := by rfl) :
    PD X W xa .o (.Call (.Name "list" p) [e] [] pos) (lift1 dLst1 f) := pd_callTy call_list_of (by
  intro x z v H1 F H Q e g hd k
  cases x <;> first | (simp [dLst1] at e; done) | skip
  · rename_i ds
    simp only [dLst1, Option.some.injEq] at e
    subst e
    obtain ⟨p, ps, rfl, hp, hz, rp⟩ := Top.lst g
    refine ⟨p, ps, rfl, .inl (.of hp), fun t ht => ?_⟩
    have x := Ext.of hd (Ex.new (o := .lst ps) ht)
    exact k _ F _ x ⟨t, rfl, fun f => hd t f ht, ht, .lst upd_same hz (rp.ext x)⟩
  · rename_i ds
    simp only [dLst1, Option.ite_none_right_eq_some, Option.some.injEq] at e
    obtain ⟨hz, rfl⟩ := e
    obtain ⟨p, ps, rfl, hp, rp⟩ := Top.tup g
    refine ⟨p, ps, rfl, .inr hp.sq, fun t ht => ?_⟩
    have x := Ext.of hd (Ex.new (o := .lst ps) ht)
    exact k _ F _ x ⟨t, rfl, fun f => hd t f ht, ht, .lst upd_same (by rw [rp.length]; exact hz) (rp.ext x)⟩) hg hm (by decide +kernel) ha (by decide) (by decide) he hpl
theorem pd_tuple1 (hg : Gl X "tuple") (hm : X.mg "tuple" = none) (ha : PD X W xa .r e f) (he : starEach (e :: []) X.env = (false, eval e X.env) :: starEach [] X.env := by rfl) (hpl : (backTo pos (starEach [] X.env)).any (·.1) = false := by rfl) :
    PD X W xa .e (.Call (.Name "tuple" p) [e] [] pos) (lift1 dTup1 f) := pd_callTy call_tupleF (by
  intro x z v H1 F H Q e g hd k
  cases x <;> first | (simp [dTup1] at e; done) | skip
  · rename_i ds
    simp only [dTup1, Option.some.injEq] at e
    subst e
    obtain ⟨p, ps, rfl, hp, hz, rp⟩ := Top.lst g
    refine ⟨p, ps, rfl, .inl ⟨.of hp, fun t o ho ht => ?_⟩⟩
    have x := Ext.of hd (Ex.new (o := .frz o (.tup ps)) ht)
    exact k _ F _ x (.tup (.new ho) (rp.ext x))
  · rename_i ds
    simp only [dTup1, Option.some.injEq] at e
    subst e
    obtain ⟨p, ps, rfl, hp, rp⟩ := Top.tup g
    exact ⟨p, ps, rfl, .inr ⟨hp.sq, k _ F H (Ext.refl hd) (.tup hp rp)⟩⟩) hg hm (by decide +kernel) ha (by decide) (by decide) he hpl
def ints? : List PyData → Option (List Int)
  | [] => some []
  | .int i :: ds => (ints? ds).map (i :: ·)
  | _ => none
def bools? : List PyData → Option (List Bool)
  | [] => some []
  | .bool i :: ds => (bools? ds).map (i :: ·)
  | _ => none
theorem ints_of {B : Bs} {F : Fz} {H : Hp} : ∀ {ds : List PyData} {vs : List V} {ns : List Int}, ints? ds = some ns → DdAll B F H vs ds → vs = ns.map V.int
  | [], _, _, e, .nil => by
    simp only [ints?, Option.some.injEq] at e
    subst e
    rfl
  | d :: ds, _, _, e, .cons r t => by
    cases d <;> first | (simp [ints?] at e; done) | skip
    simp only [ints?, Option.map_eq_some_iff] at e
    obtain ⟨ns, e, rfl⟩ := e
    cases r.int_
    rw [ints_of e t]
    rfl
theorem bools_of {B : Bs} {F : Fz} {H : Hp} : ∀ {ds : List PyData} {vs : List V} {ns : List Bool}, bools? ds = some ns → DdAll B F H vs ds → vs = ns.map V.bl
  | [], _, _, e, .nil => by
    simp only [bools?, Option.some.injEq] at e
    subst e
    rfl
  | d :: ds, _, _, e, .cons r t => by
    cases d <;> first | (simp [bools?] at e; done) | skip
    simp only [bools?, Option.map_eq_some_iff] at e
    obtain ⟨ns, e, rfl⟩ := e
    cases r.bl_
    rw [bools_of e t]
    rfl
def dSum (x : PyData) : Option PyData := match x with
  | .list ds => (ints? ds).map fun ns => .int ns.sum
  | _ => none
def dAll (x : PyData) : Option PyData := match x with
  | .list ds => (bools? ds).map fun ns => .bool (ns.all fun b => b)
  | _ => none
def minI : List Int → Option Int
  | [] => none
  | n :: ns => some (ns.foldl min n)
theorem foldl_min_le : ∀ (ns : List Int) (n : Int), ns.foldl min n ≤ n ∧ ∀ y ∈ ns, ns.foldl min n ≤ y
  | [], n => ⟨Int.le_refl _, fun _ h => nomatch h⟩
  | m :: ns, n => by
    have ih := foldl_min_le ns (min n m)
    rw [List.foldl_cons]
    have h1 : min n m ≤ n := Int.min_le_left n m
    have h2 : min n m ≤ m := Int.min_le_right n m
    refine ⟨by omega, fun y hy => ?_⟩
    rcases List.mem_cons.mp hy with rfl | hy
    · omega
    · exact ih.2 y hy
theorem foldl_min_mem : ∀ (ns : List Int) (n : Int), ns.foldl min n = n ∨ ns.foldl min n ∈ ns
  | [], n => .inl rfl
  | m :: ns, n => by
    rw [List.foldl_cons]
    rcases foldl_min_mem ns (min n m) with h | h
    · rw [h]
      by_cases e : n ≤ m
      · exact .inl (Int.min_eq_left e)
      · exact .inr (by rw [Int.min_eq_right (by omega)]; exact List.mem_cons_self)
    · exact .inr (List.mem_cons_of_mem _ h)
theorem minI_is {ns : List Int} {m : Int} (h : m ∈ ns) (hl : ∀ y ∈ ns, m ≤ y) : minI ns = some m := by
  cases ns with
  | nil => cases h
  | cons n ns =>
    simp only [minI, Option.some.injEq]
    have h1 := foldl_min_le ns n
    have h2 : ns.foldl min n ∈ n :: ns := (foldl_min_mem ns n).elim (fun e => by rw [e]; exact List.mem_cons_self) (List.mem_cons_of_mem _)
    have h3 := hl _ h2
    have h4 : ns.foldl min n ≤ m := by
      rcases List.mem_cons.mp h with rfl | h
      · exact h1.1
      · exact h1.2 m h
    omega
def dMin (x : PyData) : Option PyData := match x with
  | .list ds => (ints? ds).bind fun ns => (minI ns).map .int
  | _ => none
theorem pd_sum (hc : X.calm = true) (hg : Gl X "sum") (hm : X.mg "sum" = none) (ha : PD X W xa .r e f) (he : starEach (e :: []) X.env = (false, eval e X.env) :: starEach [] X.env := by rfl) (hpl : (backTo pos (starEach [] X.env)).any (·.1) = false := by rfl) :
    PD X W xa .e (.Call (.Name "sum" p) [e] [] pos) (lift1 dSum f) := pd_callB (cr_sum hc) (by
  intro x z v H1 F H Q e g hd k
  cases x <;> first | (simp [dSum] at e; done) | skip
  rename_i ds
  simp only [dSum, Option.map_eq_some_iff] at e
  obtain ⟨ns, e, rfl⟩ := e
  obtain ⟨p, ps, rfl, hp, hz, rp⟩ := Top.lst g
  cases ints_of e rp
  exact ⟨p, ns, rfl, .of hp, k _ F H (Ext.refl hd) (.int _)⟩) hg hm (by decide +kernel) ha (by decide) (by decide) he hpl
theorem pd_all (hc : X.calm = true) (hg : Gl X "all") (hm : X.mg "all" = none) (ha : PD X W xa .r e f) (he : starEach (e :: []) X.env = (false, eval e X.env) :: starEach [] X.env := by rfl) (hpl : (backTo pos (starEach [] X.env)).any (·.1) = false := by rfl) :
    PD X W xa .e (.Call (.Name "all" p) [e] [] pos) (lift1 dAll f) := pd_callB (cr_all hc) (by
  intro x z v H1 F H Q e g hd k
  cases x <;> first | (simp [dAll] at e; done) | skip
  rename_i ds
  simp only [dAll, Option.map_eq_some_iff] at e
  obtain ⟨ns, e, rfl⟩ := e
  obtain ⟨p, ps, rfl, hp, hz, rp⟩ := Top.lst g
  cases bools_of e rp
  exact ⟨p, ns, rfl, .of hp, k _ F H (Ext.refl hd) (.bl _)⟩) hg hm (by decide +kernel) ha (by decide) (by decide) he hpl
theorem pd_min (hc : X.calm = true) (hg : Gl X "min") (hm : X.mg "min" = none) (ha : PD X W xa .r e f) (he : starEach (e :: []) X.env = (false, eval e X.env) :: starEach [] X.env := by rfl) (hpl : (backTo pos (starEach [] X.env)).any (·.1) = false := by rfl) :
    PD X W xa .e (.Call (.Name "min" p) [e] [] pos) (lift1 dMin f) := pd_callB (cr_min hc) (by
  intro x z v H1 F H Q e g hd k
  cases x <;> first | (simp [dMin] at e; done) | skip
  rename_i ds
  simp only [dMin, Option.bind_eq_some_iff, Option.map_eq_some_iff] at e
  obtain ⟨ns, e, m, e2, rfl⟩ := e
  obtain ⟨p, ps, rfl, hp, hz, rp⟩ := Top.lst g
  cases ints_of e rp
  refine ⟨p, ns, rfl, .of hp, ?_, fun m' h1 h2 => ?_⟩
  · cases ns with
    | nil => cases e2
    | cons n ns => simp
  · rw [minI_is h1 h2] at e2
    cases e2
    exact k _ F H (Ext.refl hd) (.int _)) hg hm (by decide +kernel) ha (by decide) (by decide) he hpl
inductive Ty5 where
  | int | bool | list | str | tuple
def Ty5.nm : Ty5 → String
  | .int => "int"
  | .bool => "bool"
  | .list => "list"
  | .str => "str"
  | .tuple => "tuple"
def dIs (T : Ty5) (x : PyData) : Option PyData := match x with
  | .none => some (.bool false)
  | .bool _ => some (.bool (match T with | .int => true | .bool => true | _ => false))
  | .int _ => some (.bool (match T with | .int => true | _ => false))
  | .str _ => some (.bool (match T with | .str => true | _ => false))
  | .list _ => some (.bool (match T with | .list => true | _ => false))
  | .tuple _ => some (.bool (match T with | .tuple => true | _ => false))
  | .dict ((.none, .int 0) :: _) => some (.bool false)
  | .dict _ => none
theorem DdPairs.nn {B : Bs} {F : Fz} {H : Hp} {xs : List KE1} {v : PyData} {r : List (PyData × PyData)} : ¬ DdPairs B F H xs ((.none, v) :: r) := fun h => by
  cases h with
  | cons a n z b p => cases a
theorem tyX_of {B : Bs} {F : Fz} {H : Hp} {v : V} {d : PyData} {T : Ty5} {z : PyData} (g : Top B F H v d) (e : dIs T d = some z) : ∃ t b, TyX B.K H v (.type t) ∧ kitB t T.nm = some b ∧ z = .bool b := by
  cases g with
  | dd g =>
    cases g with
    | non => simp only [dIs, Option.some.injEq] at e; subst e; exact ⟨"NoneType", _, .base .non, by cases T <;> decide +kernel, rfl⟩
    | bl b => simp only [dIs, Option.some.injEq] at e; subst e; exact ⟨"bool", _, .base (.bl b), by cases T <;> decide +kernel, rfl⟩
    | int i => simp only [dIs, Option.some.injEq] at e; subst e; exact ⟨"int", _, .base (.int i), by cases T <;> decide +kernel, rfl⟩
    | str x => simp only [dIs, Option.some.injEq] at e; subst e; exact ⟨"str", _, .base (.str x), by cases T <;> decide +kernel, rfl⟩
    | tup h r => simp only [dIs, Option.some.injEq] at e; subst e; obtain ⟨o, _, h⟩ := h; exact ⟨"tuple", _, .fTuple h, by cases T <;> decide +kernel, rfl⟩
    | lst f h z r => simp only [dIs, Option.some.injEq] at e; subst e; exact ⟨"list", _, .base (.lst h), by cases T <;> decide +kernel, rfl⟩
    | dic h z r =>
      unfold dIs at e
      split at e <;> first | (cases e; done) | skip
      all_goals first | (rename_i q; cases q; exact (DdPairs.nn r).elim) | (rename_i q; cases q; done)
    | scr h => simp [dIs, scrD] at e
    | exc h => simp [dIs] at e
    | adr a => simp [dIs] at e
    | dk f h z r => simp only [dIs, Option.some.injEq] at e; subst e; exact ⟨"dict", _, .base (.dK h), by cases T <;> decide +kernel, rfl⟩
    | ins f h z r => simp [dIs] at e
  | own g =>
    cases g with
    | lst h z r => simp only [dIs, Option.some.injEq] at e; subst e; exact ⟨"list", _, .base (.lst h), by cases T <;> decide +kernel, rfl⟩
    | dic h z r =>
      unfold dIs at e
      split at e <;> first | (cases e; done) | skip
      all_goals first | (rename_i q; cases q; exact (DdPairs.nn r).elim) | (rename_i q; cases q; done)
theorem pd_is (T : Ty5) {tn : Str} {p2 : Pos} (hg : Gl X "isinstance") (hm : X.mg "isinstance" = none) (ha : PD X W xa .r e f) (hgt : Gl X tn) (hmt : X.mg tn = none) (hvt : bootBuiltins tn = some (.type T.nm)) (hnt : tn ≠ "__name__" := by decide) (hdt : (tn == ("__debug__" : Str)) = false := by decide)
    (he : starEach (e :: [.Name tn p2]) X.env = (false, eval e X.env) :: starEach [.Name tn p2] X.env := by rfl) (he2 : starEach (.Name tn p2 :: []) X.env = (false, eval (.Name tn p2) X.env) :: starEach [] X.env := by rfl) (hpl : (backTo pos (starEach [.Name tn p2] X.env)).any (·.1) = false := by rfl) :
    PD X W xa .e (.Call (.Name "isinstance" p) [e, .Name tn p2] [] pos) (lift1 (dIs T) f) :=
  impE (pe_callB call_isi hg hm (by decide +kernel) (pa_cons ha (pa_cons (pe_bltn (v := .ty T.nm) hgt hmt hvt rfl hnt hdt) pa_nil he2) he) (by decide) (by decide) he hpl) fun σ H Q h =>
    tUn_of (r := fun v H Q => rIsi X.K [v, .ty T.nm] H Q) (by
      intro x z v H1 F H Q e g hd k
      obtain ⟨t, b, h1, h2, rfl⟩ := tyX_of g e
      exact ⟨v, .ty T.nm, .type t, .type T.nm, b, rfl, .ty _, h1, kit_ty h2, k _ F H (Ext.refl hd) (.bl _)⟩) h
def dCnt (x y : PyData) : Option PyData := match x with
  | .tuple ds => if (SeqAt.shaped y && SeqAt.shaped (.tuple ds)) = true then some (.int ((ds.countP fun z => PyData.eqv z y) : Nat)) else none
  | _ => none
def dCntL (x y : PyData) : Option PyData := match x with
  | .list ds => if (SeqAt.shaped y && SeqAt.shaped (.list ds)) = true then some (.int ((ds.countP fun z => PyData.eqv z y) : Nat)) else none
  | _ => none
def rCnt (B : Bs) : V → List V → Hp → VK → Prop := fun x xs H Q => ∃ a vs ds y d, x = .ref a ∧ xs = [y] ∧ TupF H a vs ∧ DpAll B.K H vs ds ∧ Dp B.K H y d ∧ SeqAt.shaped (.tuple ds) = true ∧ SeqAt.shaped d = true ∧ Q (.int ((ds.countP fun z => PyData.eqv z d) : Nat)) H
def rCntL (B : Bs) : V → List V → Hp → VK → Prop := fun x xs H Q => ∃ a vs ds y d, x = .ref a ∧ xs = [y] ∧ H a = some (.lst vs) ∧ DpAll B.K H vs ds ∧ Dp B.K H y d ∧ SeqAt.shaped (.list ds) = true ∧ SeqAt.shaped d = true ∧ Q (.int ((ds.countP fun z => PyData.eqv z d) : Nat)) H
theorem countP_map {α β : Type} (f : α → β) (p : β → Bool) (xs : List α) : xs.countP (fun x => p (f x)) = (xs.map f).countP p := by
  rw [List.countP_map]
  rfl
theorem mt_cnt (hu : X.A.units + 65 < cLine) : MtR X "tuple.count" (rCnt (bs X)) := by
  intro pins s σ H x xs v us Q I rx rxs h
  obtain ⟨a, vs, ds, y, d, rfl, rfl, hl, ha, hy, sl, sd, q⟩ := h
  cases rx
  obtain ⟨uy, rfl, ry⟩ := rxs.one
  obtain ⟨bs', r1⟩ := Dp.reads I d y uy hy ry
  have hxs : PyData.canLayAll0 ds = true := SeqAt.canLay_of_shaped sl
  have hroom : X.A.units + 1 + min (PyData.depthAll ds) d.depth < cLine := room_in_shaped sd hu
  obtain ⟨its, rv, ⟨⟨cls, dd, data, sls⟩, ho, hc, n, hdt⟩, hlen⟩ := I.tuple hl.sq
  simp only at hc hdt
  subst hc hdt
  obtain ⟨as, h4⟩ := Dp.readsAll I ds _ its ha rv
  have hmap : its.map (SeqAt.readOf s.heap) = ds := SeqAt.readsAll_map ds its as hxs h4
  refine call_meets PySem.F.slot_tuple_count ⟨_, ho, rfl⟩ PySem.F.entry_tuple_count (PySem.F.args_tuple_count_2 _ _)
    (SeqAt.tuple_countAt a its.toArray n dd sls uy (fun u => PyData.eqv (SeqAt.readOf s.heap u) d)) ⟨ho, SeqAt.items_eqAt (vs := its.toArray) (show ReadsAll s.heap its.toArray.toList ds as from h4) r1 hxs (SeqAt.canLay_of_shaped sd) hroom, ?_⟩
  refine ⟨.int ((ds.countP fun z => PyData.eqv z d : Nat)), H, I.tok _, ⟨s.toks, ?_⟩, q⟩
  show Value.int ((its.toArray.toList.countP fun u => PyData.eqv (SeqAt.readOf s.heap u) d : Nat) : Int) s.toks = _
  rw [show its.toArray.toList = its by simp, countP_map (SeqAt.readOf s.heap) (fun z => PyData.eqv z d) its, hmap]
theorem mt_cntL (hu : X.A.units + 65 < cLine) : MtR X "list.count" (rCntL (bs X)) := by
  intro pins s σ H x xs v us Q I rx rxs h
  obtain ⟨a, vs, ds, y, d, rfl, rfl, hl, ha, hy, sl, sd, q⟩ := h
  cases rx
  obtain ⟨uy, rfl, ry⟩ := rxs.one
  obtain ⟨bs', r1⟩ := Dp.reads I d y uy hy ry
  have hxs : PyData.canLayAll0 ds = true := SeqAt.canLay_of_shaped sl
  have hroom : X.A.units + 1 + min (PyData.depthAll ds) d.depth < cLine := room_in_shaped sd hu
  obtain ⟨its, rv, ⟨⟨cls, dd, data, sls⟩, n, ho, hc, hdn, hdt⟩, hlen⟩ := I.list (.of hl)
  simp only at hc hdt
  subst hc hdt
  obtain ⟨as, h4⟩ := Dp.readsAll I ds _ its ha rv
  have hmap : its.map (SeqAt.readOf s.heap) = ds := SeqAt.readsAll_map ds its as hxs h4
  refine call_meets PySem.F.slot_list_count ⟨_, ho, rfl⟩ PySem.F.entry_list_count (PySem.F.args_list_count_2 _ _)
    (SeqAt.list_countAt a its.toArray n dd sls uy (fun u => PyData.eqv (SeqAt.readOf s.heap u) d)) ⟨ho, SeqAt.items_eqAt (vs := its.toArray) (show ReadsAll s.heap its.toArray.toList ds as from h4) r1 hxs (SeqAt.canLay_of_shaped sd) hroom, ?_⟩
  refine ⟨.int ((ds.countP fun z => PyData.eqv z d : Nat)), H, I.tok _, ⟨s.toks, ?_⟩, q⟩
  show Value.int ((its.toArray.toList.countP fun u => PyData.eqv (SeqAt.readOf s.heap u) d : Nat) : Int) s.toks = _
  rw [show its.toArray.toList = its by simp, countP_map (SeqAt.readOf s.heap) (fun z => PyData.eqv z d) its, hmap]
theorem canAll_tuple {ds : List PyData} (h : SeqAt.shaped (.tuple ds) = true) : PyData.canLayAll0 ds = true := SeqAt.canLay_of_shaped h
theorem canAll_list {ds : List PyData} (h : SeqAt.shaped (.list ds) = true) : PyData.canLayAll0 ds = true := SeqAt.canLay_of_shaped h
/-- a method of one argument: the receiver's kind is looked at first -/
def liftM (ok : PyData → Bool) (op : PyData → PyData → Option PyData) (f g : Ef) : Ef := fun env => bindR (f env) fun x => if ok x = true then bindR (g env) fun y => (op x y).map .ok else none
theorem tBM_of {B : Bs} {T : String} {ok : PyData → Bool} {op : PyData → PyData → Option PyData} {r : V → List V → Hp → VK → Prop} (hm : m1 ≠ .o) (hty : ∀ x v H1 F H, ok x = true → Got B m1 H1 F H v x → tyV B.K T v H)
    (hr : Op2 B m1 m2 m3 op (fun v u H Q => r v [u] H Q)) {σ : DS.St} {H : Hp} {Q : VK} (h : tM B W xa m3 (liftM ok op f g) σ H Q) : tBM B.K T r (tM B W xa m1 f) (tCons (tM B W xa m2 g) tNil) σ H Q := by
  obtain ⟨D, F, env, r0, S, e, q⟩ := h
  simp only [liftM, bindR] at e
  cases hf : f env with
  | none => rw [hf] at e; cases e
  | some r1 =>
    rw [hf] at e
    cases r1 with
    | error c => cases e; exact ⟨D, F, env, .error c, S, hf, q⟩
    | ok x =>
      simp only [Option.ite_none_right_eq_some] at e
      obtain ⟨hok, e⟩ := e
      refine ⟨D, F, env, .ok x, S, hf, fun v F1 H1 x1 g1 => ⟨hty x v H F1 H1 hok g1, ?_⟩⟩
      cases hg : g env with
      | none => simp only [hg] at e; cases e
      | some r2 =>
        simp only [hg] at e
        cases r2 with
        | error c => cases e; exact ⟨D, F1, env, .error c, S.ext x1, hg, fun H' e' => q H' (x1.ex.trans e')⟩
        | ok y =>
          simp only [Option.map_eq_some_iff] at e
          obtain ⟨z, e, rfl⟩ := e
          refine ⟨D, F1, env, .ok y, S.ext x1, hg, fun u F2 H2 x2 g2 => ?_⟩
          exact hr x y z v u H H1 F2 H2 Q e (g1.fwd hm x2) g2 x2.dom fun w F3 H3 x3 g3 => q w F3 H3 ((x1.trans x2).trans x3) (g3.back (x1.trans x2).ex)
def okTup (x : PyData) : Bool := match x with | .tuple _ => true | _ => false
def okLst (x : PyData) : Bool := match x with | .list _ => true | _ => false
/-- a method of a tuple made here -/
def tTM (r : V → List V → Hp → VK → Prop) (to : TE) (t : TA) : TE := fun σ H Q => to σ H fun x H1 => (∃ a xs, x = .ref a ∧ TupF H1 a xs) ∧ t σ H1 fun xs H2 => r x xs H2 Q
theorem pe_tm {o : Expr} {es : List Expr} {to : TE} {t : TA} {name : Str} {apos cpos : Pos} {r : V → List V → Hp → VK → Prop} (slot : Slot "tuple" name id) (hty : typeOf (.builtin id) = pure (.type "method_descriptor")) (hm : MtR X id r) (ho : PE X o to) (ha : PA X (e :: es) t)
    (hbase : attributeBase o name X.env (eval o X.env) = eval o X.env)
    (hfew : ((backTo cpos (starEach (e :: es) X.env)).all (fun x => !x.1) && (backToKw cpos (keywordEach [] X.env)).all (fun x => x.1.isSome) && decide ((e :: es).length + ([] : List Keyword).length + (if ([] : List Keyword).isEmpty then 0 else 1) < 30)) = true)
    (hline : (apos.endLine == cpos.line) = true) (hs : starEach (e :: es) X.env = (false, eval e X.env) :: starEach es X.env) (hplain : (backTo cpos (starEach es X.env)).any (·.1) = false) :
    PE X (.Call (.Attribute o name apos) (e :: es) [] cpos) (tTM r to t) := by
  refine ⟨fun pins s σ H Q I h => ?_⟩
  refine wpAny_Call_method_late hbase hfew hline rfl (thn (ho.run pins s σ H _ I h) fun v s1 ⟨x, H1, I1, r1, ⟨a, xs, ex, ob, hd, hf⟩, q1⟩ => ?_)
  subst ex
  cases r1
  obtain ⟨hob, _, its, _, ob2, hob2, hc2, _⟩ := I1.hok a _ hf
  have e2 : ob2 = ob := Option.some.inj (hob2.symm.trans hob)
  subst e2
  refine ⟨"tuple", id, PySem.F.plainAttrs_tuple, slot, hty, ⟨ob2, hob, hc2⟩, fun a' e' => by cases e'; exact ⟨ob2, hob, hd⟩, ?_⟩
  have hA := ha.run cpos pins s1 σ H1 _ I1 q1
  rw [hs] at hA ⊢
  refine Calls.callWith_builtin (by show (false || (backTo cpos (starEach es X.env)).any (·.1)) = false; rw [hplain] <;> rfl) (Calls.evalArgs_plain ?_)
  exact thn hA fun us s2 ⟨vs, H2, I2, r2, q2⟩ => hm pins s2 σ H2 (.ref a) vs _ us Q I2 rfl r2 q2
theorem pd_countT {o : Expr} {apos cpos : Pos} (hu : X.A.units + 65 < cLine) (ho : PD X W xa .r o f) (ha : PD X W xa .r e g) (hbase : attributeBase o "count" X.env (eval o X.env) = eval o X.env := by rfl)
    (hfew : ((backTo cpos (starEach (e :: []) X.env)).all (fun x => !x.1) && (backToKw cpos (keywordEach [] X.env)).all (fun x => x.1.isSome) && decide ((e :: []).length + ([] : List Keyword).length + (if ([] : List Keyword).isEmpty then 0 else 1) < 30)) = true := by rfl)
    (hline : (apos.endLine == cpos.line) = true := by rfl) (hs : starEach (e :: []) X.env = (false, eval e X.env) :: starEach [] X.env := by rfl) (hplain : (backTo cpos (starEach [] X.env)).any (·.1) = false := by rfl) :
    PD X W xa .e (.Call (.Attribute o "count" apos) [e] [] cpos) (liftM okTup dCnt f g) :=
  impE (pe_tm PySem.F.slot_tuple_count PySem.F.type_tuple_count (mt_cnt hu) ho (pa_cons ha pa_nil hs) hbase hfew hline hs hplain) fun σ H Q h => by
    obtain ⟨D, F, env, r0, S, e, q⟩ := h
    simp only [liftM, bindR] at e
    cases hf : f env with
    | none => rw [hf] at e; cases e
    | some r1 =>
      rw [hf] at e
      cases r1 with
      | error c => cases e; exact ⟨D, F, env, .error c, S, hf, q⟩
      | ok x =>
        simp only [Option.ite_none_right_eq_some] at e
        obtain ⟨hok, e⟩ := e
        cases x <;> first | (simp [okTup] at hok; done) | skip
        rename_i ds
        refine ⟨D, F, env, .ok (.tuple ds), S, hf, fun v F1 H1 x1 g1 => ?_⟩
        have g1' : Top (bs X) F1 H1 v (.tuple ds) := g1
        obtain ⟨a, xs, rfl, h1, h2⟩ := Top.tup g1'
        refine ⟨⟨a, xs, rfl, h1⟩, ?_⟩
        cases hg : g env with
        | none => simp only [hg] at e; cases e
        | some r2 =>
          simp only [hg] at e
          cases r2 with
          | error c => cases e; exact ⟨D, F1, env, .error c, S.ext x1, hg, fun H' e' => q H' (x1.ex.trans e')⟩
          | ok y =>
            simp only [Option.map_eq_some_iff] at e
            obtain ⟨z, e, rfl⟩ := e
            refine ⟨D, F1, env, .ok y, S.ext x1, hg, fun u F2 H2 x2 g2 => ?_⟩
            simp only [dCnt, Bool.and_eq_true, Option.ite_none_right_eq_some, Option.some.injEq] at e
            obtain ⟨⟨s1, s2⟩, rfl⟩ := e
            obtain ⟨a', xs', e', h1, h2⟩ := Top.tup (g1'.ext x2)
            cases e'
            exact ⟨a, xs', ds, u, y, rfl, rfl, h1, h2.dp (canAll_tuple s2), Top.dp (SeqAt.canLay_of_shaped s1) g2, s2, s1, q _ F2 H2 (x1.trans x2) (.int _)⟩
theorem pd_countL {o : Expr} {apos cpos : Pos} (hu : X.A.units + 65 < cLine) (ho : PD X W xa .r o f) (ha : PD X W xa .r e g) (hbase : attributeBase o "count" X.env (eval o X.env) = eval o X.env := by rfl)
    (hfew : ((backTo cpos (starEach (e :: []) X.env)).all (fun x => !x.1) && (backToKw cpos (keywordEach [] X.env)).all (fun x => x.1.isSome) && decide ((e :: []).length + ([] : List Keyword).length + (if ([] : List Keyword).isEmpty then 0 else 1) < 30)) = true := by rfl)
    (hline : (apos.endLine == cpos.line) = true := by rfl) (hs : starEach (e :: []) X.env = (false, eval e X.env) :: starEach [] X.env := by rfl) (hplain : (backTo cpos (starEach [] X.env)).any (·.1) = false := by rfl) :
    PD X W xa .e (.Call (.Attribute o "count" apos) [e] [] cpos) (liftM okLst dCntL f g) :=
  impE (pe_bm PySem.F.plainAttrs_list PySem.F.slot_list_count PySem.F.type_list_count (mt_cntL hu) ho (pa_cons ha pa_nil hs) hbase hfew hline hs hplain) fun σ H Q h =>
    tBM_of (B := bs X) (T := "list") (m1 := .r) (m2 := .r) (m3 := .e) (op := dCntL) (r := rCntL (bs X)) (by simp) (by
      intro x v H1 F H hok g
      cases x <;> first | (simp [okLst] at hok; done) | skip
      obtain ⟨a, xs, rfl, h1, _⟩ := Top.lst g
      exact .inl ⟨rfl, xs, .of h1⟩) (by
      intro x y z v u H1 H2 F H Q e gx gy hd k
      cases x <;> first | (simp [dCntL] at e; done) | skip
      rename_i ds
      simp only [dCntL, Bool.and_eq_true, Option.ite_none_right_eq_some, Option.some.injEq] at e
      obtain ⟨⟨s1, s2⟩, rfl⟩ := e
      obtain ⟨a, xs, rfl, h1, _, h2⟩ := Top.lst gx
      exact ⟨a, xs, ds, u, y, rfl, rfl, h1, h2.dp (canAll_list s2), Top.dp (SeqAt.canLay_of_shaped s1) gy, s2, s1, k _ F H (Ext.refl hd) (.int _)⟩) h
def lChain (o1 o2 : PyData → PyData → Option PyData) (f g h : Ef) : Ef := fun env => bindR (f env) fun x => bindR (g env) fun y => match o1 x y with
  | some (.bool true) => bindR (h env) fun z => (o2 y z).map .ok
  | some (.bool false) => some (.ok (.bool false))
  | _ => none
theorem tChain_of {B : Bs} {o1 o2 : PyData → PyData → Option PyData} {r r' : R2} (hr : Op2 B .e .e .e o1 r) (hr' : Op2 B .e .e .e o2 r') {σ : DS.St} {H : Hp} {Q : VK} (hq : tM B W xa .e (lChain o1 o2 f g h) σ H Q) :
    tChain r r' (tM B W xa .e f) (tM B W xa .e g) (tM B W xa .e h) σ H Q := by
  obtain ⟨D, F, env, r0, S, e, q⟩ := hq
  simp only [lChain, bindR] at e
  cases hf : f env with
  | none => rw [hf] at e; cases e
  | some r1 =>
    rw [hf] at e
    cases r1 with
    | error c => cases e; exact ⟨D, F, env, .error c, S, hf, q⟩
    | ok x =>
      refine ⟨D, F, env, .ok x, S, hf, fun v F1 H1 x1 g1 => ?_⟩
      cases hg : g env with
      | none => simp only [hg] at e; cases e
      | some r2 =>
        simp only [hg] at e
        cases r2 with
        | error c => cases e; exact ⟨D, F1, env, .error c, S.ext x1, hg, fun H' e' => q H' (x1.ex.trans e')⟩
        | ok y =>
          refine ⟨D, F1, env, .ok y, S.ext x1, hg, fun u F2 H2 x2 g2 => ?_⟩
          cases ho : o1 x y with
          | none => simp only [ho] at e; cases e
          | some z =>
            cases z <;> first | (simp [ho] at e; done) | skip
            rename_i b
            refine hr x y (.bool b) v u H H1 F2 H2 _ ho (Dd.ext g1 x2) g2 x2.dom fun w F3 H3 x3 g3 => ?_
            cases Dd.bl_ g3
            refine ⟨b, rfl, ?_⟩
            cases b with
            | false =>
              simp only [ho] at e
              cases e
              exact q _ F3 H3 ((x1.trans x2).trans x3) (.bl _)
            | true =>
              simp only [ho] at e
              show tM B W xa .e h σ H3 _
              cases hh : h env with
              | none => simp only [hh] at e; cases e
              | some r3 =>
                simp only [hh] at e
                cases r3 with
                | error c => cases e; exact ⟨D, F3, env, .error c, ((S.ext x1).ext x2).ext x3, hh, fun H' e' => q H' (((x1.trans x2).trans x3).ex.trans e')⟩
                | ok z =>
                  simp only [Option.map_eq_some_iff] at e
                  obtain ⟨zz, e, rfl⟩ := e
                  exact ⟨D, F3, env, .ok z, ((S.ext x1).ext x2).ext x3, hh, fun w2 F4 H4 x4 g4 => hr' y z zz u w2 H H3 F4 H4 Q e (Dd.ext (Dd.ext g2 x3) x4) g4 x4.dom fun w5 F5 H5 x5 g5 => q w5 F5 H5 ((((x1.trans x2).trans x3).trans x4).trans x5) g5⟩
theorem pd_leLt (ha : PD X W xa .e a f) (hb : PD X W xa .e b g) (hc : PD X W xa .e c h) (hm : lastMarks [.LtE, .Lt] [b, c] = false := by with_unfolding_all rfl) : PD X W xa .e (.Compare a [.LtE, .Lt] [b, c] pos) (lChain dLe dLt f g h) :=
  impE (pe_chain op_le op_lt ha hb hc hm) fun _ _ _ q => tChain_of op2_cmp op2_cmp q
theorem pd_leLe (ha : PD X W xa .e a f) (hb : PD X W xa .e b g) (hc : PD X W xa .e c h) (hm : lastMarks [.LtE, .LtE] [b, c] = false := by with_unfolding_all rfl) : PD X W xa .e (.Compare a [.LtE, .LtE] [b, c] pos) (lChain dLe dLe f g h) :=
  impE (pe_chain op_le op_le ha hb hc hm) fun _ _ _ q => tChain_of op2_cmp op2_cmp q
theorem pt_leLt (ha : PD X W xa .e a f) (hb : PD X W xa .e b g) (hc : PD X W xa .e c h) (hm : lastMarks [.LtE, .Lt] [b, c] = false := by with_unfolding_all rfl) : PTD X W xa (.Compare a [.LtE, .Lt] [b, c] pos) (lChain dLe dLt f g h) :=
  impT (pt_chain op_le op_lt ha hb hc hm) fun _ _ _ q => tChain_of op2_cmp op2_cmp q
theorem pt_leLe (ha : PD X W xa .e a f) (hb : PD X W xa .e b g) (hc : PD X W xa .e c h) (hm : lastMarks [.LtE, .LtE] [b, c] = false := by with_unfolding_all rfl) : PTD X W xa (.Compare a [.LtE, .LtE] [b, c] pos) (lChain dLe dLe f g h) :=
  impT (pt_chain op_le op_le ha hb hc hm) fun _ _ _ q => tChain_of op2_cmp op2_cmp q
abbrev Rt := Except Xc (Bool × PyData)
abbrev Fn := List PyData → Option Rt
def mdOf (o : Bool) : Md := if o = true then .o else .e
/-- the promise: from arguments that read as ds, what Φ tells; all that stood stands -/
def spF (B : Bs) (xa : Xc → Addr) (Φ : Fn) : Sp := fun vs H Q E => ∃ F ds r, Dom F H ∧ DdAll B F H vs ds ∧ Φ ds = some r ∧ match r with
  | .ok (o, d) => ∀ v F' H', Ext F H F' H' → Got B (mdOf o) H F' H' v d → Q v H'
  | .error c => ∀ H', Ex H H' → E (.ref (xa c)) none H'
/-- a call with frozen arguments -/
def eCall (Φ : Fn) (o : Bool) (r : Afn) : Ef := fun env => match r env with
  | none => none
  | some (.error c) => some (.error c)
  | some (.ok ds) => match Φ ds with
    | some (.ok (o', d)) => if o' = o then some (.ok d) else none
    | some (.error c) => some (.error c)
    | none => none
/-- .. with readable ones: what comes back leans on no list -/
def eCallR (Φ : Fn) (r : Afn) : Ef := fun env => match r env with
  | none => none
  | some (.error c) => some (.error c)
  | some (.ok ds) => match Φ ds with
    | some (.ok (false, d)) => if imm d = true then some (.ok d) else none
    | some (.error c) => some (.error c)
    | _ => none
theorem TopAll.live {B : Bs} {F : Fz} {H : Hp} (hd : Dom F H) : ∀ {vs : List V} {ds : List PyData}, TopAll B F H vs ds → ds.all noDi = true → DdAll B (fun a => H a ≠ none) H vs ds
  | _, _, .nil, _ => .nil
  | _, _, .cons r t, h => by
    rw [List.all_cons, Bool.and_eq_true] at h
    exact .cons (r.live hd h.1) (TopAll.live hd t h.2)
/-- a def that keeps its promise, callable around A -/
structure FokC (P : Program) (w : World) (K : PySem.W.Frag) (mg : Str → Option Value) (base : Heap) (A : Around) (xa : Xc → Addr) (x : Str) (Φ : Fn) : Prop where
  ok : ∃ k f fd ps, FnOk P w K mg base (L2N.CX P w) k f fd ps (spF ⟨P, w, K, none⟩ xa Φ) ∧ Room k A ∧ mg x = some (.ref f) ∧ PySem.W.keepIn K (.ref f) = true ∧ Binds K fd ps []
  dbg : (x == ("__debug__" : Str)) = false
abbrev Fok (X : Cx) (xa : Xc → Addr) (x : Str) (Φ : Fn) : Prop := FokC X.prog X.w X.K X.mg X.base X.A xa x Φ
/-- .. at level k -/
structure Dok (P : Program) (w : World) (K : PySem.W.Frag) (mg : Str → Option Value) (base : Heap) (xa : Xc → Addr) (k : Nat) (x : Str) (Φ : Fn) : Prop where
  ok : ∃ f fd ps, FnOk P w K mg base (L2N.CX P w) k f fd ps (spF ⟨P, w, K, none⟩ xa Φ) ∧ mg x = some (.ref f) ∧ PySem.W.keepIn K (.ref f) = true ∧ Binds K fd ps []
  dbg : (x == ("__debug__" : Str)) = false
theorem Dok.at {P : Program} {w : World} {K : PySem.W.Frag} {mg : Str → Option Value} {base : Heap} {xa : Xc → Addr} {k n : Nat} {x : Str} {Φ : Fn} {A : Around} (D : Dok P w K mg base xa k x Φ) (r : Room n A) (h : k ≤ n := by decide) : FokC P w K mg base A xa x Φ :=
  let ⟨⟨f, fd, ps, a, b⟩, c⟩ := D
  ⟨⟨k, f, fd, ps, a, r.mono h, b⟩, c⟩
theorem pd_call {Φ : Fn} {o : Bool} {es : List Expr} {r : Afn} (G : Fok X xa x Φ) (tk : L2N.Takes X W) (hg : Gl X x) (ha : PAD X W xa .e (e :: es) r)
    (he : starEach (e :: es) X.env = (false, eval e X.env) :: starEach es X.env := by rfl) (hpl : (backTo pos (starEach es X.env)).any (·.1) = false := by rfl) : PD X W xa (mdOf o) (.Call (.Name x p) (e :: es) [] pos) (eCall Φ o r) := by
  obtain ⟨⟨k, f, fd, ps, ok, hr, hm, hk, hb⟩, hdb⟩ := G
  rw [bs_none hr.hd] at ok
  refine impE (pe_callS (E := WE W) ok hr hg hm hk hb (fun σ => L2N.passAt tk σ) ha hdb he hpl) fun σ H Q h => ?_
  obtain ⟨D, F, env, r0, S, e, q⟩ := h
  unfold eCall at e
  cases hf : r env with
  | none => rw [hf] at e; cases e
  | some r1 =>
    rw [hf] at e
    cases r1 with
    | error c => cases e; exact ⟨D, F, env, .error c, S, hf, q⟩
    | ok ds =>
      refine ⟨D, F, env, .ok ds, S, hf, fun vs F1 H1 x1 g1 => ?_⟩
      cases hp : Φ ds with
      | none => simp only [hp] at e; cases e
      | some r2 =>
        refine ⟨F1, ds, r2, x1.dom, g1, hp, ?_⟩
        simp only [hp] at e
        cases r2 with
        | error c => cases e; exact fun H' e' => q H' (x1.ex.trans e')
        | ok od =>
          obtain ⟨o', d⟩ := od
          simp only [Option.ite_none_right_eq_some, Option.some.injEq] at e
          obtain ⟨rfl, rfl⟩ := e
          exact fun v F' H' x g => q v F' H' (x1.trans x) (g.back x1.ex)
theorem pd_callR {Φ : Fn} {es : List Expr} {r : Afn} (G : Fok X xa x Φ) (tk : L2N.Takes X W) (hg : Gl X x) (ha : PAD X W xa .v (e :: es) r)
    (he : starEach (e :: es) X.env = (false, eval e X.env) :: starEach es X.env := by rfl) (hpl : (backTo pos (starEach es X.env)).any (·.1) = false := by rfl) : PD X W xa .e (.Call (.Name x p) (e :: es) [] pos) (eCallR Φ r) := by
  obtain ⟨⟨k, f, fd, ps, ok, hr, hm, hk, hb⟩, hdb⟩ := G
  rw [bs_none hr.hd] at ok
  refine impE (pe_callS (E := WE W) ok hr hg hm hk hb (fun σ => L2N.passAt tk σ) ha hdb he hpl) fun σ H Q h => ?_
  obtain ⟨D, F, env, r0, S, e, q⟩ := h
  unfold eCallR at e
  cases hf : r env with
  | none => rw [hf] at e; cases e
  | some r1 =>
    rw [hf] at e
    cases r1 with
    | error c => cases e; exact ⟨D, F, env, .error c, S, hf, q⟩
    | ok ds =>
      refine ⟨D, F, env, .ok ds, S, hf, fun vs F1 H1 x1 g1 => ?_⟩
      cases hp : Φ ds with
      | none => simp only [hp] at e; cases e
      | some r2 =>
        refine ⟨fun a => H1 a ≠ none, ds, r2, fun _ h => h, g1, hp, ?_⟩
        simp only [hp] at e
        cases r2 with
        | error c => cases e; exact fun H' e' => q H' (x1.ex.trans e')
        | ok od =>
          obtain ⟨o', d⟩ := od
          cases o' with
          | true => cases e
          | false =>
            simp only [Option.ite_none_right_eq_some, Option.some.injEq] at e
            obtain ⟨hi, rfl⟩ := e
            intro v F' H' x g
            have g' : Dd (bs X) F' H' v d := g
            exact q v F1 H' (x1.trans (Ext.of x1.dom x.ex)) (Dd.imm hi g')
end
end DS
namespace DS
open PySem PySem.Spec PyProof.Rows L2
/-- what is frozen at (F, H) is kept at (F', H') -/
structure Kp (F : Fz) (H : Hp) (F' : Fz) (H' : Hp) : Prop where
  keep : Keep F H H'
  sub : ∀ a, F a → F' a
  dom : Dom F' H'
section
variable {B : Bs} {D : Bd} {F F' F1 F2 : Fz} {H H' H1 H2 : Hp} {σ : DS.St} {env : DS.Env}
theorem Ext.kp (x : Ext F H F' H') : Kp F H F' H' := ⟨x.ex.keep, x.sub, x.dom⟩
theorem Kp.trans (x : Kp F H F1 H1) (y : Kp F1 H1 F2 H2) : Kp F H F2 H2 := ⟨x.keep.trans x.sub y.keep, fun a f => y.sub a (x.sub a f), y.dom⟩
theorem Kp.refl (h : Dom F H) : Kp F H F H := (Ext.refl h).kp
theorem Dd.kp {v : V} {d : PyData} (h : Dd B F H v d) (x : Kp F H F' H') : Dd B F' H' v d := h.mono x.sub x.keep
theorem DdAll.kp {v : List V} {d : List PyData} (h : DdAll B F H v d) (x : Kp F H F' H') : DdAll B F' H' v d := h.mono x.sub x.keep
theorem Stt.set {j : Nat} {v : V} {d : PyData} (S : Stt B D F H σ env) (h : Dd B F H v d) : Stt B D F H (σ.set j (some v)) (env.set j (some (false, d))) := by
  refine ⟨S.pro, S.bn, S.sub, S.new, S.dom, by rw [List.length_set, List.length_set]; exact S.len, fun i d' e => ?_, fun i d' e => ?_, fun i i' d1 d2 a e1 e2 e3 e4 => ?_⟩
  · by_cases hj : j = i
    · subst hj
      by_cases hl : j < env.length
      · rw [List.getElem?_set_self hl] at e
        cases e
        exact ⟨v, by rw [List.getElem?_set_self (by rw [S.len]; exact hl)], h⟩
      · rw [List.getElem?_eq_none (by rw [List.length_set]; omega)] at e
        cases e
    · rw [List.getElem?_set_ne hj] at e ⊢
      exact S.slot i d' e
  · by_cases hj : j = i
    · subst hj
      by_cases hl : j < env.length
      · rw [List.getElem?_set_self hl] at e
        cases e
      · rw [List.getElem?_eq_none (by rw [List.length_set]; omega)] at e
        cases e
    · rw [List.getElem?_set_ne hj] at e ⊢
      exact S.own i d' e
  · have ne : ∀ k d3, (env.set j (some (false, d)))[k]? = some (some (true, d3)) → j ≠ k := fun k d3 e hj => by
      subst hj
      by_cases hl : j < env.length
      · rw [List.getElem?_set_self hl] at e
        cases e
      · rw [List.getElem?_eq_none (by rw [List.length_set]; omega)] at e
        cases e
    have h1 := ne i d1 e1
    have h2 := ne i' d2 e2
    rw [List.getElem?_set_ne h1] at e1 e3
    rw [List.getElem?_set_ne h2] at e2 e4
    exact S.sep i i' d1 d2 a e1 e2 e3 e4
/-- an own thing is put into a slot -/
theorem Stt.setOwn {j : Nat} {a : Addr} {d : PyData} {H0 : Hp} (S : Stt B D F H σ env) (hl0 : ∀ (i : Nat) (d' : PyData) (b : Addr), i ≠ j → env[i]? = some (some (true, d')) → σ[i]? = some (some (V.ref b)) → b ≠ a) (h1 : ¬ F a) (h2 : D.Bp a = none) (h3 : ¬ D.Bn a) (h4 : Own B F H a d) : Stt B D F H (σ.set j (some (.ref a))) (env.set j (some (true, d))) := by
  refine ⟨S.pro, S.bn, S.sub, S.new, S.dom, by rw [List.length_set, List.length_set]; exact S.len, fun i d' e => ?_, fun i d' e => ?_, fun i i' d1 d2 b e1 e2 e3 e4 => ?_⟩
  · by_cases hj : j = i
    · subst hj
      by_cases hl : j < env.length
      · rw [List.getElem?_set_self hl] at e
        cases e
      · rw [List.getElem?_eq_none (by rw [List.length_set]; omega)] at e
        cases e
    · rw [List.getElem?_set_ne hj] at e ⊢
      exact S.slot i d' e
  · by_cases hj : j = i
    · subst hj
      by_cases hl : j < env.length
      · rw [List.getElem?_set_self hl] at e
        cases e
        exact ⟨a, by rw [List.getElem?_set_self (by rw [S.len]; exact hl)], h1, h2, h3, h4⟩
      · rw [List.getElem?_eq_none (by rw [List.length_set]; omega)] at e
        cases e
    · rw [List.getElem?_set_ne hj] at e ⊢
      exact S.own i d' e
  · by_cases g1 : j = i
    · by_cases g2 : j = i'
      · exact g1.symm.trans g2
      · rw [List.getElem?_set_ne g2] at e2 e4
        subst g1
        by_cases hl : j < σ.length
        · rw [List.getElem?_set_self hl] at e3
          cases e3
          exact (hl0 i' d2 a (fun e => g2 e.symm) e2 e4 rfl).elim
        · rw [List.getElem?_eq_none (by rw [List.length_set]; omega)] at e3
          cases e3
    · rw [List.getElem?_set_ne g1] at e1 e3
      by_cases g2 : j = i'
      · subst g2
        by_cases hl : j < σ.length
        · rw [List.getElem?_set_self hl] at e4
          cases e4
          exact (hl0 i d1 a (fun e => g1 e.symm) e1 e3 rfl).elim
        · rw [List.getElem?_eq_none (by rw [List.length_set]; omega)] at e4
          cases e4
      · rw [List.getElem?_set_ne g2] at e2 e4
        exact S.sep i i' d1 d2 b e1 e2 e3 e4
def wipeE (env : DS.Env) : List Nat → DS.Env
  | [] => env
  | v :: vs => (wipeE env vs).set v none
theorem Stt.unset {j : Nat} (S : Stt B D F H σ env) : Stt B D F H (σ.set j none) (env.set j none) := by
  have ne : ∀ (k : Nat) (x : Bool × PyData), (env.set j none)[k]? = some (some x) → j ≠ k := fun k x e hj => by
    subst hj
    by_cases hl : j < env.length
    · rw [List.getElem?_set_self hl] at e
      cases e
    · rw [List.getElem?_eq_none (by rw [List.length_set]; omega)] at e
      cases e
  refine ⟨S.pro, S.bn, S.sub, S.new, S.dom, by rw [List.length_set, List.length_set]; exact S.len, fun i d' e => ?_, fun i d' e => ?_, fun i i' d1 d2 a e1 e2 e3 e4 => ?_⟩
  · have h := ne i _ e
    rw [List.getElem?_set_ne h] at e ⊢
    exact S.slot i d' e
  · have h := ne i _ e
    rw [List.getElem?_set_ne h] at e ⊢
    exact S.own i d' e
  · have h1 := ne i _ e1
    have h2 := ne i' _ e2
    rw [List.getElem?_set_ne h1] at e1 e3
    rw [List.getElem?_set_ne h2] at e2 e4
    exact S.sep i i' d1 d2 a e1 e2 e3 e4
theorem Stt.wipe (S : Stt B D F H σ env) : ∀ vs : List Nat, Stt B D F H (wipe σ vs) (wipeE env vs)
  | [] => S
  | v :: vs => (S.wipe vs).unset
theorem wipe_get (σ : DS.St) : ∀ (vs : List Nat) (i : Nat), (wipe σ vs)[i]? = if i ∈ vs then (σ[i]?).map (fun _ => none) else σ[i]?
  | [], i => by simp [L2.wipe]
  | v :: vs, i => by
    have ih := wipe_get σ vs i
    show ((L2.wipe σ vs).set v none)[i]? = _
    by_cases hv : v = i
    · subst hv
      by_cases hl : v < σ.length
      · rw [List.getElem?_set_self (by rw [wipe_length]; exact hl), if_pos List.mem_cons_self, List.getElem?_eq_getElem hl]
        rfl
      · rw [List.getElem?_eq_none (by rw [List.length_set, wipe_length]; omega), List.getElem?_eq_none (by omega)]
        simp
    · rw [List.getElem?_set_ne hv, ih]
      have : i ∈ v :: vs ↔ i ∈ vs := by
        simp only [List.mem_cons]
        exact ⟨fun h => h.resolve_left (fun e => hv e.symm), .inr⟩
      by_cases hm : i ∈ vs
      · rw [if_pos hm, if_pos (this.mpr hm)]
      · rw [if_neg hm, if_neg (fun h => hm (this.mp h))]
theorem wipe_set {j : Nat} {x : Option V} {vs : List Nat} (h : j ∈ vs) : wipe (σ.set j x) vs = wipe σ vs := by
  apply List.ext_getElem?
  intro i
  rw [wipe_get, wipe_get]
  by_cases hi : i ∈ vs
  · rw [if_pos hi, if_pos hi]
    by_cases hj : j = i
    · subst hj
      by_cases hl : j < σ.length
      · rw [List.getElem?_set_self hl, List.getElem?_eq_getElem hl]
        rfl
      · rw [List.getElem?_eq_none (by rw [List.length_set]; omega), List.getElem?_eq_none (by omega)]
    · rw [List.getElem?_set_ne hj]
  · rw [if_neg hi, if_neg hi, List.getElem?_set_ne (fun e => hi (by rw [← e]; exact h))]
theorem wipe_wipe {vs : List Nat} : wipe (wipe σ vs) vs = wipe σ vs := by
  apply List.ext_getElem?
  intro i
  rw [wipe_get, wipe_get]
  by_cases hi : i ∈ vs
  · rw [if_pos hi, if_pos hi]
    cases σ[i]? <;> rfl
  · rw [if_neg hi, if_neg hi]
end
abbrev Bn := PyData → DS.Env → Option DS.Env
def bName (j : Nat) : Bn := fun d env => some (env.set j (some (false, d)))
def setAll : List Nat → List PyData → DS.Env → Option DS.Env
  | [], [], env => some env
  | j :: js, d :: ds, env => setAll js ds (env.set j (some (false, d)))
  | _, _, _ => none
def bTup (js : List Nat) : Bn := fun d env => match d with
  | .tuple ds => setAll js ds env
  | _ => none
/-- storing v, that reads as d, to the target is what bnd tells -/
def BndOk (B : Bs) (g : TG) (bnd : Bn) (js : List Nat) : Prop := ∀ (v : V) (d : PyData) (D : Bd) (F : Fz) (H : Hp) (σ : DS.St) (env env' : DS.Env) (Q : DS.St → Hp → Prop), Stt B D F H σ env → Dd B F H v d → bnd d env = some env' →
  (∀ σ', Stt B D F H σ' env' → (∀ vs : List Nat, (∀ j ∈ js, j ∈ vs) → wipe σ' vs = wipe σ vs) → Q σ' H) → g v σ H Q
theorem bnd_name {B : Bs} (j : Nat) : BndOk B (gName j) (bName j) [j] := by
  intro v d D F H σ env env' Q S hd e q
  cases e
  exact q _ (S.set hd) fun vs hv => wipe_set (hv j (by simp))
def gNames : List Nat → TGs
  | [] => gNil
  | j :: js => gCons (gName j) (gNames js)
theorem names_of {B : Bs} {D : Bd} {F : Fz} {H : Hp} : ∀ (js : List Nat) (ds : List PyData) (xs : List V) (σ : DS.St) (env env' : DS.Env) (Q : DS.St → Hp → Prop), Stt B D F H σ env → DdAll B F H xs ds → setAll js ds env = some env' →
    (∀ σ', Stt B D F H σ' env' → (∀ vs : List Nat, (∀ j ∈ js, j ∈ vs) → wipe σ' vs = wipe σ vs) → Q σ' H) → gNames js xs σ H Q
  | [], [], _, σ, env, env', Q, S, .nil, e, q => by
    cases e
    exact ⟨rfl, q σ S fun _ _ => rfl⟩
  | j :: js, d :: ds, _, σ, env, env', Q, S, .cons r t, e, q =>
    ⟨_, _, rfl, names_of js ds _ _ _ env' Q (S.set r) t e fun σ' S' w => q σ' S' fun vs hv => (w vs fun i hi => hv i (List.mem_cons_of_mem _ hi)).trans (wipe_set (hv j List.mem_cons_self))⟩
  | [], _ :: _, _, _, _, _, _, _, _, e, _ => by cases e
  | _ :: _, [], _, _, _, _, _, _, _, e, _ => by cases e
theorem setAll_len : ∀ {js : List Nat} {ds : List PyData} {env env' : DS.Env}, setAll js ds env = some env' → ds.length = js.length
  | [], [], _, _, _ => rfl
  | j :: js, d :: ds, env, _, e => by rw [List.length_cons, List.length_cons, setAll_len (js := js) (ds := ds) e]
  | [], _ :: _, _, _, e => by cases e
  | _ :: _, [], _, _, e => by cases e
theorem bnd_tup {B : Bs} (js : List Nat) : BndOk B (gTup B.K js.length (gNames js)) (bTup js) js := by
  intro v d D F H σ env env' Q S hd e q
  unfold bTup at e
  split at e
  · obtain ⟨a, xs, rfl, h1, h2⟩ := hd.tup_
    exact ⟨a, xs, rfl, h1.sq, by rw [h2.length]; exact setAll_len e, names_of js _ xs σ env env' Q S h2 e q⟩
  · cases e
def Rl (m : Md) (F1 : Fz) (H1 : Hp) (F : Fz) (H : Hp) : Prop := match m with
  | .e => Kp F1 H1 F H
  | _ => Ext F1 H1 F H
/-- J walks the items ds, each stored to the target as bnd tells -/
structure Wlk (B : Bs) (R : Fz → Hp → Prop) (J : It) (g : TG) (bnd : Bn) (js : List Nat) (ds : List PyData) : Prop where
  len : ds.length ≤ sizeLine
  go : ∀ i F H, R F H → i < ds.length → J.go i H
  stop : ∀ F H, R F H → J.stop ds.length H
  turn : ∀ (i : Nat) (d : PyData) (F : Fz) (H : Hp) (x : V) (H' : Hp), R F H → Dom F H → ds[i]? = some d → J.yld i H x H' → ∀ (D : Bd) (σ : DS.St) (env env' : DS.Env) (Q : DS.St → Hp → Prop), Stt B D F H σ env → bnd d env = some env' →
    (∀ σ' F' H'', Ext F H F' H'' → Stt B D F' H'' σ' env' → (∀ vs : List Nat, (∀ j ∈ js, j ∈ vs) → wipe σ' vs = wipe σ vs) → Q σ' H'') → g x σ H' Q
abbrev Sfn := DS.Env → Option (Except Xc (List PyData))
def tI (B : Bs) (W : WX) (xa : Xc → Addr) (m : Md) (g : TG) (bnd : Bn) (js : List Nat) (src : Sfn) : TI := fun σ H R => ∃ D F env r, Stt B D F H σ env ∧ src env = some r ∧ match r with
  | .ok ds => ∀ J F' H', Ext F H F' H' → Wlk B (Rl m F' H') J g bnd js ds → R J H'
  | .error c => ∀ H', Ex H H' → W (.ref (xa c)) none σ H'
abbrev PID (X : Cx) (W : WX) (xa : Xc → Addr) (m : Md) (tg e : Expr) (g : TG) (bnd : Bn) (js : List Nat) (src : Sfn) : Prop := PI X tg e (tI (bs X) W xa m g bnd js src)
theorem impI {X : Cx} {tg e : Expr} {t t' : TI} (h : PI X tg e t) (k : ∀ σ H R, t' σ H R → t σ H R) : PI X tg e t' := ⟨fun pins s σ H R I q => h.run pins s σ H R I (k σ H R q)⟩
/-- the items of a list | a tuple | a range -/
def sLst (f : Ef) : Sfn := fun env => match f env with
  | some (.ok (.list ds)) => some (.ok ds)
  | some (.error c) => some (.error c)
  | _ => none
def sTup (f : Ef) : Sfn := fun env => match f env with
  | some (.ok (.tuple ds)) => if ds.length ≤ sizeLine then some (.ok ds) else none
  | some (.error c) => some (.error c)
  | _ => none
def rangeD (n : Int) : List PyData := (List.range n.toNat).map fun i => .int ((i : Nat) : Int)
def sRng (f : Ef) : Sfn := fun env => match f env with
  | some (.ok (.int n)) => if n ≤ 16777216 ∧ -1000 ≤ n then some (.ok (rangeD n)) else none
  | some (.error c) => some (.error c)
  | _ => none
section
variable {X : Cx} {W : WX} {xa : Xc → Addr} {e a b c tg : Expr} {f g h : Ef} {p pos : Pos} {m m1 m2 m3 : Md} {gt : TG} {bnd : Bn} {js : List Nat}
theorem wlk_list {B : Bs} {a : Addr} {xs : List V} {ds : List PyData} {R : Fz → Hp → Prop} (hb : BndOk B gt bnd js) (hz : ds.length ≤ sizeLine) (h : ∀ F H, R F H → H a = some (.lst xs) ∧ DdAll B F H xs ds) : Wlk B R (Itl B.K a) gt bnd js ds := by
  refine ⟨hz, fun i F H r hi => ?_, fun F H r => ?_, fun i d F H x H' r hd hi hy D σ env env' Q S e q => ?_⟩
  · obtain ⟨h1, h2⟩ := h F H r
    obtain ⟨v, hv, _⟩ := h2.get (List.getElem?_eq_getElem hi)
    exact ⟨xs, v, .of h1, hv⟩
  · obtain ⟨h1, h2⟩ := h F H r
    exact ⟨xs, .of h1, by rw [h2.length]; exact Nat.le_refl _⟩
  · obtain ⟨rfl, hy⟩ := hy
    obtain ⟨h1, h2⟩ := h F _ r
    obtain ⟨v, hv, hvd⟩ := h2.get hi
    have e' := hy xs (.of h1)
    rw [hv] at e'
    cases e'
    exact hb _ d D F _ σ env env' Q S hvd e fun σ' S' w => q σ' F _ (Ext.refl hd) S' w
theorem wlk_tup {B : Bs} {a : Addr} {xs : List V} {ds : List PyData} {R : Fz → Hp → Prop} (hb : BndOk B gt bnd js) (hz : ds.length ≤ sizeLine) (h : ∀ F H, R F H → TupF H a xs ∧ DdAll B F H xs ds) : Wlk B R (Itt B.K a) gt bnd js ds := by
  refine ⟨hz, fun i F H r hi => ?_, fun F H r => ?_, fun i d F H x H' r hd hi hy D σ env env' Q S e q => ?_⟩
  · obtain ⟨h1, h2⟩ := h F H r
    obtain ⟨v, hv, _⟩ := h2.get (List.getElem?_eq_getElem hi)
    exact ⟨xs, v, h1.sq, hv⟩
  · obtain ⟨h1, h2⟩ := h F H r
    exact ⟨xs, h1.sq, by rw [h2.length]; exact Nat.le_refl _⟩
  · obtain ⟨rfl, hy⟩ := hy
    obtain ⟨h1, h2⟩ := h F _ r
    obtain ⟨v, hv, hvd⟩ := h2.get hi
    have e' := hy xs h1.sq
    rw [hv] at e'
    cases e'
    exact hb _ d D F _ σ env env' Q S hvd e fun σ' S' w => q σ' F _ (Ext.refl hd) S' w
theorem rangeD_len (n : Int) : (rangeD n).length = n.toNat := by unfold rangeD; rw [List.length_map, List.length_range]
theorem wlk_rng {B : Bs} {n : Int} {R : Fz → Hp → Prop} (hb : BndOk B gt bnd js) (hz : n ≤ 16777216) : Wlk B R (Itr 0 n.toNat) gt bnd js (rangeD n) := by
  have hl := rangeD_len n
  refine ⟨by rw [hl, sizeLine_eq]; omega, fun i F H r hi => by rw [hl] at hi; exact hi, fun F H r => by rw [hl]; exact Nat.le_refl _, fun i d F H x H' r hd hi hy D σ env env' Q S e q => ?_⟩
  obtain ⟨rfl, rfl⟩ := hy
  have hi' : i < n.toNat := by rw [← hl]; exact (List.getElem?_eq_some_iff.mp hi).1
  unfold rangeD at hi
  rw [List.getElem?_map, List.getElem?_range hi'] at hi
  cases hi
  have e0 : (0 : Int) + (i : Int) = (i : Int) := Int.zero_add _
  rw [e0]
  exact hb (.int (i : Int)) _ D F _ σ env env' Q S (.int _) e fun σ' S' w => q σ' F _ (Ext.refl hd) S' w
theorem pid_list (hb : BndOk (bs X) gt bnd js) (ha : PD X W xa .r e f) : PID X W xa .r tg e gt bnd js (sLst f) := impI (pi_list ha) fun σ H R h => by
  obtain ⟨D, F, env, r0, S, e, q⟩ := h
  unfold sLst at e
  split at e
  · rename_i ds hf
    cases e
    refine ⟨D, F, env, .ok (.list ds), S, hf, fun v F1 H1 x1 g1 => ?_⟩
    obtain ⟨a, xs, rfl, h1, hz, h2⟩ := Top.lst g1
    exact ⟨a, rfl, ⟨xs, .of h1⟩, q _ F1 H1 x1 (wlk_list hb (by rw [← h2.length]; exact hz) fun F H r => ⟨Ext.ex r _ _ h1, h2.ext r⟩)⟩
  · rename_i c hf
    cases e
    exact ⟨D, F, env, .error c, S, hf, q⟩
  · cases e
theorem pid_listE (hb : BndOk (bs X) gt bnd js) (ha : PD X W xa .e e f) : PID X W xa .e tg e gt bnd js (sLst f) := impI (pi_list ha) fun σ H R h => by
  obtain ⟨D, F, env, r0, S, e, q⟩ := h
  unfold sLst at e
  split at e
  · rename_i ds hf
    cases e
    refine ⟨D, F, env, .ok (.list ds), S, hf, fun v F1 H1 x1 g1 => ?_⟩
    have g1' : Dd (bs X) F1 H1 v (.list ds) := g1
    cases g1' with
    | lst fa h1 hz h2 => exact ⟨_, rfl, ⟨_, .of h1⟩, q _ F1 H1 x1 (wlk_list hb (by rw [← h2.length]; exact hz) fun F H r => ⟨(Kp.keep r).l _ _ fa h1, h2.kp r⟩)⟩
  · rename_i c hf
    cases e
    exact ⟨D, F, env, .error c, S, hf, q⟩
  · cases e
theorem pid_tup {m : Md} (hb : BndOk (bs X) gt bnd js) (ha : PD X W xa .r e f) (hm : m ≠ .o := by simp) : PID X W xa m tg e gt bnd js (sTup f) := impI (pi_tup ha) fun σ H R h => by
  obtain ⟨D, F, env, r0, S, e, q⟩ := h
  unfold sTup at e
  split at e
  · rename_i ds hf
    simp only [Option.ite_none_right_eq_some, Option.some.injEq] at e
    obtain ⟨hz, rfl⟩ := e
    refine ⟨D, F, env, .ok (.tuple ds), S, hf, fun v F1 H1 x1 g1 => ?_⟩
    obtain ⟨a, xs, rfl, h1, h2⟩ := Top.tup g1
    refine ⟨a, rfl, ⟨xs, h1.sq⟩, q _ F1 H1 x1 (wlk_tup (xs := xs) hb hz fun F H r => ?_)⟩
    have r' : Kp F1 H1 F H := by
      cases m with
      | e => exact r
      | r => exact Ext.kp r
      | o => exact (hm rfl).elim
      | v => exact Ext.kp r
    exact ⟨r'.keep.t _ _ h1, h2.kp r'⟩
  · rename_i c hf
    cases e
    exact ⟨D, F, env, .error c, S, hf, q⟩
  · cases e
theorem pid_rng {m : Md} (hb : BndOk (bs X) gt bnd js) (hg : Gl X "range") (hm : X.mg "range" = none) (ha : PD X W xa .e a f) (hs : starEach [a] X.env = [(false, eval a X.env)] := by rfl) : PID X W xa m tg (.Call (.Name "range" p) [a] [] pos) gt bnd js (sRng f) := impI (pi_range1 hg hm (pa_cons ha pa_nil hs) hs) fun σ H R h => by
  obtain ⟨D, F, env, r0, S, e, q⟩ := h
  unfold sRng at e
  split at e
  · rename_i n hf
    simp only [Option.ite_none_right_eq_some, Option.some.injEq] at e
    obtain ⟨⟨hz, hz2⟩, rfl⟩ := e
    refine ⟨D, F, env, .ok (.int n), S, hf, fun v F1 H1 x1 g1 => ?_⟩
    cases Dd.int_ g1
    exact ⟨n, rfl, by omega, by omega, q _ F1 H1 x1 (wlk_rng hb hz)⟩
  · rename_i c hf
    cases e
    exact ⟨D, F, env, .error c, S, hf, q⟩
  · cases e
def lcGo (st : PyData → Option (Option PyData)) : List PyData → Option (List PyData)
  | [] => some []
  | d :: ds => match st d with
    | none => none
    | some o => match lcGo st ds with
      | none => none
      | some r => some (match o with | some y => y :: r | none => r)
def tYesE : Ef := eC (.bool true)
/-- one turn: the target, the test, the element -/
def lcStep (bnd : Bn) (tst elt : Ef) (env : DS.Env) (d : PyData) : Option (Option PyData) := match bnd d env with
  | none => none
  | some env' => match tst env' with
    | some (.ok (.bool false)) => some none
    | some (.ok (.bool true)) => match elt env' with
      | some (.ok y) => some (some y)
      | _ => none
    | _ => none
def eLC (src : Sfn) (bnd : Bn) (tst elt : Ef) (vs : List Nat) : Ef := fun env => match src env with
  | none => none
  | some (.error c) => some (.error c)
  | some (.ok ds) => (lcGo (lcStep bnd tst elt (wipeE env vs)) ds).map fun ys => .ok (.list ys)
theorem lcGo_drop {st : PyData → Option (Option PyData)} {ds ys : List PyData} (e : lcGo st ds = some ys) : ∀ i, ∃ ys1 ys2, ys = ys1 ++ ys2 ∧ lcGo st (ds.take i) = some ys1 ∧ lcGo st (ds.drop i) = some ys2 := by
  induction ds generalizing ys with
  | nil =>
    intro i
    cases e
    exact ⟨[], [], rfl, by simp [lcGo], by simp [lcGo]⟩
  | cons d ds ih =>
    intro i
    cases i with
    | zero => exact ⟨[], ys, rfl, rfl, by simpa using e⟩
    | succ i =>
      simp only [lcGo] at e
      cases h1 : st d with
      | none => rw [h1] at e; cases e
      | some o =>
        rw [h1] at e
        cases h2 : lcGo st ds with
        | none => rw [h2] at e; cases e
        | some r =>
          rw [h2] at e
          obtain ⟨y1, y2, e1, e2, e3⟩ := ih h2 i
          cases o with
          | none =>
            simp only [Option.some.injEq] at e
            subst e
            exact ⟨y1, y2, e1, by simp only [List.take_succ_cons, lcGo, h1, e2], by simpa using e3⟩
          | some y =>
            simp only [Option.some.injEq] at e
            subst e
            exact ⟨y :: y1, y2, by rw [e1]; rfl, by simp only [List.take_succ_cons, lcGo, h1, e2], by simpa using e3⟩
theorem lcGo_len {st : PyData → Option (Option PyData)} : ∀ {ds ys : List PyData}, lcGo st ds = some ys → ys.length ≤ ds.length
  | [], _, e => by cases e; exact Nat.le_refl _
  | d :: ds, ys, e => by
    simp only [lcGo] at e
    cases h1 : st d with
    | none => rw [h1] at e; cases e
    | some o =>
      rw [h1] at e
      cases h2 : lcGo st ds with
      | none => rw [h2] at e; cases e
      | some r =>
        rw [h2] at e
        have ih := lcGo_len h2
        cases o with
        | none => simp only [Option.some.injEq] at e; subst e; rw [List.length_cons]; omega
        | some y => simp only [Option.some.injEq] at e; subst e; rw [List.length_cons, List.length_cons]; omega
theorem lcGo_snoc {st : PyData → Option (Option PyData)} {d : PyData} {o : Option PyData} (h : st d = some o) : ∀ {ds ys : List PyData}, lcGo st ds = some ys → lcGo st (ds ++ [d]) = some (match o with | some y => ys ++ [y] | none => ys)
  | [], _, e => by
    cases e
    cases o <;> simp [lcGo, h]
  | d' :: ds, ys, e => by
    simp only [lcGo] at e
    cases h1 : st d' with
    | none => rw [h1] at e; cases e
    | some o' =>
      rw [h1] at e
      cases h2 : lcGo st ds with
      | none => rw [h2] at e; cases e
      | some r =>
        rw [h2] at e
        have ih := lcGo_snoc h h2
        cases o' with
        | none =>
          simp only [Option.some.injEq] at e
          subst e
          simp only [List.cons_append, lcGo, h1, ih]
        | some y' =>
          simp only [Option.some.injEq] at e
          subst e
          simp only [List.cons_append, lcGo, h1, ih]
          cases o <;> rfl
theorem tLc_of {B : Bs} {W0 : WX} {src : Sfn} {tst elt : Ef} {vs : List Nat} (hj : ∀ j ∈ js, j ∈ vs) {σ : DS.St} {H : Hp} {Q : VK} (h : tM B W xa .o (eLC src bnd tst elt vs) σ H Q) :
    tLc (tI B W xa .r gt bnd js src) gt (tB (tM B W0 xa .e tst)) (tM B W0 xa .e elt) vs σ H Q := by
  obtain ⟨D, F, env, r0, S, e, q⟩ := h
  unfold eLC at e
  cases hs : src env with
  | none => rw [hs] at e; cases e
  | some r1 =>
    rw [hs] at e
    cases r1 with
    | error c => cases e; exact ⟨D, F, env, .error c, S, hs, q⟩
    | ok ds =>
      simp only [Option.map_eq_some_iff] at e
      obtain ⟨ys, e, rfl⟩ := e
      refine ⟨D, F, env, .ok ds, S, hs, fun J F1 H1 x1 wk L hL => ?_⟩
      have nF1 : ¬ F1 L := fun f => x1.dom L f hL
      -- behind i turns: the list at L, the first items done
      refine ⟨fun i m H2 => m = ds.length - i ∧ i ≤ ds.length ∧ ∃ F2 acc zs, Ext F1 H1 F2 H2 ∧ ¬ F2 L ∧ H2 L = some (.lst acc) ∧ DdAll B F2 H2 acc zs ∧ lcGo (lcStep bnd tst elt (wipeE env vs)) (ds.take i) = some zs, ?_, ?_⟩
      · have x : Ext F1 H1 F1 (upd H1 L (.lst [])) := Ext.of x1.dom (Ex.new hL)
        exact ⟨ds.length, by simp, Nat.zero_le _, F1, [], [], x, nF1, upd_same, .nil, by simp [lcGo]⟩
      · rintro i m H2 ⟨rfl, hi, F2, acc, zs, x2, nF2, hl, hacc, hgo⟩
        by_cases hlt : i < ds.length
        · refine .inr ⟨wk.go i F2 H2 x2 hlt, fun H' => i + 1 ≤ ds.length ∧ ∃ F2 acc zs, Ext F1 H1 F2 H' ∧ ¬ F2 L ∧ H' L = some (.lst acc) ∧ DdAll B F2 H' acc zs ∧ lcGo (lcStep bnd tst elt (wipeE env vs)) (ds.take (i + 1)) = some zs, fun H' ⟨h1, h2⟩ => ⟨ds.length - (i + 1), by omega, rfl, h1, h2⟩, fun x H' hy => ?_⟩
          have hd : ds[i]? = some ds[i] := List.getElem?_eq_getElem hlt
          obtain ⟨y1, y2, e1, e2, e3⟩ := lcGo_drop e i
          have etake : ds.take (i + 1) = ds.take i ++ [ds[i]] := by rw [List.take_succ, hd]; rfl
          rw [List.drop_eq_getElem_cons hlt] at e3
          simp only [lcGo] at e3
          cases hst : lcStep bnd tst elt (wipeE env vs) ds[i] with
          | none => rw [hst] at e3; cases e3
          | some o =>
            have snoc := lcGo_snoc hst hgo
            rw [← etake] at snoc
            unfold lcStep at hst
            cases hb : bnd ds[i] (wipeE env vs) with
            | none => rw [hb] at hst; cases hst
            | some env' =>
              rw [hb] at hst
              have S2 : Stt B D F2 H2 (wipe σ vs) (wipeE env vs) := ((S.ext x1).ext x2).wipe vs
              refine wk.turn i ds[i] F2 H2 x H' x2 x2.dom hd hy D (wipe σ vs) (wipeE env vs) env' _ S2 hb fun σ' F3 H3 x3 S3 w3 => ⟨(w3 vs hj).trans wipe_wipe, ?_⟩
              have l3 : H3 L = some (.lst acc) := x3.ex _ _ hl
              have nF3 : ¬ F3 L := fun f => (x3.new L f).elim nF2 fun z => by rw [hl] at z; cases z
              cases ht : tst env' with
              | none => simp only [ht] at hst; cases hst
              | some r2 =>
                cases r2 with
                | error c => simp only [ht] at hst; cases hst
                | ok z =>
                  cases z <;> first | (simp [ht] at hst; done) | skip
                  rename_i bb
                  refine ⟨D, F3, env', .ok (.bool bb), S3, ht, fun v F4 H4 x4 g4 => ?_⟩
                  cases Dd.bl_ g4
                  have l4 : H4 L = some (.lst acc) := x4.ex _ _ l3
                  have nF4 : ¬ F4 L := fun f => (x4.new L f).elim nF3 fun z => by rw [l3] at z; cases z
                  have x34 := x3.trans x4
                  refine ⟨bb, rfl, ?_⟩
                  cases bb with
                  | false =>
                    simp only [ht, Option.some.injEq] at hst
                    subst hst
                    exact ⟨hlt, F4, acc, zs, x2.trans x34, nF4, l4, hacc.ext x34, snoc⟩
                  | true =>
                    simp only [ht] at hst
                    show tM B W0 xa .e elt σ' H4 _
                    cases he : elt env' with
                    | none => simp only [he] at hst; cases hst
                    | some r3 =>
                      cases r3 with
                      | error c => simp only [he] at hst; cases hst
                      | ok y =>
                        simp only [he, Option.some.injEq] at hst
                        subst hst
                        refine ⟨D, F4, env', .ok y, S3.ext x4, he, fun v F5 H5 x5 g5 => ?_⟩
                        have l5 : H5 L = some (.lst acc) := x5.ex _ _ l4
                        have nF5 : ¬ F5 L := fun f => (x5.new L f).elim nF4 fun z => by rw [l4] at z; cases z
                        have kp : Keep F5 H5 (upd H5 L (.lst (acc ++ [v]))) := Keep.upd nF5 l5 (fun _ _ z => nomatch z)
                        have x345 := x34.trans x5
                        have hlen : acc.length < sizeLine := by
                          rw [hacc.length]
                          have h1 := lcGo_len hgo
                          rw [List.length_take] at h1
                          have h2 := wk.len
                          omega
                        have hn : H1 L = none := hL
                        refine ⟨acc, l5, hlen, hlt, F5, acc ++ [v], zs ++ [y], ⟨Ex.mut (x2.trans x345).ex hn, (x2.trans x345).sub, (x2.trans x345).new, fun b f => ?_⟩, nF5, upd_same, ?_, snoc⟩
                        · rw [upd_ne (fun e => by subst e; exact nF5 f)]
                          exact x5.dom b f
                        · exact ((hacc.ext x345).mono (fun _ z => z) kp).append (.cons (Dd.mono (fun _ z => z) kp g5) .nil)
        · have ei : i = ds.length := by omega
          subst ei
          refine .inl ⟨wk.stop F2 H2 x2, ?_⟩
          rw [List.take_length, e] at hgo
          cases hgo
          refine q _ F2 H2 (x1.trans x2) ⟨L, rfl, nF2, x1.ex.free hL, .lst hl ?_ hacc⟩
          rw [hacc.length]
          exact Nat.le_trans (lcGo_len e) wk.len
end
theorem pts_yes {X : Cx} {W : WX} {xa : Xc → Addr} : PTs X [] (tB (tM (bs X) W xa .e tYesE)) := ⟨fun pins s σ H Q I h => pts_nil.run pins s σ H Q I (by
  obtain ⟨D, F, env, r, S, e, k⟩ := h
  cases e
  obtain ⟨c, hc, q⟩ := k _ F H (Ext.refl S.dom) (.bl true)
  cases hc
  exact q)⟩
theorem pts_if {X : Cx} {W : WX} {xa : Xc → Addr} {c : Expr} {f : Ef} (h : PTD X W xa c f) : PTs X [c] (tB (tM (bs X) W xa .e f)) := pts_one h
abbrev W0 : WX := fun _ _ _ _ => False
theorem pd_lc {X : Cx} {W : WX} {xa : Xc → Addr} {elt tg iter : Expr} {ifs : List Expr} {scope : Scope} {own : List (Str × Nat)} {pos : Pos} {g : TG} {bnd : Bn} {js : List Nat} {src : Sfn} {tst el : Ef} (hc : X.calm = true) (hN : X.N.Nodup) (hi : PID X W xa .r tg iter g bnd js src) (ok : BlkOk X.N X.env.scope scope own)
    (hg : ∀ (s : Shared) (H : Hp) (C : Addr) (cl : List (Str × Addr)) (fp : List Addr), PG (X.blk s H scope (compEnvC scope cl C X.env) fp) tg g)
    (ht : ∀ (s : Shared) (H : Hp) (C : Addr) (cl : List (Str × Addr)) (fp : List Addr), PTs (X.blk s H scope (compEnvC scope cl C X.env) fp) ifs (tB (tM (bs X) W0 xa .e tst)))
    (he : ∀ (s : Shared) (H : Hp) (C : Addr) (cl : List (Str × Addr)) (fp : List Addr), PE (X.blk s H scope (compEnvC scope cl C X.env) fp) elt (tM (bs X) W0 xa .e el)) (hj : ∀ j ∈ js, j ∈ own.map (·.2)) (hs : ∀ x, foldedSetIterable iter X.env x = pure x := by intro _; rfl) :
    PD X W xa .o (.ListComp elt [⟨tg, iter, ifs, 0⟩] scope pos) (eLC src bnd tst el (own.map (·.2))) := impE (pe_lc hc hN hi ok hg ht he hs) fun _ _ _ h => tLc_of hj h
end DS
namespace DS
open PySem PySem.Spec PyProof.Rows L2
inductive Out where
  | nx (e : DS.Env) | rt (o : Bool) (d : PyData) | bk (e : DS.Env) | ct (e : DS.Env) | xc (c : Xc)
abbrev Sf := DS.Env → Option Out
/-- at the end: what was protected stands, frozen are the old ones and new ones -/
structure Fin (D : Bd) (F : Fz) (H : Hp) : Prop where
  pro : Ex D.Bp H
  bn : ∀ a, D.Bn a → H a ≠ none
  sub : ∀ a, D.F0 a → F a
  new : ∀ a, F a → D.F0 a ∨ ¬ D.Bn a
  dom : Dom F H
def GotR (B : Bs) (D : Bd) (o : Bool) (F : Fz) (H : Hp) (v : V) (d : PyData) : Prop := match o with
  | true => ∃ a, v = .ref a ∧ ¬ F a ∧ ¬ D.Bn a ∧ Own B F H a d
  | false => Dd B F H v d
def outOk (B : Bs) (W : WX) (xa : Xc → Addr) (D : Bd) (F : Fz) (H : Hp) (E : Ends) : Out → Prop
  | .nx env' => ∀ σ' F' H', Kp F H F' H' → Stt B D F' H' σ' env' → E.nx σ' H'
  | .bk env' => ∀ σ' F' H', Kp F H F' H' → Stt B D F' H' σ' env' → E.bk σ' H'
  | .ct env' => ∀ σ' F' H', Kp F H F' H' → Stt B D F' H' σ' env' → E.ct σ' H'
  | .rt o d => ∀ v F' H', Fin D F' H' → GotR B D o F' H' v d → E.rt v H'
  | .xc c => ∀ σ' H', Ex D.Bp H' → W (.ref (xa c)) none σ' H'
/-- THE READING of a statement -/
def tS (B : Bs) (W : WX) (xa : Xc → Addr) (g : Sf) : TS := fun E σ H => ∃ D F env out, Stt B D F H σ env ∧ g env = some out ∧ outOk B W xa D F H E out
abbrev PSD (X : Cx) (W : WX) (xa : Xc → Addr) (st : Stmt) (g : Sf) : Prop := PS X st (tS (bs X) W xa g)
abbrev PSsD (X : Cx) (W : WX) (xa : Xc → Addr) (st : List Stmt) (g : Sf) : Prop := PSs X st (tS (bs X) W xa g)
section
variable {B : Bs} {D : Bd} {F F' F1 F2 : Fz} {H H' H1 H2 : Hp} {σ : DS.St} {env : DS.Env} {W : WX} {xa : Xc → Addr} {E : Ends}
theorem Stt.fin (S : Stt B D F H σ env) : Fin D F H := ⟨S.pro, S.bn, S.sub, S.new, S.dom⟩
theorem outOk.kp {o : Out} (k : Kp F H F1 H1) (h : outOk B W xa D F H E o) : outOk B W xa D F1 H1 E o := by
  cases o with
  | nx e => exact fun σ' F' H' x S => h σ' F' H' (k.trans x) S
  | bk e => exact fun σ' F' H' x S => h σ' F' H' (k.trans x) S
  | ct e => exact fun σ' F' H' x S => h σ' F' H' (k.trans x) S
  | rt o d => exact h
  | xc c => exact h
def sSeq (g1 g2 : Sf) : Sf := fun env => match g1 env with
  | some (.nx env') => g2 env'
  | o => o
theorem tSeq_of {g1 g2 : Sf} (h : tS B W xa (sSeq g1 g2) E σ H) : tSeq (tS B W xa g1) (tS B W xa g2) E σ H := by
  obtain ⟨D, F, env, out, S, e, q⟩ := h
  unfold sSeq at e
  split at e
  · rename_i env' h1
    exact ⟨D, F, env, .nx env', S, h1, fun σ' F' H' x S' => ⟨D, F', env', out, S', e, q.kp x⟩⟩
  · rename_i hn
    refine ⟨D, F, env, out, S, e, ?_⟩
    cases out with
    | nx env' => exact (hn env' e).elim
    | bk e => exact q
    | ct e => exact q
    | rt o d => exact q
    | xc c => exact q
def sNx : Sf := fun env => some (.nx env)
def sBk : Sf := fun env => some (.bk env)
def sCt : Sf := fun env => some (.ct env)
def sNever : Sf := fun _ => none
/-- behind an expression's value -/
def bindS (x : Option Res) (k : PyData → Option Out) : Option Out := match x with
  | none => none
  | some (.error c) => some (.xc c)
  | some (.ok d) => k d
theorem bindS_cases {x : Option Res} {k : PyData → Option Out} {out : Out} (e : bindS x k = some out) : (∃ c, x = some (.error c) ∧ out = .xc c) ∨ ∃ d, x = some (.ok d) ∧ k d = some out := by
  unfold bindS at e
  split at e
  · cases e
  · cases e
    exact .inl ⟨_, rfl, rfl⟩
  · exact .inr ⟨_, rfl, e⟩
theorem tM_S {m : Md} {f : Ef} {k : PyData → DS.Env → Option Out} {Q : VK} (h : tS B W xa (fun env => bindS (f env) fun d => k d env) E σ H)
    (hk : ∀ D F env d out v F' H', Stt B D F H σ env → f env = some (.ok d) → k d env = some out → outOk B W xa D F H E out → Ext F H F' H' → Got B m H F' H' v d → Q v H') : tM B W xa m f σ H Q := by
  obtain ⟨D, F, env, out, S, e, q⟩ := h
  rcases bindS_cases e with ⟨c, hc, rfl⟩ | ⟨d, hd, e⟩
  · exact ⟨D, F, env, .error c, S, hc, fun H' e' => q σ H' (S.pro.trans e')⟩
  · exact ⟨D, F, env, .ok d, S, hd, fun v F' H' x g => hk D F env d out v F' H' S hd e q x g⟩
def sAsg (bnd : Bn) (f : Ef) : Sf := fun env => bindS (f env) fun d => (bnd d env).map .nx
theorem tAsg_of {f : Ef} {bnd : Bn} {gt : TG} {js : List Nat} (hb : BndOk B gt bnd js) (h : tS B W xa (sAsg bnd f) E σ H) : tAsg (tM B W xa .e f) gt E σ H :=
  tM_S (k := fun d env => (bnd d env).map .nx) h fun D F env d out v F' H' S hf hk q x g => by
    simp only [Option.map_eq_some_iff] at hk
    obtain ⟨env', hk, rfl⟩ := hk
    exact hb v d D F' H' σ env env' _ (S.ext x) g hk fun σ' S' _ => q σ' F' H' x.kp S'
/-- a new list or dict, own from here on -/
def sOwn (j : Nat) (f : Ef) : Sf := fun env => bindS (f env) fun d => some (.nx (env.set j (some (true, d))))
theorem tOwn_of {f : Ef} {j : Nat} (h : tS B W xa (sOwn j f) E σ H) : tAsg (tM B W xa .o f) (gName j) E σ H :=
  tM_S (k := fun d env => some (.nx (env.set j (some (true, d))))) h fun D F env d out v F' H' S hf hk q x ⟨a, ev, h1, h2, h3⟩ => by
    subst ev
    cases hk
    refine q _ F' H' x.kp ((S.ext x).setOwn (H0 := H) (fun i d' b hi e1 e2 e3 => ?_) h1 (S.pro.free h2) (fun z => S.bn a z h2) h3)
    subst e3
    obtain ⟨a', e4, _, _, _, h5⟩ := S.own i d' e1
    rw [e2] at e4
    cases e4
    exact h5.live h2
def sRet (o : Bool) (f : Ef) : Sf := fun env => bindS (f env) fun d => some (.rt o d)
theorem Stt.finExt (S : Stt B D F H σ env) (x : Ext F H F' H') : Fin D F' H' := (S.ext x).fin
theorem tRet_of {f : Ef} {o : Bool} (h : tS B W xa (sRet o f) E σ H) : tRet (tM B W xa (mdOf o) f) E σ H :=
  tM_S (k := fun d env => some (.rt o d)) h fun D F env d out v F' H' S hf hk q x g => by
    cases hk
    refine q v F' H' (S.finExt x) ?_
    cases o with
    | false => exact g
    | true =>
      obtain ⟨a, ev, h1, h2, h3⟩ := g
      exact ⟨a, ev, h1, fun z => S.bn a z h2, h3⟩
/-- an own variable is handed back -/
def sRetV (i : Nat) : Sf := fun env => match env[i]? with
  | some (some (true, d)) => some (.rt true d)
  | _ => none
theorem tRetV_of {i : Nat} (h : tS B W xa (sRetV i) E σ H) : tRet (tVar i) E σ H := by
  obtain ⟨D, F, env, out, S, e, q⟩ := h
  unfold sRetV at e
  split at e
  · rename_i d hd
    cases e
    obtain ⟨a, h1, h2, h3, h4, h5⟩ := S.own i d hd
    exact ⟨_, h1, q _ F H S.fin ⟨a, rfl, h2, h4, h5⟩⟩
  · cases e
def sRetN : Sf := fun _ => some (.rt false .none)
theorem tRetN_of (h : tS B W xa sRetN E σ H) : tRetN E σ H := by
  obtain ⟨D, F, env, out, S, e, q⟩ := h
  cases e
  exact q _ F H S.fin .non
def sDrop (f : Ef) : Sf := fun env => bindS (f env) fun _ => some (.nx env)
theorem tDrop_of {f : Ef} (h : tS B W xa (sDrop f) E σ H) : tDrop (tM B W xa .e f) E σ H :=
  tM_S (k := fun d env => some (.nx env)) h fun D F env d out v F' H' S hf hk q x g => by
    cases hk
    exact q σ F' H' x.kp (S.ext x)
def sIf (c : Ef) (g1 g2 : Sf) : Sf := fun env => bindS (c env) fun x => match x with
  | .bool true => g1 env
  | .bool false => g2 env
  | _ => none
theorem tIf_of {c : Ef} {g1 g2 : Sf} (h : tS B W xa (sIf c g1 g2) E σ H) : tIfS (tB (tM B W xa .e c)) (tS B W xa g1) (tS B W xa g2) E σ H :=
  tM_S (k := fun x env => match x with | .bool true => g1 env | .bool false => g2 env | _ => none) h fun D F env d out v F' H' S hf hk q x g => by
    cases d <;> first | (simp at hk; done) | skip
    rename_i b
    cases Dd.bl_ g
    refine ⟨b, rfl, ?_⟩
    cases b with
    | true => exact ⟨D, F', env, out, S.ext x, hk, q.kp x.kp⟩
    | false => exact ⟨D, F', env, out, S.ext x, hk, q.kp x.kp⟩
/-- an own thing is frozen -/
def sFrz (i : Nat) (g : Sf) : Sf := fun env => match env[i]? with
  | some (some (true, d)) => g (env.set i (some (false, d)))
  | some (some (false, _)) => g env
  | _ => none
theorem Stt.frz {i : Nat} {d : PyData} (S : Stt B D F H σ env) (e : env[i]? = some (some (true, d))) (nd : noDi d = true) : ∃ F', Stt B D F' H σ (env.set i (some (false, d))) ∧ Kp F H F' H := by
  obtain ⟨a, h1, h2, h3, h4, h5⟩ := S.own i d e
  have hl : i < env.length := (List.getElem?_eq_some_iff.mp e).1
  refine ⟨fun b => F b ∨ b = a, ⟨S.pro, S.bn, fun b f => .inl (S.sub b f), fun b f => f.elim (S.new b) fun e => .inr (by rw [e]; exact h4), fun b f => f.elim (S.dom b) fun e => by rw [e]; exact h5.live, by rw [List.length_set]; exact S.len, fun j d' e' => ?_, fun j d' e' => ?_, fun j j' d1 d2 b e1 e2 e3 e4 => ?_⟩, ⟨(Ex.refl H).keep, fun b f => .inl f, fun b f => f.elim (S.dom b) fun e => by rw [e]; exact h5.live⟩⟩
  · by_cases hj : i = j
    · subst hj
      rw [List.getElem?_set_self hl] at e'
      cases e'
      exact ⟨_, h1, h5.frz nd⟩
    · rw [List.getElem?_set_ne hj] at e'
      obtain ⟨v, g1, g2⟩ := S.slot j d' e'
      exact ⟨v, g1, g2.wide fun b f => .inl f⟩
  · by_cases hj : i = j
    · subst hj
      rw [List.getElem?_set_self hl] at e'
      cases e'
    · rw [List.getElem?_set_ne hj] at e'
      obtain ⟨a', g1, g2, g3, g4, g5⟩ := S.own j d' e'
      refine ⟨a', g1, fun f => f.elim g2 fun ea => ?_, g3, g4, g5.wide fun b f => .inl f⟩
      subst ea
      exact hj (S.sep i j d d' a' e e' h1 g1)
  · have ne : ∀ (k : Nat) (d3 : PyData), (env.set i (some (false, d)))[k]? = some (some (true, d3)) → i ≠ k := fun k d3 e5 hk => by
      subst hk
      rw [List.getElem?_set_self hl] at e5
      cases e5
    have n1 := ne j d1 e1
    have n2 := ne j' d2 e2
    rw [List.getElem?_set_ne n1] at e1
    rw [List.getElem?_set_ne n2] at e2
    exact S.sep j j' d1 d2 b e1 e2 e3 e4
/-- an own dict is locked -/
theorem Stt.lock {i : Nat} {d : PyData} {a : Addr} {xs : List KE1} {o : Obj} (S : Stt B D F H σ env) (e : env[i]? = some (some (true, d))) (hs : σ[i]? = some (some (.ref a))) (hu : H a = some (ndO B a xs)) (new : ∀ H', Keep F H H' → H' a = some (.frz o (ndO B a xs)) → Dd B F H' (.ref a) d) :
    Stt B D (fun b => F b ∨ b = a) (upd H a (.frz o (ndO B a xs))) σ (env.set i (some (false, d))) ∧ Kp F H (fun b => F b ∨ b = a) (upd H a (.frz o (ndO B a xs))) := by
  obtain ⟨a0, h1, h2, h3, h4, h5⟩ := S.own i d e
  rw [hs] at h1
  cases h1
  have hl : i < env.length := (List.getElem?_eq_some_iff.mp e).1
  have kp : Keep F H (upd H a (.frz o (ndO B a xs))) := Keep.upd h2 hu (fun _ _ z => nomatch z)
  have dom : Dom (fun b => F b ∨ b = a) (upd H a (.frz o (ndO B a xs))) := fun b f => by
    by_cases hb : b = a
    · subst hb
      rw [upd_same]
      simp
    · rw [upd_ne hb]
      exact S.dom b (f.resolve_right hb)
  have wd : ∀ b, F b → (F b ∨ b = a) := fun b f => .inl f
  refine ⟨⟨fun b o' hb => ?_, fun b hb => ?_, fun b f => .inl (S.sub b f), fun b f => f.elim (S.new b) fun e => .inr (by rw [e]; exact h4), dom, by rw [List.length_set]; exact S.len, fun j dj e' => ?_, fun j dj e' => ?_, fun j j' d1 d2 b e1 e2 e3 e4 => ?_⟩, kp, wd, dom⟩
  · rw [upd_ne (fun e => by subst e; rw [h3] at hb; cases hb)]
    exact S.pro b o' hb
  · rw [upd_ne (fun e => by subst e; exact h4 hb)]
    exact S.bn b hb
  · by_cases hj : i = j
    · subst hj
      rw [List.getElem?_set_self hl] at e'
      cases e'
      exact ⟨_, hs, (new _ kp upd_same).wide wd⟩
    · rw [List.getElem?_set_ne hj] at e'
      obtain ⟨v, g1, g2⟩ := S.slot j dj e'
      exact ⟨v, g1, g2.mono wd kp⟩
  · by_cases hj : i = j
    · subst hj
      rw [List.getElem?_set_self hl] at e'
      cases e'
    · rw [List.getElem?_set_ne hj] at e'
      obtain ⟨a', g1, g2, g3, g4, g5⟩ := S.own j dj e'
      have na : a' ≠ a := fun ea => by
        subst ea
        exact hj (S.sep i j d dj a' e e' hs g1)
      refine ⟨a', g1, fun f => f.elim g2 na, g3, g4, ?_⟩
      cases g5 with
      | lst g z r => exact .lst (by rw [upd_ne na]; exact g) z (r.mono wd kp)
      | dic g z r => exact .dic (by rw [upd_ne na]; exact g) z (r.mono wd kp)
  · have ne : ∀ (k : Nat) (d3 : PyData), (env.set i (some (false, d)))[k]? = some (some (true, d3)) → i ≠ k := fun k d3 e5 hk => by
      subst hk
      rw [List.getElem?_set_self hl] at e5
      cases e5
    have n1 := ne j d1 e1
    have n2 := ne j' d2 e2
    rw [List.getElem?_set_ne n1] at e1
    rw [List.getElem?_set_ne n2] at e2
    exact S.sep j j' d1 d2 b e1 e2 e3 e4
theorem frz_run {X : Cx} {rest : List Stmt} {i : Nat} {g : Sf} (h : PSs X rest (tS (bs X) W xa g)) : PSs X rest (tS (bs X) W xa (sFrz i g)) := by
  refine ⟨fun pins s σ H E I q => ?_⟩
  obtain ⟨D, F, env, out, S, e, q⟩ := q
  unfold sFrz at e
  split at e
  · rename_i d hd
    cases hn : noDi d with
    | true =>
      obtain ⟨F', S', k⟩ := S.frz hd hn
      exact h.run pins s σ H E I ⟨D, F', _, out, S', e, q.kp k⟩
    | false =>
      obtain ⟨a, h1, h2, h3, h4, h5⟩ := S.own i d hd
      cases h5 with
      | lst g z r => cases hn
      | dic g z r =>
        obtain ⟨od, I1⟩ := I.lock g trivial
        obtain ⟨S', k⟩ := S.lock (o := od) hd h1 g fun H' kp e' => .dic e' z (r.mono (fun _ f => f) kp)
        exact h.run pins s σ _ E I1 ⟨D, _, _, out, S', e, q.kp k⟩
  · exact h.run pins s σ H E I ⟨D, F, env, out, S, e, q⟩
  · cases e
theorem Stt.mut {i : Nat} {d d' : PyData} {a : Addr} {u o' : HO} (S : Stt B D F H σ env) (e : env[i]? = some (some (true, d))) (hs : σ[i]? = some (some (.ref a))) (hu : H a = some u) (hf : ∀ o w, u ≠ .frz o w) (new : Own B F (upd H a o') a d') :
    Stt B D F (upd H a o') σ (env.set i (some (true, d'))) ∧ Kp F H F (upd H a o') := by
  obtain ⟨a0, h1, h2, h3, h4, h5⟩ := S.own i d e
  rw [hs] at h1
  cases h1
  have hl : i < env.length := (List.getElem?_eq_some_iff.mp e).1
  have kp : Keep F H (upd H a o') := Keep.upd h2 hu hf
  have dom : Dom F (upd H a o') := fun b f => by
    rw [upd_ne (fun e => by subst e; exact h2 f)]
    exact S.dom b f
  refine ⟨⟨fun b o hb => ?_, fun b hb => ?_, S.sub, S.new, dom, by rw [List.length_set]; exact S.len, fun j dj e' => ?_, fun j dj e' => ?_, fun j j' d1 d2 b e1 e2 e3 e4 => ?_⟩, kp, fun _ f => f, dom⟩
  · rw [upd_ne (fun e => by subst e; rw [h3] at hb; cases hb)]
    exact S.pro b o hb
  · rw [upd_ne (fun e => by subst e; exact h4 hb)]
    exact S.bn b hb
  · by_cases hj : i = j
    · subst hj
      rw [List.getElem?_set_self hl] at e'
      cases e'
    · rw [List.getElem?_set_ne hj] at e'
      obtain ⟨v, g1, g2⟩ := S.slot j dj e'
      exact ⟨v, g1, g2.mono (fun _ f => f) kp⟩
  · by_cases hj : i = j
    · subst hj
      rw [List.getElem?_set_self hl] at e'
      cases e'
      exact ⟨a, hs, h2, h3, h4, new⟩
    · rw [List.getElem?_set_ne hj] at e'
      obtain ⟨a', g1, g2, g3, g4, g5⟩ := S.own j dj e'
      have na : a' ≠ a := fun ea => by
        subst ea
        exact hj (S.sep i j d dj a' e e' hs g1)
      refine ⟨a', g1, g2, g3, g4, ?_⟩
      cases g5 with
      | lst g z r => exact .lst (by rw [upd_ne na]; exact g) z (r.mono (fun _ f => f) kp)
      | dic g z r => exact .dic (by rw [upd_ne na]; exact g) z (r.mono (fun _ f => f) kp)
  · have tr : ∀ (k : Nat) (d3 : PyData), (env.set i (some (true, d')))[k]? = some (some (true, d3)) → ∃ d4, env[k]? = some (some (true, d4)) := fun k d3 e5 => by
      by_cases hk : i = k
      · subst hk
        exact ⟨d, e⟩
      · rw [List.getElem?_set_ne hk] at e5
        exact ⟨d3, e5⟩
    obtain ⟨d3, e5⟩ := tr j d1 e1
    obtain ⟨d4, e6⟩ := tr j' d2 e2
    exact S.sep j j' d3 d4 b e5 e6 e3 e4
/-- xs.append(e), xs own -/
def ownL (env : DS.Env) (i : Nat) : Option (List PyData) := match env[i]? with
  | some (some (true, .list ds)) => some ds
  | _ => none
theorem ownL_eq {env : DS.Env} {i : Nat} {ds : List PyData} (h : ownL env i = some ds) : env[i]? = some (some (true, .list ds)) := by
  unfold ownL at h
  split at h
  · rename_i ds' e
    cases h
    exact e
  · cases h
def sApp (i : Nat) (f : Ef) : Sf := fun env => match ownL env i with
  | none => none
  | some ds => bindS (f env) fun d => if ds.length < sizeLine then some (.nx (env.set i (some (true, .list (ds ++ [d]))))) else none
theorem Own.lst_ {F : Fz} {H : Hp} {a : Addr} {ds : List PyData} (h : Own B F H a (.list ds)) : ∃ xs, H a = some (.lst xs) ∧ xs.length ≤ sizeLine ∧ DdAll B F H xs ds := by
  cases h with
  | lst h z r => exact ⟨_, h, z, r⟩
theorem tApp_of {i : Nat} {f : Ef} (h : tS B W xa (sApp i f) E σ H) : tDrop (tBM B.K "list" rAppend (tVar i) (tCons (tM B W xa .e f) tNil)) E σ H := by
  obtain ⟨D, F, env, out, S, e, q⟩ := h
  unfold sApp at e
  cases hl : ownL env i with
  | none => rw [hl] at e; cases e
  | some ds =>
    rw [hl] at e
    have he := ownL_eq hl
    obtain ⟨a, h1, h2, h3, h4, h5⟩ := S.own i _ he
    obtain ⟨xs, g1, g2, g3⟩ := h5.lst_
    refine ⟨_, h1, .inl ⟨rfl, xs, .of g1⟩, ?_⟩
    show tM B W xa .e f σ H _
    rcases bindS_cases (show bindS (f env) _ = some out from e) with ⟨c, hc, rfl⟩ | ⟨d, hd, e⟩
    · exact ⟨D, F, env, .error c, S, hc, fun H' e' => q σ H' (S.pro.trans e')⟩
    · 
      simp only [Option.ite_none_right_eq_some, Option.some.injEq] at e
      obtain ⟨hz, rfl⟩ := e
      refine ⟨D, F, env, .ok d, S, hd, fun v F' H' x g => ?_⟩
      have gl := x.ex _ _ g1
      have r := g3.ext x
      refine ⟨a, xs, v, rfl, rfl, gl, by rw [g3.length]; exact hz, ?_⟩
      have S' := S.ext x
      have nF : ¬ F' a := fun f => (x.new a f).elim h2 fun z => by rw [g1] at z; cases z
      have kp : Keep F' H' (upd H' a (.lst (xs ++ [v]))) := Keep.upd nF gl (fun _ _ z => nomatch z)
      obtain ⟨S2, k2⟩ := S'.mut (o' := .lst (xs ++ [v])) he h1 gl (fun _ _ z => nomatch z) (.lst upd_same (by rw [List.length_append, List.length_singleton, g3.length]; omega) ((r.mono (fun _ f => f) kp).append (.cons (Dd.mono (fun _ f => f) kp g) .nil)))
      exact q σ F' _ (x.kp.trans k2) S2
/-- xs.extend(e), e a list -/
def sExt (i : Nat) (f : Ef) : Sf := fun env => match ownL env i with
  | none => none
  | some ds => bindS (f env) fun d => match d with
    | .list es => if ds.length + es.length ≤ sizeLine then some (.nx (env.set i (some (true, .list (ds ++ es))))) else none
    | _ => none
theorem tExt_of {i : Nat} {f : Ef} (h : tS B W xa (sExt i f) E σ H) : tDrop (tBM B.K "list" rExtend (tVar i) (tCons (tM B W xa .r f) tNil)) E σ H := by
  obtain ⟨D, F, env, out, S, e, q⟩ := h
  unfold sExt at e
  cases hl : ownL env i with
  | none => rw [hl] at e; cases e
  | some ds =>
    rw [hl] at e
    have he := ownL_eq hl
    obtain ⟨a, h1, h2, h3, h4, h5⟩ := S.own i _ he
    obtain ⟨xs, g1, g2, g3⟩ := h5.lst_
    refine ⟨_, h1, .inl ⟨rfl, xs, .of g1⟩, ?_⟩
    show tM B W xa .r f σ H _
    rcases bindS_cases (show bindS (f env) _ = some out from e) with ⟨c, hc, rfl⟩ | ⟨d, hd, e⟩
    · exact ⟨D, F, env, .error c, S, hc, fun H' e' => q σ H' (S.pro.trans e')⟩
    · 
      split at e
      · rename_i es
        simp only [Option.ite_none_right_eq_some, Option.some.injEq] at e
        obtain ⟨hz, rfl⟩ := e
        refine ⟨D, F, env, .ok (.list es), S, hd, fun v F' H' x g => ?_⟩
        obtain ⟨b, ys, rfl, hb, zb, rb⟩ := Top.lst g
        have gl := x.ex _ _ g1
        have r := g3.ext x
        have hz' : xs.length + ys.length ≤ sizeLine := by rw [g3.length, rb.length]; exact hz
        refine ⟨a, b, xs, ys, rfl, rfl, gl, hb, hz', ?_⟩
        have S' := S.ext x
        have nF : ¬ F' a := fun f => (x.new a f).elim h2 fun z => by rw [g1] at z; cases z
        have kp : Keep F' H' (upd H' a (.lst (xs ++ ys))) := Keep.upd nF gl (fun _ _ z => nomatch z)
        obtain ⟨S2, k2⟩ := S'.mut (o' := .lst (xs ++ ys)) he h1 gl (fun _ _ z => nomatch z) (.lst upd_same (by rw [List.length_append]; exact hz') ((r.mono (fun _ f => f) kp).append (rb.mono (fun _ f => f) kp)))
        exact q σ F' _ (x.kp.trans k2) S2
      · cases e
/-- xs.clear() -/
def sClr (i : Nat) : Sf := fun env => match ownL env i with
  | none => none
  | some _ => some (.nx (env.set i (some (true, .list []))))
theorem tClr_of {i : Nat} (h : tS B W xa (sClr i) E σ H) : tDrop (tBM0 B.K "list" rClear (tVar i)) E σ H := by
  obtain ⟨D, F, env, out, S, e, q⟩ := h
  unfold sClr at e
  cases hl : ownL env i with
  | none => rw [hl] at e; cases e
  | some ds =>
    rw [hl] at e
    cases e
    have he := ownL_eq hl
    obtain ⟨a, h1, h2, h3, h4, h5⟩ := S.own i _ he
    obtain ⟨xs, g1, g2, g3⟩ := h5.lst_
    refine ⟨_, h1, .inl ⟨rfl, xs, .of g1⟩, a, xs, rfl, rfl, g1, ?_⟩
    obtain ⟨S2, k2⟩ := S.mut (o' := .lst []) he h1 g1 (fun _ _ z => nomatch z) (.lst upd_same (Nat.zero_le _) .nil)
    exact q σ F _ k2 S2
/-- x = xs.pop() -/
def sPop (j i : Nat) : Sf := fun env => match ownL env i with
  | none => none
  | some ds => match ds.getLast? with
    | none => none
    | some d => if j = i then none else some (.nx ((env.set i (some (true, .list ds.dropLast))).set j (some (false, d))))
theorem tPop_of {j i : Nat} (h : tS B W xa (sPop j i) E σ H) : tAsg (tBM0 B.K "list" rPop (tVar i)) (gName j) E σ H := by
  obtain ⟨D, F, env, out, S, e, q⟩ := h
  unfold sPop at e
  cases hl : ownL env i with
  | none => rw [hl] at e; cases e
  | some ds =>
    rw [hl] at e
    have he := ownL_eq hl
    obtain ⟨a, h1, h2, h3, h4, h5⟩ := S.own i _ he
    obtain ⟨xs, g1, g2, g3⟩ := h5.lst_
    cases hd : ds.getLast? with
    | none => simp only [hd] at e; cases e
    | some d =>
      simp only [hd, Option.ite_none_left_eq_some, Option.some.injEq] at e
      obtain ⟨_, rfl⟩ := e
      rw [List.getLast?_eq_getElem?] at hd
      obtain ⟨v, hv, hvd⟩ := g3.get hd
      refine ⟨_, h1, .inl ⟨rfl, xs, .of g1⟩, a, xs, v, rfl, rfl, g1, by rw [g3.length]; exact hv, ?_⟩
      have kp : Keep F H (upd H a (.lst xs.dropLast)) := Keep.upd h2 g1 (fun _ _ z => nomatch z)
      obtain ⟨S2, k2⟩ := S.mut (o' := .lst xs.dropLast) he h1 g1 (fun _ _ z => nomatch z) (.lst upd_same (by rw [List.length_dropLast]; omega) (g3.dropLast.mono (fun _ f => f) kp))
      exact q _ F _ k2 (S2.set (hvd.mono (fun _ f => f) kp))
def forGo (bnd : Bn) (body : Sf) : List PyData → Sf
  | [], env => some (.nx env)
  | d :: ds, env => match bnd d env with
    | none => none
    | some env1 => match body env1 with
      | some (.nx env2) => forGo bnd body ds env2
      | some (.ct env2) => forGo bnd body ds env2
      | some (.bk env2) => some (.nx env2)
      | some (.rt o d) => some (.rt o d)
      | _ => none
def sFor (src : Sfn) (bnd : Bn) (body : Sf) : Sf := fun env => match src env with
  | some (.ok ds) => forGo bnd body ds env
  | _ => none
theorem forGo_xc {bnd : Bn} {body : Sf} : ∀ {ds : List PyData} {env : DS.Env} {c : Xc}, forGo bnd body ds env ≠ some (.xc c) := by
  intro ds
  induction ds with
  | nil => intro env c e; cases e
  | cons d ds ih =>
    intro env c e
    simp only [forGo] at e
    split at e
    · cases e
    · split at e
      · exact ih e
      · exact ih e
      · cases e
      · cases e
      · cases e
theorem forGo_lp {bnd : Bn} {body : Sf} : ∀ {ds : List PyData} {env : DS.Env} {out : Out}, forGo bnd body ds env = some out → (∃ e, out = .nx e) ∨ ∃ o d, out = .rt o d := by
  intro ds
  induction ds with
  | nil => intro env out e; cases e; exact .inl ⟨_, rfl⟩
  | cons d ds ih =>
    intro env out e
    simp only [forGo] at e
    split at e
    · cases e
    · split at e
      · exact ih e
      · exact ih e
      · cases e; exact .inl ⟨_, rfl⟩
      · cases e; exact .inr ⟨_, _, rfl⟩
      · cases e
theorem tFor_of {src : Sfn} {bnd : Bn} {body : Sf} {gt : TG} {js : List Nat} {W1 : WX} (h : tS B W xa (sFor src bnd body) E σ H) : tFor (tI B W1 xa .e gt bnd js src) gt (tS B W1 xa body) E σ H := by
  obtain ⟨D, F, env, out, S, e, q⟩ := h
  unfold sFor at e
  split at e
  · rename_i ds hs
    refine ⟨D, F, env, .ok ds, S, hs, fun J F1 H1 x1 wk => ?_⟩
    refine ⟨fun i m σ2 H2 => m = ds.length - i ∧ i ≤ ds.length ∧ ∃ F2 env2, Kp F1 H1 F2 H2 ∧ Stt B D F2 H2 σ2 env2 ∧ forGo bnd body (ds.drop i) env2 = some out, ⟨ds.length, by simp, Nat.zero_le _, F1, env, Kp.refl x1.dom, S.ext x1, e⟩, ?_⟩
    rintro i m σ2 H2 ⟨rfl, hi, F2, env2, k2, S2, hgo⟩
    have q2 := q.kp (x1.kp.trans k2)
    by_cases hlt : i < ds.length
    · refine .inr ⟨wk.go i F2 H2 k2 hlt, fun σ' H' => i + 1 ≤ ds.length ∧ ∃ F2 env2, Kp F1 H1 F2 H' ∧ Stt B D F2 H' σ' env2 ∧ forGo bnd body (ds.drop (i + 1)) env2 = some out, fun σ' H' ⟨h1, h2⟩ => ⟨ds.length - (i + 1), by omega, rfl, h1, h2⟩, fun x H' hy => ?_⟩
      have hd : ds[i]? = some ds[i] := List.getElem?_eq_getElem hlt
      rw [List.drop_eq_getElem_cons hlt] at hgo
      simp only [forGo] at hgo
      cases hb : bnd ds[i] env2 with
      | none => rw [hb] at hgo; cases hgo
      | some env' =>
        rw [hb] at hgo
        refine wk.turn i ds[i] F2 H2 x H' k2 k2.dom hd hy D σ2 env2 env' _ S2 hb fun σ' F3 H3 x3 S3 w3 => ?_
        cases hbo : body env' with
        | none => simp only [hbo] at hgo; cases hgo
        | some o =>
          refine ⟨D, F3, env', o, S3, hbo, ?_⟩
          cases o with
          | nx env3 =>
            simp only [hbo] at hgo
            exact fun σ4 F4 H4 k4 S4 => ⟨hlt, F4, env3, (k2.trans x3.kp).trans k4, S4, hgo⟩
          | ct env3 =>
            simp only [hbo] at hgo
            exact fun σ4 F4 H4 k4 S4 => ⟨hlt, F4, env3, (k2.trans x3.kp).trans k4, S4, hgo⟩
          | bk env3 =>
            simp only [hbo, Option.some.injEq] at hgo
            subst hgo
            exact fun σ4 F4 H4 k4 S4 => q2 σ4 F4 H4 (x3.kp.trans k4) S4
          | rt o d =>
            simp only [hbo, Option.some.injEq] at hgo
            subst hgo
            exact fun v F4 H4 f4 g4 => q2 v F4 H4 f4 g4
          | xc c => simp only [hbo] at hgo; cases hgo
    · have ei : i = ds.length := by omega
      subst ei
      rw [List.drop_length] at hgo
      cases hgo
      exact .inl ⟨wk.stop F2 H2 k2, q2 σ2 F2 H2 (Kp.refl k2.dom) S2⟩
  · cases e
def whileGo (c : Ef) (body : Sf) : Nat → Sf
  | 0, _ => none
  | n + 1, env => match c env with
    | some (.ok (.bool true)) => match body env with
      | some (.nx env2) => whileGo c body n env2
      | some (.ct env2) => whileGo c body n env2
      | some (.bk env2) => some (.nx env2)
      | some (.rt o d) => some (.rt o d)
      | _ => none
    | some (.ok (.bool false)) => some (.nx env)
    | _ => none
/-- a while: so many turns as one likes -/
def sWhile (c : Ef) (body : Sf) (n : Nat) : Sf := whileGo c body n
theorem whileGo_lp {c : Ef} {body : Sf} : ∀ {n : Nat} {env : DS.Env} {out : Out}, whileGo c body n env = some out → (∃ e, out = .nx e) ∨ ∃ o d, out = .rt o d := by
  intro n
  induction n with
  | zero => intro env out e; cases e
  | succ n ih =>
    intro env out e
    simp only [whileGo] at e
    split at e
    · split at e
      · exact ih e
      · exact ih e
      · cases e; exact .inl ⟨_, rfl⟩
      · cases e; exact .inr ⟨_, _, rfl⟩
      · cases e
    · cases e; exact .inl ⟨_, rfl⟩
    · cases e
theorem tWhile_of {c : Ef} {body : Sf} {n : Nat} {W1 : WX} (h : tS B W xa (sWhile c body n) E σ H) : tWhile (tB (tM B W1 xa .e c)) (tS B W1 xa body) E σ H := by
  obtain ⟨D, F, env, out, S, e, q⟩ := h
  refine ⟨fun m σ2 H2 => ∃ F2 env2, Kp F H F2 H2 ∧ Stt B D F2 H2 σ2 env2 ∧ whileGo c body m env2 = some out, ⟨n, F, env, Kp.refl S.dom, S, e⟩, ?_⟩
  rintro m σ2 H2 ⟨F2, env2, k2, S2, hgo⟩
  cases m with
  | zero => cases hgo
  | succ m =>
    simp only [whileGo] at hgo
    cases hc : c env2 with
    | none => rw [hc] at hgo; cases hgo
    | some r =>
      rw [hc] at hgo
      cases r with
      | error x => cases hgo
      | ok z =>
        cases z <;> first | (simp at hgo; done) | skip
        rename_i b
        refine ⟨D, F2, env2, .ok (.bool b), S2, hc, fun v F3 H3 x3 g3 => ?_⟩
        cases Dd.bl_ g3
        refine ⟨b, rfl, ?_⟩
        have S3 := S2.ext x3
        have q3 := q.kp (k2.trans x3.kp)
        cases b with
        | false =>
          simp only [Option.some.injEq] at hgo
          subst hgo
          exact q3 σ2 F3 H3 (Kp.refl x3.dom) S3
        | true =>
          refine ⟨fun σ' H' => ∃ F4 env4, Kp F H F4 H' ∧ Stt B D F4 H' σ' env4 ∧ whileGo c body m env4 = some out, fun σ' H' hN => ⟨m, Nat.lt_succ_self m, hN⟩, ?_⟩
          cases hbo : body env2 with
          | none => simp only [hbo] at hgo; cases hgo
          | some o =>
            refine ⟨D, F3, env2, o, S3, hbo, ?_⟩
            cases o with
            | nx env3 =>
              simp only [hbo] at hgo
              exact fun σ4 F4 H4 k4 S4 => ⟨F4, env3, (k2.trans x3.kp).trans k4, S4, hgo⟩
            | ct env3 =>
              simp only [hbo] at hgo
              exact fun σ4 F4 H4 k4 S4 => ⟨F4, env3, (k2.trans x3.kp).trans k4, S4, hgo⟩
            | bk env3 =>
              simp only [hbo, Option.some.injEq] at hgo
              subst hgo
              exact fun σ4 F4 H4 k4 S4 => q3 σ4 F4 H4 k4 S4
            | rt o d =>
              simp only [hbo, Option.some.injEq] at hgo
              subst hgo
              exact fun v F4 H4 f4 g4 => q3 v F4 H4 f4 g4
            | xc c => simp only [hbo] at hgo; cases hgo
end
section
variable {X : Cx} {W : WX} {xa : Xc → Addr} {st : Stmt} {rest : List Stmt} {e o c tg iter : Expr} {f fc : Ef} {g g1 g2 body : Sf} {pos pos' apos cpos : Pos} {x : Str} {i j : Nat} {bnd : Bn} {gt : TG} {js : List Nat}
theorem psd_nil : PSsD X W xa [] sNx := impSs pss_nil fun E σ H h => by
  obtain ⟨D, F, env, out, S, e, q⟩ := h
  cases e
  exact q σ F H (Kp.refl S.dom) S
theorem psd_cons (h1 : PSD X W xa st g1) (h2 : PSsD X W xa rest g2) : PSsD X W xa (st :: rest) (sSeq g1 g2) := impSs (pss_cons h1 h2) fun _ _ _ h => tSeq_of h
theorem psd_one (h1 : PSD X W xa st g) : PSsD X W xa [st] g := pss_one h1
theorem psd_frz (i : Nat) (h : PSsD X W xa rest g) : PSsD X W xa rest (sFrz i g) := frz_run h
theorem psd_pass : PSD X W xa (.Pass pos) sNx := impS ps_pass fun E σ H h => by
  obtain ⟨D, F, env, out, S, e, q⟩ := h
  cases e
  exact q σ F H (Kp.refl S.dom) S
theorem psd_brk : PSD X W xa (.Break pos) sBk := impS ps_break fun E σ H h => by
  obtain ⟨D, F, env, out, S, e, q⟩ := h
  cases e
  exact q σ F H (Kp.refl S.dom) S
theorem psd_cont : PSD X W xa (.Continue pos) sCt := impS ps_continue fun E σ H h => by
  obtain ⟨D, F, env, out, S, e, q⟩ := h
  cases e
  exact q σ F H (Kp.refl S.dom) S
theorem psd_never : PSD X W xa st sNever := impS ps_never fun E σ H h => by
  obtain ⟨D, F, env, out, S, e, q⟩ := h
  cases e
theorem psd_set (i : Nat) (hN : X.N.Nodup) (he : PD X W xa .e e f) (hi : X.N[i]? = some x := by rfl) (hx : Loc X.env.scope x := by first | exact .inl rfl | exact .inr rfl) (hs : swapsWith e (some (.Name x pos')) pos.line X.env = pure false := by rfl) (hf : X.fn x = true ∨ X.env.scope.names.lookup x = some .local := by first | exact .inl rfl | exact .inr rfl) :
    PSD X W xa (.Assign [.Name x pos'] e pos) (sAsg (bName i) f) := impS (ps_set hN hi hx he hs hf) fun _ _ _ h => tAsg_of (bnd_name i) h
theorem psd_own (i : Nat) (hN : X.N.Nodup) (he : PD X W xa .o e f) (hi : X.N[i]? = some x := by rfl) (hx : Loc X.env.scope x := by first | exact .inl rfl | exact .inr rfl) (hs : swapsWith e (some (.Name x pos')) pos.line X.env = pure false := by rfl) (hf : X.fn x = true ∨ X.env.scope.names.lookup x = some .local := by first | exact .inl rfl | exact .inr rfl) :
    PSD X W xa (.Assign [.Name x pos'] e pos) (sOwn i f) := impS (ps_set hN hi hx he hs hf) fun _ _ _ h => tOwn_of h
/-- a, b = e -/
theorem psd_unp {ts : List Expr} {k : Nat} {p2 : Pos} (js : List Nat) (he : PD X W xa .e e f) (hg : PG X (.Tuple ts k p2) (gTup X.K js.length (gNames js))) (hs : swapsWithSole [.Tuple ts k p2] e pos.line X.env = pure false := by rfl) (hw : swappedStores [.Tuple ts k p2] e X.env = pure none := by rfl) :
    PSD X W xa (.Assign [.Tuple ts k p2] e pos) (sAsg (bTup js) f) := impS (ps_asg he hg hs hw) fun _ _ _ h => tAsg_of (bnd_tup js) h
theorem psd_ret (he : PD X W xa .e e f) : PSD X W xa (.Return (some e) pos) (sRet false f) := impS (ps_ret he) fun _ _ _ h => tRet_of (o := false) h
theorem psd_retO (he : PD X W xa .o e f) : PSD X W xa (.Return (some e) pos) (sRet true f) := impS (ps_ret he) fun _ _ _ h => tRet_of (o := true) h
theorem psd_retV (i : Nat) (he : PE X e (tVar i)) : PSD X W xa (.Return (some e) pos) (sRetV i) := impS (ps_ret he) fun _ _ _ h => tRetV_of h
theorem psd_expr (he : PD X W xa .e e f) (hs : swapsWith e none pos.line X.env = pure false := by rfl) : PSD X W xa (.Expr e pos) (sDrop f) := impS (ps_expr he hs) fun _ _ _ h => tDrop_of h
theorem psd_if {a b : List Stmt} (hc : PTD X W xa c fc) (ha : PSsD X W xa a g1) (hb : PSsD X W xa b g2) : PSD X W xa (.If c a b pos) (sIf fc g1 g2) := impS (ps_if hc ha hb) fun _ _ _ h => tIf_of h
theorem psd_app (i : Nat) (ho : PE X o (tVar i)) (ha : PD X W xa .e e f) (hs : swapsWith (.Call (.Attribute o "append" apos) [e] [] cpos) none pos.line X.env = pure false := by rfl) (hbase : attributeBase o "append" X.env (eval o X.env) = eval o X.env := by rfl)
    (hfew : ((backTo cpos (starEach (e :: []) X.env)).all (fun x => !x.1) && (backToKw cpos (keywordEach [] X.env)).all (fun x => x.1.isSome) && decide ((e :: []).length + ([] : List Keyword).length + (if ([] : List Keyword).isEmpty then 0 else 1) < 30)) = true := by rfl)
    (hline : (apos.endLine == cpos.line) = true := by rfl) (hst : starEach (e :: []) X.env = (false, eval e X.env) :: starEach [] X.env := by rfl) (hplain : (backTo cpos (starEach [] X.env)).any (·.1) = false := by rfl) :
    PSD X W xa (.Expr (.Call (.Attribute o "append" apos) [e] [] cpos) pos) (sApp i f) :=
  impS (ps_expr (pe_bm PySem.F.plainAttrs_list PySem.F.slot_list_append PySem.F.type_list_append mt_append ho (pa_cons ha pa_nil hst) hbase hfew hline hst hplain) hs) fun _ _ _ h => tApp_of h
theorem psd_ext (i : Nat) (ho : PE X o (tVar i)) (ha : PD X W xa .r e f) (hs : swapsWith (.Call (.Attribute o "extend" apos) [e] [] cpos) none pos.line X.env = pure false := by rfl) (hbase : attributeBase o "extend" X.env (eval o X.env) = eval o X.env := by rfl)
    (hfew : ((backTo cpos (starEach (e :: []) X.env)).all (fun x => !x.1) && (backToKw cpos (keywordEach [] X.env)).all (fun x => x.1.isSome) && decide ((e :: []).length + ([] : List Keyword).length + (if ([] : List Keyword).isEmpty then 0 else 1) < 30)) = true := by rfl)
    (hline : (apos.endLine == cpos.line) = true := by rfl) (hst : starEach (e :: []) X.env = (false, eval e X.env) :: starEach [] X.env := by rfl) (hplain : (backTo cpos (starEach [] X.env)).any (·.1) = false := by rfl) :
    PSD X W xa (.Expr (.Call (.Attribute o "extend" apos) [e] [] cpos) pos) (sExt i f) :=
  impS (ps_expr (pe_bm PySem.F.plainAttrs_list PySem.F.slot_list_extend PySem.F.type_list_extend mt_extend ho (pa_cons ha pa_nil hst) hbase hfew hline hst hplain) hs) fun _ _ _ h => tExt_of h
theorem psd_clr (i : Nat) (ho : PE X o (tVar i)) (hs : swapsWith (.Call (.Attribute o "clear" apos) [] [] cpos) none pos.line X.env = pure false := by rfl) (hbase : attributeBase o "clear" X.env (eval o X.env) = eval o X.env := by rfl) (hline : (apos.endLine == cpos.line) = true := by rfl) :
    PSD X W xa (.Expr (.Call (.Attribute o "clear" apos) [] [] cpos) pos) (sClr i) :=
  impS (ps_expr (pe_bm0 PySem.F.plainAttrs_list PySem.F.slot_list_clear PySem.F.type_list_clear mt_clear ho hbase hline) hs) fun _ _ _ h => tClr_of h
theorem psd_pop (j i : Nat) (hN : X.N.Nodup) (ho : PE X o (tVar i)) (hi : X.N[j]? = some x := by rfl) (hx : Loc X.env.scope x := by first | exact .inl rfl | exact .inr rfl) (hs : swapsWith (.Call (.Attribute o "pop" apos) [] [] cpos) (some (.Name x pos')) pos.line X.env = pure false := by rfl) (hf : X.fn x = true ∨ X.env.scope.names.lookup x = some .local := by first | exact .inl rfl | exact .inr rfl)
    (hbase : attributeBase o "pop" X.env (eval o X.env) = eval o X.env := by rfl) (hline : (apos.endLine == cpos.line) = true := by rfl) :
    PSD X W xa (.Assign [.Name x pos'] (.Call (.Attribute o "pop" apos) [] [] cpos) pos) (sPop j i) :=
  impS (ps_set hN hi hx (pe_bm0 PySem.F.plainAttrs_list PySem.F.slot_list_pop PySem.F.type_list_pop mt_pop ho hbase hline) hs hf) fun _ _ _ h => tPop_of h
theorem PSnox {t : TS} (h : PS X.nox st t) : PS X st t := ⟨fun pins s σ H D I hw =>
  wpAny_mono (h.run pins s σ H D (I.wish _) hw) (fun _ _ q => q.unwish) fun _ _ z => False.elim z⟩
theorem psd_for {sts : List Stmt} {src : Sfn} (hc : X.calm = true) (hi : PID X.nox W0 xa .e tg iter gt bnd js src) (hg : PG X.nox tg gt) (hb : PSsD X.nox W0 xa sts body) (hs : ∀ x, foldedSetIterable iter X.env x = pure x := by intro _; rfl) :
    PSD X W xa (.For tg iter sts [] pos) (sFor src bnd body) := impS (PSnox (ps_for (X := X.nox) PassesOwn.never hc hi hg hb hs)) fun _ _ _ h => tFor_of h
theorem psd_while {sts : List Stmt} (n : Nat) (hc : PTD X.nox W0 xa c fc) (hb : PSsD X.nox W0 xa sts body) : PSD X W xa (.While c sts [] pos) (sWhile fc body n) := impS (PSnox (ps_while (X := X.nox) PassesOwn.never hc hb)) fun _ _ _ h => tWhile_of h
/-- y = [.. for ..], y a local of one line -/
theorem psd_setLc {elt tg iter : Expr} {ifs : List Expr} {scope : Scope} {own : List (Str × Nat)} {spos py : Pos} {y : Str} {src : Sfn} {tst el : Ef} (i : Nat) (hc : X.calm = true) (hN : X.N.Nodup) (hi : PID X W xa .r tg iter gt bnd js src) (ok : BlkOk X.N X.env.scope scope own)
    (hg : ∀ (s : Shared) (H : Hp) (C : Addr) (cl : List (Str × Addr)) (fp : List Addr), PG (X.blk s H scope (compEnvC scope cl C X.env) fp) tg gt)
    (ht : ∀ (s : Shared) (H : Hp) (C : Addr) (cl : List (Str × Addr)) (fp : List Addr), PTs (X.blk s H scope (compEnvC scope cl C X.env) fp) ifs (tB (tM (bs X) W0 xa .e tst)))
    (he : ∀ (s : Shared) (H : Hp) (C : Addr) (cl : List (Str × Addr)) (fp : List Addr), PE (X.blk s H scope (compEnvC scope cl C X.env) fp) elt (tM (bs X) W0 xa .e el)) (hj : ∀ j ∈ js, j ∈ own.map (·.2)) (hsw : swapsWith (.ListComp elt [⟨tg, iter, ifs, 0⟩] scope pos) (some (.Name y py)) spos.line X.env = pure true)
    (hy : X.N[i]? = some y := by rfl) (hyl : X.env.scope.names.lookup y = some .local := by rfl) (hs : ∀ x, foldedSetIterable iter X.env x = pure x := by intro _; rfl) :
    PSD X W xa (.Assign [.Name y py] (.ListComp elt [⟨tg, iter, ifs, 0⟩] scope pos) spos) (sOwn i (eLC src bnd tst el (own.map (·.2)))) :=
  impS (ps_setLc hc hN hy hyl hsw hi ok hg ht he hs) fun E σ H h => by
    have h2 : tM (bs X) W xa .o (eLC src bnd tst el (own.map (·.2))) σ H (fun x H1 => gName i x σ H1 E.nx) := tOwn_of h
    exact tLc_of hj h2
end
def startE (n : Nat) (ds : List PyData) : DS.Env := ds.map (fun d => some (false, d)) ++ List.replicate (n - ds.length) none
/-- what a def's Φ says of its body's end -/
def outIs (o : Out) (r : Rt) : Prop := match r with
  | .ok (b, d) => o = .rt b d ∨ ((∃ e, o = .nx e) ∧ b = false ∧ d = .none)
  | .error c => o = .xc c
theorem start_get {n : Nat} {ds : List PyData} {i : Nat} {x : Bool × PyData} (h : (startE n ds)[i]? = some (some x)) : ∃ d, ds[i]? = some d ∧ x = (false, d) := by
  unfold startE at h
  by_cases hi : i < ds.length
  · rw [List.getElem?_append_left (by rw [List.length_map]; exact hi), List.getElem?_map, List.getElem?_eq_getElem hi] at h
    simp only [Option.map_some, Option.some.injEq] at h
    exact ⟨_, List.getElem?_eq_getElem hi, h.symm⟩
  · rw [List.getElem?_append_right (by rw [List.length_map]; omega)] at h
    rw [List.getElem?_replicate] at h
    split at h <;> cases h
theorem start_slot {N : List Str} {vs : List V} {i : Nat} {v : V} (h : vs[i]? = some v) : (L2.start N vs)[i]? = some (some v) := by
  unfold L2.start
  have hi := (List.getElem?_eq_some_iff.mp h).1
  rw [List.getElem?_append_left (by rw [List.length_map]; exact hi), List.getElem?_map, h]
  rfl
section
variable {P : Program} {w : World} {K : PySem.W.Frag} {mg : Str → Option Value} {base : Heap}
/-- THE RULE of a def: its body, read; what the reading tells -/
theorem fn_sound {f : Addr} {fd : FuncData} {N ps : List Str} {k : Nat} {x qual : Str} {params : Arguments} {body : List Stmt} {scope : Scope} {dvs : List V} {kws : List (Str × V)} {xa : Xc → Addr} {Φ : Fn} {g : Sf}
    (Fd : FunD K x qual params body scope dvs kws f fd) (Sc : FnScope N ps scope) (hN : ∀ ds r, Φ ds = some r → ds.length = ps.length) (hps : ps.length ≤ N.length)
    (hb : ∀ (cdv : Value) (A : Around) (outer : List PySem.Env) (s : Shared) (H : Hp) (E : XK), Room k (A.deeper (envOfC qual scope s.heap.objs.size f cdv)) →
      PSsD (cxOf (L2N.CX P w) P w K mg base N qual scope f cdv A outer s H E) (fun c d _ H' => E c d H') xa body g)
    (hv : ∀ ds r, Φ ds = some r → ∃ o, g (startE N.length ds) = some o ∧ outIs o r) : FnOk P w K mg base (L2N.CX P w) (k + 1) f fd ps (spF ⟨P, w, K, none⟩ xa Φ) := by
  refine Fd.ok Sc (fun vs H Q E ⟨F, ds, r, _, h2, h3, _⟩ => by rw [h2.length]; exact hN ds r h3) fun cdv A outer s H vs Q E hr hsp => ?_
  rw [show (⟨P, w, K, none⟩ : Bs) = bs (cxOf (L2N.CX P w) P w K mg base N qual scope f cdv A outer s H E) from bs_none (X := cxOf (L2N.CX P w) P w K mg base N qual scope f cdv A outer s H E) hr.hd] at hsp
  obtain ⟨F, ds, r, hd, hds, hp, q⟩ := hsp
  refine ⟨_, hb cdv A outer s H E hr, ?_⟩
  obtain ⟨o, ho, hor⟩ := hv ds r hp
  have S : Stt (bs (cxOf (L2N.CX P w) P w K mg base N qual scope f cdv A outer s H E)) ⟨H, fun a => H a ≠ none, F⟩ F H (L2.start N vs) (startE N.length ds) := by
    refine ⟨Ex.refl H, fun _ h => h, fun _ h => h, fun _ h => .inl h, hd, ?_, fun i d e => ?_, fun i d e => ?_, fun i j d d' a e1 e2 e3 e4 => ?_⟩
    · unfold L2.start startE
      rw [List.length_append, List.length_append, List.length_map, List.length_map, List.length_replicate, List.length_replicate, hds.length]
    · obtain ⟨d', h1, h2⟩ := start_get e
      cases h2
      obtain ⟨v, h3, h4⟩ := hds.get h1
      exact ⟨v, start_slot h3, h4⟩
    · obtain ⟨d', h1, h2⟩ := start_get e
      cases h2
    · obtain ⟨d', h1, h2⟩ := start_get e1
      cases h2
  refine ⟨_, F, _, o, S, ho, ?_⟩
  have ext : ∀ {F' : Fz} {H' : Hp}, Fin ⟨H, fun a => H a ≠ none, F⟩ F' H' → Ext F H F' H' := fun {F' H'} f => ⟨f.pro, f.sub, fun a h => (f.new a h).elim .inl fun z => .inr (Classical.byContradiction fun n => z n), f.dom⟩
  cases r with
  | error c =>
    have e : o = .xc c := hor
    subst e
    exact fun σ' H' e' => q H' e'
  | ok bd =>
    obtain ⟨b, d⟩ := bd
    have hor' : o = .rt b d ∨ ((∃ e, o = .nx e) ∧ b = false ∧ d = .none) := hor
    rcases hor' with e | ⟨⟨e, he⟩, e1, e2⟩
    · subst e
      intro v F' H' f g
      refine q v F' H' (ext f) ?_
      cases b with
      | false => exact g
      | true =>
        obtain ⟨a, h1, h2, h3, h4⟩ := g
        exact ⟨a, h1, h2, Classical.byContradiction fun n => h3 n, h4⟩
    · subst he e1 e2
      intro σ' F' H' k S'
      exact q .non F' H' (ext S'.fin) .non
end
end DS
namespace DS
open PySem PySem.Spec PyProof.Rows L2
/-- the list at a beside the tuple at b, the items in new pairs -/
def Itm (K : PySem.W.Frag) (a b : Addr) : It :=
  ⟨fun i H => ∃ (xs ys : List V) (x y : V), SqL K H a xs ∧ SqT K H b ys ∧ xs[i]? = some x ∧ ys[i]? = some y,
    fun i H v H' => ∃ T x y, v = .ref T ∧ H T = none ∧ H' = upd H T (.tup [x, y]) ∧ (∀ xs, SqL K H a xs → xs[i]? = some x) ∧ ∀ ys, SqT K H b ys → ys[i]? = some y,
    fun i H => ∃ xs ys : List V, SqL K H a xs ∧ SqT K H b ys ∧ xs.length = i ∧ ys.length = i⟩
def fpM (z TI TO i1 i2 : Addr) : List Addr := [z, TI, TO, i1, i2]
theorem fpM_ {z TI TO i1 i2 c : Addr} (h : c ∈ fpM z TI TO i1 i2) : c = z ∨ c = TI ∨ c = TO ∨ c = i1 ∨ c = i2 := by simpa [fpM] using h
theorem turn_mixed {P : Program} {w : World} {K : PySem.W.Frag} {elts : List Expr} {kk : Nat} {tpos : Pos} {a b z TI TO i1 i2 : Addr} (D : ZipSep2 z TI TO i1 i2 [i1, a] [i2, b]) :
    Turn P w K (.Tuple elts kk tpos) (Itm K a b) (fpM z TI TO i1 i2) z (fun i h => IsZip h z TI TO .none ∧ IsTupOf2 h TI (.ref i1) (.ref i2) ∧ (∃ x y, IsTupOf2 h TO x y) ∧ h.IsListIter i1 a i ∧ h.IsTupleIter i2 b i) where
  mem := List.mem_cons_self ..
  obj := fun i h st c hc => by
    obtain ⟨hz, hTI, ⟨x, y, hTO⟩, ⟨o1, e1, _, d1⟩, ⟨o2, e2, _, d2⟩⟩ := st
    rcases fpM_ hc with q | q | q | q | q
    · rw [q]; exact ⟨_, hz, fun v q => nomatch q⟩
    · rw [q]; exact ⟨_, hTI, fun v q => nomatch q⟩
    · rw [q]; exact ⟨_, hTO, fun v q => nomatch q⟩
    · rw [q]; exact ⟨o1, e1, fun v q => by rw [d1] at q; cases q⟩
    · rw [q]; exact ⟨o2, e2, fun v q => by rw [d2] at q; cases q⟩
  keep := fun i h h' st k => by
    obtain ⟨hz, hTI, ⟨x, y, hTO⟩, h1, h2⟩ := st
    exact ⟨k z (by simp [fpM]) _ hz, k TI (by simp [fpM]) _ hTI, ⟨x, y, k TO (by simp [fpM]) _ hTO⟩, h1.at fun o q => k i1 (by simp [fpM]) o q, h2.at fun o q => k i2 (by simp [fpM]) o q⟩
  item := by
    intro X hP hw hK hc i pins s σ H E I hf st hg
    subst hP hw hK
    obtain ⟨hz, hTI, ⟨x0, y0, hTO⟩, h1, h2⟩ := st
    obtain ⟨xs, ys, x, y, hqx, hqy, hx, hy⟩ := hg
    obtain ⟨its, rv, p, _⟩ := I.list hqx
    obtain ⟨its2, rv2, p2, _⟩ := I.tuple hqy
    obtain ⟨u, hu, ru⟩ := rv.get hx
    obtain ⟨u2, hu2, ru2⟩ := rv2.get hy
    have hzl : z < s.heap.objs.size := Heap.lt_size hz
    have hh : X.A.in1.handled = none := I.ok.hd hc
    have ha : a ≠ i1 := fun e => by subst e; obtain ⟨o, ho, hcl, _⟩ := h1; obtain ⟨o', ho', hcl', _⟩ := p.isList; rw [ho] at ho'; cases ho'; rw [hcl] at hcl'; injection hcl' with e; exact absurd e (by decide)
    have hb : b ≠ i2 := fun e => by subst e; obtain ⟨o, ho, hcl, _⟩ := h2; obtain ⟨o', ho', hcl', _⟩ := p2; rw [ho] at ho'; cases ho'; rw [hcl] at hcl'; injection hcl' with e; exact absurd e (by decide)
    refine wpAny_pyNext_zipD2_item D (Draws.list hh i1 a ha its.toArray) (Draws.tuple hh i2 b hb its2.toArray) hz hTI hTO ⟨h1, p.isList⟩ ⟨h2, p2⟩ (by simpa using (List.getElem?_eq_some_iff.mp hu).1) (by simpa using (List.getElem?_eq_some_iff.mp hu2).1) fun x1 x2 h' tk q1 q2 z' TO' h1' h2' hT hsz hk => ?_
    have e1 : x1 = u := by
      have q1' : its[i]? = some x1 := by simpa using q1
      rw [hu] at q1'
      exact (Option.some.inj q1').symm
    have e2 : x2 = u2 := by
      have q2' : its2[i]? = some x2 := by simpa using q2
      rw [hu2] at q2'
      exact (Option.some.inj q2').symm
    subst e1 e2
    refine ⟨_, rfl, wpAny_letOwnedTupleGo_zip (s := { s with heap := h', toks := tk }) z' fun h'' z'' sb => ?_⟩
    have hT2 : h''.get? s.heap.objs.size = some { cls := .type "tuple", data := .seq #[x1, x2] } := (sb.2 _ (Nat.ne_of_gt hzl)).trans hT
    have new : ObjOk X.prog X.w (upd H s.heap.objs.size (.tup [x, y])) h'' s.heap.objs.size (.tup [x, y]) :=
      ⟨by show 2 ≤ sizeLine; decide, [x1, x2], .cons ru (.cons ru2 .nil), ⟨_, hT2, rfl, _, rfl⟩⟩
    have I1 : Inv X pins σ (upd H s.heap.objs.size (.tup [x, y])) { s with heap := h'', toks := tk } :=
      I.turnedNew (t' := tk) (ch := fpM z TI TO i1 i2) (fun c o hb q => (sb.2 c (fun q' => hb (by simp [fpM, q']))).trans (hk c o (fun q' => hb (by simp [fpM, q'])) (fun q' => hb (by simp [fpM, q'])) (fun q' => hb (by simp [fpM, q'])) (fun q' => hb (by simp [fpM, q'])) q)) hf (Nat.le_refl _) new
    refine ⟨.ref s.heap.objs.size, _, I1, rfl, ⟨_, x, y, rfl, I.hok.fresh (Nat.le_refl _), rfl, fun l hl => by rw [I.list_inj hl hqx]; exact hx, fun l hl => by rw [I.tuple_inj hl hqy]; exact hy⟩, ⟨z'', ?_, ⟨x1, x2, ?_⟩, ?_, ?_⟩, fun c hcm => ?_⟩
    · exact (sb.2 _ D.TIz).trans (hk _ _ D.TIz D.TITO D.TIi1 D.TIi2 hTI)
    · exact (sb.2 _ D.TOz).trans TO'
    · exact h1'.1.at fun o q => (sb.2 _ D.zi1.symm).trans q
    · exact h2'.1.at fun o q => (sb.2 _ D.zi2.symm).trans q
    · have hlt : c < s.heap.objs.size := by
        rcases fpM_ hcm with q | q | q | q | q
        · rw [q]; exact hzl
        · rw [q]; exact Heap.lt_size hTI
        · rw [q]; exact Heap.lt_size hTO
        · rw [q]; obtain ⟨_, e1, _⟩ := h1; exact Heap.lt_size e1
        · rw [q]; obtain ⟨_, e2, _⟩ := h2; exact Heap.lt_size e2
      rw [upd_ne (Nat.ne_of_lt hlt)]
      exact (hf c hcm).1
  done := by
    intro X hP hw hK hc i pins s σ H E I hf st hg
    subst hP hw hK
    obtain ⟨hz, hTI, ⟨x0, y0, hTO⟩, h1, h2⟩ := st
    obtain ⟨xs, ys, hqx, hqy, hend, hend2⟩ := hg
    obtain ⟨its, rv, p, _⟩ := I.list hqx
    obtain ⟨its2, rv2, p2, _⟩ := I.tuple hqy
    have hh : X.A.in1.handled = none := I.ok.hd hc
    have ha : a ≠ i1 := fun e => by subst e; obtain ⟨o, ho, hcl, _⟩ := h1; obtain ⟨o', ho', hcl', _⟩ := p.isList; rw [ho] at ho'; cases ho'; rw [hcl] at hcl'; injection hcl' with e; exact absurd e (by decide)
    have hb : b ≠ i2 := fun e => by subst e; obtain ⟨o, ho, hcl, _⟩ := h2; obtain ⟨o', ho', hcl', _⟩ := p2; rw [ho] at ho'; cases ho'; rw [hcl] at hcl'; injection hcl' with e; exact absurd e (by decide)
    have l1 := rv.length
    have l2 := rv2.length
    refine wpAny_pyNext_zipD2_end D (Draws.list hh i1 a ha its.toArray) (Draws.tuple hh i2 b hb its2.toArray) hz hTI hTO ⟨h1, p.isList⟩ ⟨h2, p2⟩ (by simp; omega) (by simp; omega) (.inl (by simp; omega)) fun h' tk hk => ⟨rfl, I.turnedL (t' := tk) (ch := fpM z TI TO i1 i2) (fun c o hb q =>
      hk c o (fun q' => hb (by simp [fpM, q'])) (fun q' => hb (by simp [fpM, q'])) (fun q' => hb (by simp [fpM, q'])) (fun q' => hb (by simp [fpM, q'])) q) hf⟩
  self := fun A i s Q E st h => wpAny_pyIter_zip st.1 h
def iMix (K : PySem.W.Frag) (ta : TA) : TI := fun σ H R => ta σ H fun vs H1 => ∃ a b xs ys, vs = [.ref a, .ref b] ∧ SqL K H1 a xs ∧ SqT K H1 b ys ∧ R (Itm K a b) H1
theorem pi_mixed {X : Cx} {e e2 : Expr} {ta : TA} {p pos tpos : Pos} {elts : List Expr} {kk : Nat} (hg : Gl X "zip") (hm : X.mg "zip" = none) (ha : PA X [e, e2] ta)
    (hs : starEach [e, e2] X.env = (false, eval e X.env) :: starEach [e2] X.env := by rfl) (hpl : (backTo pos (starEach [e2] X.env)).any (·.1) = false := by rfl) :
    PI X (.Tuple elts kk tpos) (.Call (.Name "zip" p) [e, e2] [] pos) (iMix X.K ta) := by
  refine ⟨fun pins s σ H R I h => ?_⟩
  refine Call_ (ld_blt I hg hm PyProof.Rows.boot_zip (PyProof.Rows.callWith_type1 (thn (ha.run pos pins s σ H _ I h) fun us s1 ⟨vs, H1, I1, r1, q1⟩ => ?_) hs hpl))
  obtain ⟨a, b, xs, ys, ex, hqx, hqy, q⟩ := q1
  subst ex
  cases r1 with
  | cons r rr =>
    cases rr with
    | cons r' rr =>
      cases rr
      cases r
      cases r'
      obtain ⟨its, rv, p1, _⟩ := I1.list hqx
      obtain ⟨its2, rv2, p2, _⟩ := I1.tuple hqy
      obtain ⟨o2, ho2, hrest⟩ := id p2
      have fresh5 : ∀ c, c ∈ fpM (s1.heap.objs.size + 4) (s1.heap.objs.size + 2) (s1.heap.objs.size + 3) s1.heap.objs.size (s1.heap.objs.size + 1) → FpOk X pins H1 c := fun c hcm => by
        have hle : s1.heap.objs.size ≤ c := by
          rcases fpM_ hcm with z | z | z | z | z
          · rw [z]; exact Nat.le_add_right _ _
          · rw [z]; exact Nat.le_add_right _ _
          · rw [z]; exact Nat.le_add_right _ _
          · rw [z]; exact Nat.le_refl _
          · rw [z]; exact Nat.le_add_right _ _
        exact I1.fpOk hle (I1.hok.fresh hle)
      refine zip_begins2 (begins_list a its.toArray) (begins_tuple b its2.toArray) p1.isList p2 fun h' hz hTI hTO h1 h2 hsz hk => wpAny_pyIter_zip hz ?_
      have I2 : Inv X pins σ H1 { s1 with heap := h' } := I1.kept (t' := s1.toks) hk
      exact ⟨s1.heap.objs.size + 4, fpM (s1.heap.objs.size + 4) (s1.heap.objs.size + 2) (s1.heap.objs.size + 3) s1.heap.objs.size (s1.heap.objs.size + 1), _, _, H1, rfl, I2, turn_mixed (zip_sep2 (fp1 := [a]) (fp2 := [b]) (by intro x hx; cases List.mem_singleton.mp hx; exact p1.lt) (by intro x hx; cases List.mem_singleton.mp hx; exact Heap.lt_size ho2)), ⟨hz, hTI, ⟨_, _, hTO⟩, ⟨_, h1, rfl, rfl⟩, ⟨_, h2, rfl, rfl⟩⟩, fresh5, q⟩
def zipD : List PyData → List PyData → List PyData
  | x :: xs, y :: ys => .tuple [x, y] :: zipD xs ys
  | _, _ => []
theorem zipD_len : ∀ {xs ys : List PyData}, xs.length = ys.length → (zipD xs ys).length = xs.length
  | [], [], _ => rfl
  | x :: xs, y :: ys, h => by rw [zipD, List.length_cons, List.length_cons, zipD_len (by simpa using h)]
  | [], _ :: _, h => by cases h
  | _ :: _, [], h => by cases h
theorem zipD_get : ∀ {xs ys : List PyData} {i : Nat} {d : PyData}, (zipD xs ys)[i]? = some d → ∃ x y, d = .tuple [x, y] ∧ xs[i]? = some x ∧ ys[i]? = some y
  | x :: xs, y :: ys, 0, d, h => by cases h; exact ⟨x, y, rfl, rfl, rfl⟩
  | x :: xs, y :: ys, i + 1, d, h => by simpa using zipD_get (xs := xs) (ys := ys) (i := i) (by simpa [zipD] using h)
  | [], ys, i, d, h => by simp [zipD] at h
  | x :: xs, [], i, d, h => by simp [zipD] at h
def sZip (f g : Ef) : Sfn := fun env => match f env with
  | some (.ok (.list xs)) => match g env with
    | some (.ok (.tuple ys)) => if xs.length = ys.length then some (.ok (zipD xs ys)) else none
    | some (.error c) => some (.error c)
    | _ => none
  | some (.error c) => some (.error c)
  | _ => none
section
variable {X : Cx} {W : WX} {xa : Xc → Addr} {e a b tg : Expr} {f g : Ef} {p pos tpos : Pos} {kk : Nat} {elts : List Expr}
theorem wlk_mixed {B : Bs} {a b : Addr} {xs ys : List V} {ds es : List PyData} {R : Fz → Hp → Prop} (j k : Nat) (hl : ds.length = es.length) (hz : ds.length ≤ sizeLine)
    (h : ∀ F H, R F H → H a = some (.lst xs) ∧ DdAll B F H xs ds ∧ TupF H b ys ∧ DdAll B F H ys es) : Wlk B R (Itm B.K a b) (gTup B.K 2 (gNames [j, k])) (bTup [j, k]) [j, k] (zipD ds es) := by
  refine ⟨by rw [zipD_len hl]; exact hz, fun i F H r hi => ?_, fun F H r => ?_, fun i d F H x H' r hd hi hy D σ env env' Q S e q => ?_⟩
  · obtain ⟨h1, h2, h3, h4⟩ := h F H r
    rw [zipD_len hl] at hi
    obtain ⟨v, hv, _⟩ := h2.get (List.getElem?_eq_getElem hi)
    obtain ⟨u, hu, _⟩ := h4.get (List.getElem?_eq_getElem (hl ▸ hi))
    exact ⟨xs, ys, v, u, .of h1, h3.sq, hv, hu⟩
  · obtain ⟨h1, h2, h3, h4⟩ := h F H r
    exact ⟨xs, ys, .of h1, h3.sq, by rw [zipD_len hl, h2.length], by rw [zipD_len hl, h4.length, hl]⟩
  · obtain ⟨T, x1, y1, rfl, hT, rfl, f1, f2⟩ := hy
    obtain ⟨h1, h2, h3, h4⟩ := h F H r
    obtain ⟨dx, dy, rfl, hx, hy⟩ := zipD_get hi
    obtain ⟨v, hv, rv⟩ := h2.get hx
    obtain ⟨u, hu, ru⟩ := h4.get hy
    have e1 := f1 xs (.of h1)
    rw [hv] at e1
    cases e1
    have e2 := f2 ys h3.sq
    rw [hu] at e2
    cases e2
    have x : Ext F H F (upd H T (.tup [x1, y1])) := Ext.of hd (Ex.new hT)
    refine ⟨T, [x1, y1], rfl, .of upd_same, rfl, ?_⟩
    exact names_of [j, k] [dx, dy] [x1, y1] σ env env' Q (S.ext x) (.cons (rv.ext x) (.cons (ru.ext x) .nil)) e fun σ' S' w => q σ' F _ x S' w
theorem pid_zip (j k : Nat) (hg : Gl X "zip") (hm : X.mg "zip" = none) (ha : PD X W xa .r a f) (hb : PD X W xa .r b g)
    (hs : starEach [a, b] X.env = (false, eval a X.env) :: starEach [b] X.env := by rfl) (hs2 : starEach [b] X.env = (false, eval b X.env) :: starEach [] X.env := by rfl) (hpl : (backTo pos (starEach [b] X.env)).any (·.1) = false := by rfl) :
    PID X W xa .r (.Tuple elts kk tpos) (.Call (.Name "zip" p) [a, b] [] pos) (gTup X.K 2 (gNames [j, k])) (bTup [j, k]) [j, k] (sZip f g) := impI (pi_mixed hg hm (pa_cons ha (pa_cons hb pa_nil hs2) hs) hs hpl) fun σ H R h => by
  obtain ⟨D, F, env, r0, S, e, q⟩ := h
  unfold sZip at e
  split at e
  · rename_i ds hf
    refine ⟨D, F, env, .ok (.list ds), S, hf, fun v F1 H1 x1 g1 => ?_⟩
    split at e
    · rename_i es hg
      simp only [Option.ite_none_right_eq_some, Option.some.injEq] at e
      obtain ⟨hl, rfl⟩ := e
      refine ⟨D, F1, env, .ok (.tuple es), S.ext x1, hg, fun u F2 H2 x2 g2 => ?_⟩
      obtain ⟨a, xs, rfl, h1, hz, h2⟩ := Top.lst g1
      obtain ⟨b, ys, rfl, h3, h4⟩ := Top.tup g2
      exact ⟨a, b, xs, ys, rfl, .of (x2.ex _ _ h1), h3.sq, q _ F2 H2 (x1.trans x2) (wlk_mixed j k hl (by rw [← h2.length]; exact hz) fun F H r => ⟨Ext.ex r _ _ (x2.ex _ _ h1), (h2.ext x2).ext r, (Ext.kp r).keep.t _ _ h3, h4.ext r⟩)⟩
    · rename_i c hg
      cases e
      exact ⟨D, F1, env, .error c, S.ext x1, hg, fun H' e' => q H' (x1.ex.trans e')⟩
    · cases e
  · rename_i c hf
    cases e
    exact ⟨D, F, env, .error c, S, hf, q⟩
  · cases e
end
end DS
namespace DS
open PySem PySem.Spec PyProof.Rows L2
theorem takes0 {X : Cx} : L2N.Takes X (fun _ _ _ _ => False) := fun _ _ x => by
  obtain ⟨_, _, _, _, _, _, _, _, _, _, _, _, _, _, _, _, w⟩ := x
  exact w.elim
theorem takes_of {X : Cx} {E : XK} (hs : X.stack = X.env :: X.outer) (hf : X.env.frame = some X.env.locals) (hex : X.ex = []) {E₁ : Value → Shared → Prop}
    (hx : X.xe = fun e s' => wpAny (model X.prog X.w) X.A (leaving X.env e) (fun _ s'' => L2N.CX X.prog X.w X.outer X.H_0 X.s_0 E e s'') E₁ s') : L2N.Takes X (fun cls d _ H => E cls d H) := L2N.takes_of hs hf hex hx
theorem hu_of {k : Nat} {A : Around} (r : Room k A) : A.units + 65 < cLine := by have := r.un; omega
/-- what a body's reading g tells of a call, n slots, k parameters -/
def runFn (n k : Nat) (g : Sf) : Fn := fun ds => if ds.length = k then (match g (startE n ds) with
  | some (.rt b d) => some (.ok (b, d))
  | some (.nx _) => some (.ok (false, .none))
  | some (.xc c) => some (.error c)
  | _ => none) else none
section
variable {P : Program} {w : World} {K : PySem.W.Frag} {mg : Str → Option Value} {base : Heap}
theorem mkDok {f : Addr} {fd : FuncData} {N ps : List Str} {k : Nat} {x : Str} {params : Arguments} {body : List Stmt} {scope : Scope} {xa : Xc → Addr} {g : Sf}
    (Fd : FunD K x x params body scope [] [] f fd) (Sc : FnScope N ps scope) (gx : mg x = some (.ref f))
    (hbn : ∀ (kV doc pm : Value) (an : Option Addr) (cdv ct : Value) (us : List Value), us.length = ps.length → bindArgs (PySem.W.fnOf x x params body scope .none kV doc pm an cdv ct) ⟨us, []⟩ = pure (ps.zip us)) (hps : ps.length ≤ N.length) (hd : (x == ("__debug__" : Str)) = false)
    (hb : ∀ (cdv : Value) (A : Around) (outer : List PySem.Env) (s : Shared) (H : Hp) (E : XK), Room k (A.deeper (envOfC x scope s.heap.objs.size f cdv)) →
      PSsD (cxOf (L2N.CX P w) P w K mg base N x scope f cdv A outer s H E) (fun c d _ H' => E c d H') xa body g) : Dok P w K mg base xa (k + 1) x (runFn N.length ps.length g) := by
  refine ⟨⟨f, fd, ps, fn_sound (Φ := runFn N.length ps.length g) Fd Sc (fun ds r e => ?_) hps hb (fun ds r e => ?_), gx, Fd.kp, Fd.bindsN hbn⟩, hd⟩
  · simp only [runFn, Option.ite_none_right_eq_some] at e
    exact e.1
  · simp only [runFn, Option.ite_none_right_eq_some] at e
    obtain ⟨_, e⟩ := e
    cases hg : g (startE N.length ds) with
    | none => rw [hg] at e; cases e
    | some o =>
      rw [hg] at e
      refine ⟨o, rfl, ?_⟩
      cases o with
      | nx e' => cases e; exact .inr ⟨⟨_, rfl⟩, rfl, rfl⟩
      | rt b d => cases e; exact .inl rfl
      | bk e' => cases e
      | ct e' => cases e
      | xc c => cases e; rfl
/-- the law's promise: of each script, true -/
def spL (K : PySem.W.Frag) : Sp := fun vs H Q _ => ∃ (a : Addr) (ns : List Int), vs = [.ref a] ∧ ScrAt K H a (ns.map V.int) ∧ ∀ H', Q (.bl true) H'
theorem law_fn {f : Addr} {fd : FuncData} {N : List Str} {k : Nat} {x p : Str} {params : Arguments} {body : List Stmt} {scope : Scope} {xa : Xc → Addr} {g : Sf}
    (Fd : FunD K x x params body scope [] [] f fd) (Sc : FnScope N [p] scope) (hN : 1 ≤ N.length)
    (hb : ∀ (cdv : Value) (A : Around) (outer : List PySem.Env) (s : Shared) (H : Hp) (E : XK), Room k (A.deeper (envOfC x scope s.heap.objs.size f cdv)) →
      PSsD (cxOf CX0 P w K mg base N x scope f cdv A outer s H E).nox W0 xa body g)
    (hg : ∀ ns : List Int, g (startE N.length [scrD ns]) = some (.rt false (.bool true))) : FnOk P w K mg base CX0 (k + 1) f fd [p] (spL K) := by
  refine Fd.ok Sc (fun vs H Q E ⟨a, ns, e, _⟩ => by rw [e]; rfl) fun cdv A outer s H vs Q E hr hsp => ?_
  obtain ⟨a, ns, rfl, hs, q⟩ := hsp
  refine ⟨_, PSs.nox (hb cdv A outer s H E hr), ?_⟩
  have S : Stt (bs (cxOf CX0 P w K mg base N x scope f cdv A outer s H E)) ⟨H, fun a => H a ≠ none, fun _ => False⟩ (fun _ => False) H (L2.start N [.ref a]) (startE N.length [scrD ns]) := by
    refine ⟨Ex.refl H, fun _ h => h, fun _ h => h, fun _ h => .inl h, fun _ h => h.elim, ?_, fun i d e => ?_, fun i d e => ?_, fun i j d d' a e1 e2 e3 e4 => ?_⟩
    · unfold L2.start startE
      simp
    · obtain ⟨d', h1, h2⟩ := start_get e
      cases h2
      cases i with
      | zero =>
        cases h1
        exact ⟨_, start_slot (by rfl), .scr hs⟩
      | succ i => cases h1
    · obtain ⟨d', h1, h2⟩ := start_get e
      cases h2
    · obtain ⟨d', h1, h2⟩ := start_get e1
      cases h2
  refine ⟨_, _, _, .rt false (.bool true), S, hg ns, ?_⟩
  intro v F' H' f g
  cases (show Dd _ F' H' v (.bool true) from g)
  exact q H'
theorem scr_of {H : Hp} {a : Addr} {ns : List Int} (o : Only H) (h : SqL K H a (ns.map V.int)) : ScrAt K H a (ns.map V.int) := by
  rcases h with h | h
  · rcases h with h | ⟨o', h⟩
    · rcases o a with e | ⟨o', xs, e⟩
      · rw [h] at e; cases e
      · rw [h] at e; cases e
    · exact .inl ⟨o', h⟩
  · exact .inr h
end
section
variable {X : Cx} {W : WX} {xa : Xc → Addr} {e : Expr} {x : Str} {p pos pos' : Pos}
/-- a module's int -/
theorem pd_gint {i : Int} (hg : Gl X x) (hm : ∃ t, X.mg x = some (.int i t)) (hd : (x == ("__debug__" : Str)) = false := by decide) : PD X W xa .e (.Name x pos) (eC (.int i)) :=
  let ⟨t, h⟩ := hm
  pd_c (pe_glob (v := .int i) hg h ⟨t, rfl⟩ hd) fun _ _ => .int i
/-- raise C('..') -/
def sRaise (c : Xc) : Sf := fun _ => some (.xc c)
theorem psd_raise0 (c : Xc) (hc : X.calm = true) (tk : L2N.Takes X W) (he : L2N.PMk X e fun _ H Q => Q (.ref (xa c)) none H) : PSD X W xa (.Raise (some e) none pos) (sRaise c) := impS (L2N.ps_raise hc tk he) fun E σ H h => by
  obtain ⟨D, F, env, out, S, e, q⟩ := h
  cases e
  exact q σ H S.pro
/-- the class of an error of the program's own -/
structure XcOk (K : PySem.W.Frag) (mg : Str → Option Value) (xa : Xc → Addr) (x : Str) (c : Xc) : Prop where
  mg : mg x = some (.ref (xa c))
  ex : PySem.W.excIn K (xa c) He.veBase "ValueError.__new__" = true
  kp : PySem.W.keepIn K (.ref (xa c)) = true
  sb : PySem.W.subIn K (.ref (xa c)) (.type "BaseException") = some true
  ty : PySem.W.typeIn K (.ref (xa c)) = some (.type "type")
theorem psd_raise {m : Str} {j : Nat} {p2 : Pos} (c : Xc) (O : XcOk X.K X.mg xa x c) (tk : L2N.Takes X W) (hg : Gl X x) (hc : X.calm = true := by rfl) (hdb : (x == ("__debug__" : Str)) = false := by decide) :
    PSD X W xa (.Raise (some (.Call (.Name x p) [.Constant (.str m) j p2] [] pos)) none pos') (sRaise c) :=
  psd_raise0 c hc tk (L2N.pmk_own PySem.F.excBase_ValueError O.ex O.mg O.kp (raises_own O.sb O.ty) hg hdb)
end
end DS
namespace DS
open PySem PySem.Spec PyProof.Rows L2
section
variable {X : Cx} {W : WX} {xa : Xc → Addr} {e a b o k : Expr} {f g fv fk : Ef} {p pos pos' pos2 apos cpos : Pos} {bnd : Bn} {gt : TG} {js : List Nat}
theorem nd_empty {B : Bs} {H : Hp} (h : Heap) (hb : sysModules < h.objs.size) : ObjOk B.P B.w H (h.push { cls := .type "dict", data := .dict #[] }) h.objs.size (ndO B h.objs.size []) := by
  have gq : (h.push { cls := .type "dict", data := .dict #[] }).get? h.objs.size = some { cls := .type "dict", data := .dict #[] } := Heap.get?_push_size _ rfl
  exact ⟨⟨Nat.zero_le _, beq_eq_false_iff_ne.mpr (Ne.symm (Nat.ne_of_lt hb)), [], .nil, _, #[], 0, gq, ⟨rfl, rfl, rfl⟩, rfl, rfl, List.nodup_nil⟩, ⟨_, gq⟩,
    fun g1 g2 ⟨z, y, ys, r, o, es, ep, h1, h2, h3, h4, h5⟩ k => ⟨z, y, ys, r, o, es, ep, k o h1, h2, h3, h4, h5⟩⟩
theorem pd_dnew : PD X W xa .o (.Dict [] [] pos) (eC (.dict [])) := ⟨fun pins s σ H Q I h => by
  obtain ⟨D, F, env, r, S, e, q⟩ := h
  cases e
  refine wpAny_Dict_empty ⟨.ref s.heap.objs.size, _, I.laid (a := s.heap.objs.size) (o := ndO (bs X) s.heap.objs.size []) (t' := s.toks) (fun _ _ q => Heap.get?_push_of_some _ q) (Nat.le_refl _) (nd_empty s.heap I.big), rfl, ?_⟩
  have hn := I.hok.fresh (Nat.le_refl s.heap.objs.size)
  exact q _ F _ (Ext.of S.dom (Ex.new hn)) ⟨_, rfl, fun f => S.dom _ f hn, hn, .dic upd_same (Nat.zero_le _) .nil⟩⟩
def putD (kvs : List (PyData × PyData)) (kk : NestedKey) (k v : PyData) : List (PyData × PyData) :=
  if (kAt kvs kk).isSome = true then kvs.map fun p => if nk p.1 = some kk then (p.1, v) else p else kvs ++ [(k, v)]
def putX (xs : List KE1) (kk : NestedKey) (b : Addr) (v : V) : List KE1 :=
  if (xs.find? fun x => decide (x.1 = kk)).isSome = true then xs.map fun x => if x.1 = kk then (x.1, x.2.1, v) else x else xs ++ [(kk, b, v)]
theorem putX_kn {xs : List KE1} {ys : List (NestedKey × Addr × Value)} {kk : NestedKey} {b : Addr} {v : V} {u : Value} (r : KN xs ys) (rv : RelV v u) : KN (putX xs kk b v) (storedH ys kk b u) := by
  have hf : (xs.find? fun x => decide (x.1 = kk)).isSome = (atKey ys kk).isSome := by
    unfold atKey
    rw [Option.isSome_map]
    induction r with
    | nil => rfl
    | @cons p q ps qs h t ih =>
      rw [List.find?_cons, List.find?_cons, h.1]
      cases decide (q.1 = kk) with
      | true => rfl
      | false => exact ih
  unfold putX storedH
  rw [hf]
  cases hs : (atKey ys kk).isSome with
  | true =>
    simp only [if_true]
    clear hf hs
    induction r with
    | nil => exact .nil
    | @cons p q ps qs h t ih =>
      refine .cons ?_ ih
      unfold putAt
      show _ ∧ _ ∧ _
      simp only [h.1]
      by_cases hk : q.1 = kk
      · rw [if_pos hk, if_pos hk]
        exact ⟨rfl, h.2.1, rv⟩
      · rw [if_neg hk, if_neg hk]
        exact h
  | false =>
    simp only [Bool.false_eq_true, if_false]
    clear hf hs
    induction r with
    | nil => exact .cons ⟨rfl, rfl, rv⟩ .nil
    | cons h t ih => exact .cons h ih
theorem DdPairs.find {B : Bs} {F : Fz} {H : Hp} {kk : NestedKey} : ∀ {xs : List KE1} {kvs : List (PyData × PyData)}, DdPairs B F H xs kvs → (xs.find? fun x => decide (x.1 = kk)).isSome = (kvs.find? fun p => decide (nk p.1 = some kk)).isSome
  | _, _, .nil => rfl
  | _, _, .cons (k := k') (kd := kd') h1 h2 h3 h4 t => by
    rw [List.find?_cons, List.find?_cons]
    have e : decide (nk kd' = some kk) = decide (k' = kk) := decide_eq_decide.mpr (by rw [h2]; exact ⟨fun e => Option.some.inj e, fun e => by rw [e]⟩)
    simp only [e]
    cases decide (k' = kk) with
    | true => rfl
    | false => exact t.find
theorem DdPairs.over {B : Bs} {F : Fz} {H : Hp} {kk : NestedKey} {v : V} {vd : PyData} (hv : Dd B F H v vd) : ∀ {xs : List KE1} {kvs : List (PyData × PyData)}, DdPairs B F H xs kvs → DdPairs B F H (xs.map fun x => if x.1 = kk then (x.1, x.2.1, v) else x) (kvs.map fun p => if nk p.1 = some kk then (p.1, vd) else p)
  | _, _, .nil => .nil
  | _, _, .cons (k := k') h1 h2 h3 h4 t => by
    rw [List.map_cons, List.map_cons]
    by_cases hk' : k' = kk
    · rw [if_pos hk', if_pos (by rw [h2, hk'])]
      exact .cons h1 h2 h3 hv (DdPairs.over hv t)
    · rw [if_neg hk', if_neg (by rw [h2]; exact fun e => hk' (Option.some.inj e))]
      exact .cons h1 h2 h3 h4 (DdPairs.over hv t)
theorem DdPairs.append {B : Bs} {F : Fz} {H : Hp} : ∀ {xs ys : List KE1} {kvs lvs : List (PyData × PyData)}, DdPairs B F H xs kvs → DdPairs B F H ys lvs → DdPairs B F H (xs ++ ys) (kvs ++ lvs)
  | _, _, _, _, .nil, q => q
  | _, _, _, _, .cons h1 h2 h3 h4 t, q => .cons h1 h2 h3 h4 (t.append q)
theorem putX_dd {B : Bs} {F : Fz} {H : Hp} {xs : List KE1} {kvs : List (PyData × PyData)} {kk : NestedKey} {b : Addr} {v : V} {kd vd : PyData} (r : DdPairs B F H xs kvs) (hk : Dd B F H (.ref b) kd) (nkd : nk kd = some kk) (z : kk.depth ≤ 8) (hv : Dd B F H v vd) :
    DdPairs B F H (putX xs kk b v) (putD kvs kk kd vd) := by
  unfold putX putD kAt
  rw [r.find, Option.isSome_map]
  cases (kvs.find? fun p => decide (nk p.1 = some kk)).isSome with
  | true => exact DdPairs.over hv r
  | false => exact r.append (.cons hk nkd z hv .nil)
theorem kOk_nk {x : PyData} {k : NestedKey} (e : kOk x = some k) : nk x = some k ∧ k.depth ≤ 8 := by
  cases x <;> first | (simp [kOk] at e; done) | skip
  rename_i ds
  simp only [kOk] at e
  split at e
  · rename_i k' e'
    simp only [Option.ite_none_right_eq_some, Option.some.injEq] at e
    obtain ⟨h, rfl⟩ := e
    exact ⟨e', h⟩
  · cases e
theorem putX_len {xs : List KE1} {kk : NestedKey} {b : Addr} {v : V} : (putX xs kk b v).length ≤ xs.length + 1 := by
  unfold putX
  split
  · rw [List.length_map]; omega
  · rw [List.length_append]; exact Nat.le_refl _
def rPutN (B : Bs) : TSet := fun o i v H Q => ∃ a b F xs kvs k, o = .ref a ∧ i = .ref b ∧ H a = some (ndO B a xs) ∧ DdPairs B F H xs kvs ∧ KeyR B H b k ∧ xs.length < sizeLine ∧ Q (upd H a (ndO B a (putX xs k b v)))
theorem set_nd (hu : X.A.units + 65 < cLine) : PSet X (rPutN (bs X)) := by
  intro pins s σ H o i v ov iv u Q I ro ri rv h
  obtain ⟨a, b, F, xs, kvs, k, rfl, rfl, h1, h2, ⟨F', kd, hk, nkd, dz⟩, hl, q⟩ := h
  cases ro
  cases ri
  obtain ⟨z, y, ys, r, dd⟩ := nd_of I (.inl h1) h2
  have hlen : xs.length = ys.length := Paired.length r
  refine wpAny_setItem_heap (hsz := by omega) (nroom hu) (hk.isKey I nkd dz) dd fun h' hm' hs => ?_
  refine ⟨_, I.write (t' := s.toks + _) (x := a) (e := a) (o := ndO (bs X) a (putX xs k b v)) (by rw [h1]; trivial) (.inl rfl) (fun c o' hb e => (hs.2 c hb).trans e) ?_ ?_, q⟩
  · obtain ⟨o', es, ep, g, _⟩ := hm'
    exact ⟨o', g⟩
  · exact nd_ok (by have := putX_len (xs := xs) (kk := k) (b := b) (v := v); omega) y (putX_kn r rv) hm'
def ownD (env : DS.Env) (i : Nat) : Option (List (PyData × PyData)) := match env[i]? with
  | some (some (true, .dict kvs)) => some kvs
  | _ => none
def putO (env : DS.Env) (i : Nat) (kvs : List (PyData × PyData)) (v k : PyData) : Option Out := match kOk k with
  | some kk => if kvs.length < sizeLine then some (.nx (env.set i (some (true, .dict (putD kvs kk k v))))) else none
  | none => none
def sPut (i : Nat) (fk fv : Ef) : Sf := fun env => bindS (fv env) fun v => match ownD env i with
  | some kvs => bindS (fk env) (putO env i kvs v)
  | none => none
theorem ownD_eq {env : DS.Env} {i : Nat} {kvs : List (PyData × PyData)} (h : ownD env i = some kvs) : env[i]? = some (some (true, .dict kvs)) := by
  unfold ownD at h
  split at h
  · rename_i ds' e
    cases h
    exact e
  · cases h
theorem Own.dic_ {B : Bs} {F : Fz} {H : Hp} {a : Addr} {kvs : List (PyData × PyData)} (h : Own B F H a (.dict kvs)) : ∃ xs, H a = some (ndO B a xs) ∧ xs.length ≤ sizeLine ∧ DdPairs B F H xs kvs := by
  cases h with
  | dic h z r => exact ⟨_, h, z, r⟩
theorem psd_put (i : Nat) (hu : X.A.units + 65 < cLine) (ho : PE X o (tVar i)) (hk : PD X W xa .e k fk) (hv : PD X W xa .e e fv) (hs : swapsWithSole [.Subscript o k pos2] e pos.line X.env = pure false := by rfl) (hw : swappedStores [.Subscript o k pos2] e X.env = pure none := by rfl)
    (h1 : (assignEach [.Subscript o k pos2] X.env).map (·.2) = [assign (.Subscript o k pos2) X.env] := by rfl)
    (ha : ∀ v, assign (.Subscript o k pos2) X.env v = (do
      let ov ← holding [v] (eval o X.env)
      let iv ← holding [v, ov] (eval k X.env)
      standAt pos2
      holding [v, ov, iv] (setItem ov iv v)
      release [v, ov, iv] []) := by intro _; rfl) : PSD X W xa (.Assign [.Subscript o k pos2] e pos) (sPut i fk fv) :=
  impS (ps_asg hv (pg_sub ho hk (set_nd hu) ha) hs hw h1) fun E σ H h =>
    tM_S (k := fun v env => match ownD env i with
      | some kvs => bindS (fk env) (putO env i kvs v)
      | none => none) h fun D F env dv out v F' H' S hf hk q x g => by
      cases ho : ownD env i with
      | none => rw [ho] at hk; cases hk
      | some kvs =>
        simp only [ho] at hk
        have he := ownD_eq ho
        obtain ⟨a, h1, h2, h3, h4, h5⟩ := S.own i _ he
        obtain ⟨xs, g1, g2, g3⟩ := h5.dic_
        have S1 := S.ext x
        refine ⟨_, h1, ?_⟩
        rcases bindS_cases hk with ⟨c, hc, rfl⟩ | ⟨dk, hd, hk⟩
        · exact ⟨D, F', env, .error c, S1, hc, fun H2 e' => q σ H2 (S.pro.trans (x.ex.trans e'))⟩
        · refine ⟨D, F', env, .ok dk, S1, hd, fun u F2 H2 x2 gk => ?_⟩
          unfold putO at hk
          cases hkk : kOk dk with
          | none => rw [hkk] at hk; cases hk
          | some kk =>
            simp only [hkk, Option.ite_none_right_eq_some, Option.some.injEq] at hk
            obtain ⟨hz, rfl⟩ := hk
            obtain ⟨b, rfl, hkr⟩ := kOk_ref hkk gk
            have x12 := x.trans x2
            have S2 := S.ext x12
            have gl := x12.ex _ _ g1
            have r2 := g3.ext x12
            have nF : ¬ F2 a := fun f => (x12.new a f).elim h2 fun z => by rw [g1] at z; cases z
            obtain ⟨nkd, dz⟩ := kOk_nk hkk
            refine ⟨a, b, F2, xs, kvs, kk, rfl, rfl, gl, r2, hkr, by rw [g3.length]; exact hz, ?_⟩
            have kp : Keep F2 H2 (upd H2 a (ndO (bs X) a (putX xs kk b v))) := Keep.upd nF gl (fun _ _ z => nomatch z)
            obtain ⟨S3, k3⟩ := S2.mut (o' := ndO (bs X) a (putX xs kk b v)) he h1 gl (fun _ _ z => nomatch z) (.dic upd_same (Nat.le_trans putX_len (by rw [g3.length]; exact hz)) ((putX_dd r2 gk nkd dz (Dd.ext g x2)).mono (fun _ f => f) kp))
            exact q σ F2 _ (x12.kp.trans k3) S3
def dLstD (x : PyData) : Option PyData := match x with
  | .dict kvs => if isScr kvs = true then none else some (.list (kvs.map (·.1)))
  | _ => none
theorem keys_acc {P : Program} {w : World} {ks : List (NestedKey × Addr × Value)} {es : Array DictEntry} {acc : Array Value} (he : es.toList = ks.map (entryOfKey (nestedKind P w))) (it : PySem.ItemsOf (fun i v => ∃ en : DictEntry, es[i]? = some en ∧ v = en.key) acc es.size) : acc.toList = (ks.map fun x => x.2.1).map Value.ref := by
  have l1 : es.size = ks.length := size_of_entries he
  rw [List.map_map]
  have hlen : acc.toList.length = ks.length := by rw [Array.length_toList, it.1, l1]
  apply List.ext_getElem?
  intro j
  rw [List.getElem?_map]
  by_cases hj : j < ks.length
  · obtain ⟨en, hen, hv⟩ := it.2 j (acc.toList[j]'(by omega)) (by rw [← Array.getElem?_toList]; exact List.getElem?_eq_getElem (by omega))
    have qe := entry_at he j
    rw [hen, List.getElem?_eq_getElem hj] at qe
    have e2 : en = entryOfKey (nestedKind P w) ks[j] := Option.some.inj qe
    rw [List.getElem?_eq_getElem (by omega), List.getElem?_eq_getElem hj, hv, e2]
    rfl
  · rw [List.getElem?_eq_none (by omega), List.getElem?_eq_none (by omega)]
    rfl
theorem kn_refs {xs : List KE1} {ys : List (NestedKey × Addr × Value)} (r : KN xs ys) : xs.map (fun y => V.ref y.2.1) = (ys.map fun x => x.2.1).map V.ref := by
  induction r with
  | nil => rfl
  | cons h t ih => rw [List.map_cons, List.map_cons, List.map_cons, h.2.1, ih]
theorem call_listD (hc : X.calm = true) : CallR X (.type "list") (fun xs H Q => ∃ d ys, xs = [V.ref d] ∧ Rd H d (ndO (bs X) d ys) ∧ ys.length ≤ sizeLine ∧ ∀ p, H p = none → Q (.ref p) (upd H p (.lst (ys.map fun y => V.ref y.2.1)))) := by
  intro pins s σ H xs us Q I r h
  obtain ⟨d, ys, rfl, hd, hl, q⟩ := h
  obtain ⟨u, rfl, rx⟩ := r.one
  cases rx
  obtain ⟨⟨z, lo, ks, pr, o, es, ep, ho, hx, hdt, he, hn⟩, _, _⟩ := (show ObjOk X.prog X.w H s.heap d (ndO (bs X) d ys) from hd.ok I.hok)
  have l1 : es.size = ks.length := size_of_entries he
  have l2 : ys.length = ks.length := Paired.length pr
  refine PySem.W.kdl_call (L2.kdl_raw lo hx hdt) (I.ok.hd hc) ho (by omega) fun h' tk acc' c' kp e it => ?_
  have ea := keys_acc he it
  have ek := kn_refs pr
  have rv : Vals ((ks.map fun x => x.2.1).map V.ref) acc'.toList := by
    rw [ea]
    generalize (ks.map fun x => x.2.1) = bs
    induction bs with
    | nil => exact .nil
    | cons b bs ih => exact .cons rfl ih
  have q' := q s.heap.objs.size (I.hok.fresh (Nat.le_refl _))
  rw [ek] at q'
  refine ⟨.ref s.heap.objs.size, _, I.laid (t' := tk) (o := .lst ((ks.map fun x => x.2.1).map V.ref)) kp (Nat.le_refl _) ?_, rfl, q'⟩
  exact ⟨by rw [List.length_map, List.length_map]; omega, acc'.toList, c', rv, by rw [Array.toArray_toList]; exact e⟩
theorem DdPairs.keysDd {B : Bs} {F : Fz} {H : Hp} : ∀ {xs : List KE1} {kvs : List (PyData × PyData)}, DdPairs B F H xs kvs → DdAll B F H (xs.map fun y => V.ref y.2.1) (kvs.map (·.1))
  | _, _, .nil => .nil
  | _, _, .cons h1 _ _ _ t => .cons h1 t.keysDd
theorem pd_listD (hc : X.calm = true) (hg : Gl X "list") (hm : X.mg "list" = none) (ha : PD X W xa .r e f) (he : starEach (e :: []) X.env = (false, eval e X.env) :: starEach [] X.env := by rfl) (hpl : (backTo pos (starEach [] X.env)).any (·.1) = false := by rfl) :
    PD X W xa .o (.Call (.Name "list" p) [e] [] pos) (lift1 dLstD f) := pd_callTy (call_listD hc) (by
  intro x z v H1 F H Q e g hd k
  cases x <;> first | (simp [dLstD] at e; done) | skip
  rename_i kvs
  simp only [dLstD, Option.ite_none_left_eq_some, Option.some.injEq] at e
  obtain ⟨hs, rfl⟩ := e
  obtain ⟨a, xs, rfl, h1, hz, h2⟩ := Top.ndr (by simpa using hs) g
  refine ⟨a, xs, rfl, h1, hz, fun p hp => ?_⟩
  have x := Ext.of hd (Ex.new (o := .lst (xs.map fun y => V.ref y.2.1)) hp)
  exact k _ F _ x ⟨p, rfl, fun f => hd p f hp, hp, .lst upd_same (by rw [List.length_map]; exact hz) (h2.keysDd.ext x)⟩) hg hm boot_list ha (by decide) (by decide) he hpl
def Itn (B : Bs) (d : Addr) (o : Obj) (xs : List KE1) : It :=
  ⟨fun i H => H d = some (.frz o (ndO B d xs)) ∧ i < xs.length, fun i H x H' => H' = H ∧ ∃ y, xs[i]? = some y ∧ x = .ref y.2.1, fun i H => H d = some (.frz o (ndO B d xs)) ∧ xs.length ≤ i⟩
theorem frzN {pins : List (Addr × Obj)} {σ : DS.St} {H : Hp} {s : Shared} {d : Addr} {o : Obj} {xs : List KE1} (I : Inv X pins σ H s) (h : H d = some (.frz o (ndO (bs X) d xs))) :
    (d == sysModules) = false ∧ s.heap.get? d = some o ∧ o.ExactDict ∧ ∃ (es : Array DictEntry) (ep : Nat), o.data = .dict es ep ∧ es.size = xs.length ∧ ∀ (i : Nat) (y : KE1), xs[i]? = some y → ∃ en : DictEntry, es[i]? = some en ∧ en.key = .ref y.2.1 := by
  obtain ⟨g, ⟨z, y, ys, r, o', es, ep, h1, h2, h3, h4, h5⟩, _, _⟩ := (show ObjOk X.prog X.w H s.heap d (.frz o (ndO (bs X) d xs)) from I.hok d _ h)
  rw [g] at h1
  cases h1
  have l1 : es.size = ys.length := size_of_entries h4
  refine ⟨y, g, h2, es, ep, h3, by rw [l1]; exact (Paired.length r).symm, fun i y e => ?_⟩
  obtain ⟨b, hb, e1, e2, _⟩ := L2.paired_get r e
  have q := entry_at h4 i
  rw [hb] at q
  exact ⟨_, q, by rw [e2]; rfl⟩
theorem turn_nd {P : Program} {w : World} {K : PySem.W.Frag} {tg : Expr} {d : Addr} {o : Obj} {es : Array DictEntry} {ep : Nat} {xs : List KE1} {hv : Option Value} (it : Addr) (hod : o.data = .dict es ep) : Turn P w K tg (Itn ⟨P, w, K, hv⟩ d o xs) [it] it (fun i h => h.IsKeyIter it d i xs.length ep) where
  mem := List.mem_singleton.mpr rfl
  obj := fun i h st b hb => by
    obtain rfl := List.mem_singleton.mp hb
    obtain ⟨oi, e, c, dd⟩ := st
    exact ⟨oi, e, fun v z => by rw [dd] at z; cases z⟩
  keep := fun i h h' st k => st.at fun oi e => k it (List.mem_singleton.mpr rfl) oi e
  item := by
    intro X hP hw hK hc i pins s σ H E I hf st hg
    subst hP hw hK
    obtain ⟨hd, hi⟩ := hg
    obtain ⟨f0, f1, f2, f3, f4, f5⟩ := hf it (List.mem_singleton.mpr rfl)
    obtain ⟨hs, hgd, hx, es', ep', hdt, hsz, ent⟩ := frzN I hd
    obtain ⟨rfl, rfl⟩ := dict_ep hod hdt
    obtain ⟨en, hen, hkey⟩ := ent i xs[i] (List.getElem?_eq_getElem hi)
    refine next_key_item st hgd hdt hsz hen fun h' st' sb => ?_
    have I1 : Inv X pins σ H { s with heap := h' } := I.turned (t' := s.toks) (fun b ob hb e => (sb.2 b hb).trans e) f0 f1 f3 f4 f5
    obtain ⟨oi, e, c, dd⟩ := id st'
    exact ⟨en.key, rfl, go_of (s := { s with heap := h' }) e c dd (by decide) ⟨.ref xs[i].2.1, H, I1, hkey, ⟨rfl, xs[i], List.getElem?_eq_getElem hi, rfl⟩, st', fun b hb => (hf b hb).1⟩⟩
  done := by
    intro X hP hw hK hc i pins s σ H E I hf st hg
    subst hP hw hK
    obtain ⟨hd, hi⟩ := hg
    obtain ⟨f0, f1, f2, f3, f4, f5⟩ := hf it (List.mem_singleton.mpr rfl)
    obtain ⟨hs, hgd, hx, es', ep', hdt, hsz, ent⟩ := frzN I hd
    obtain ⟨rfl, rfl⟩ := dict_ep hod hdt
    exact next_key_end (I.ok.hd hc) st hgd hdt hsz hi fun h' eb => ⟨rfl, I.turned (t' := s.toks) (fun b ob hb e => eb b ob hb e) f0 f1 f3 f4 f5⟩
  self := fun A i s Q E st h => by
    refine wpAny_pyIter_slot st.typeIs F.slot_dict_keyiterator_iter (wpAny_call_entry F.slot_dict_keyiterator_iter st.typeIs F.entry_dict_keyiterator_iter ?_ (F.args_dict_keyiterator_iter_1 _))
    show wpAny _ _ (ret (.ref it)) _ _ s
    exact wpAny_pure ⟨_, rfl, "dict_keyiterator", _, st.typeIs, F.slot_dict_keyiterator_next.lookup, h⟩
def iNd (B : Bs) (td : TE) : TI := fun σ H R => td σ H fun x H1 => ∃ d o xs, x = .ref d ∧ H1 d = some (.frz o (ndO B d xs)) ∧ R (Itn B d o xs) H1
theorem pi_nd {tg : Expr} {td : TE} (he : PE X e td) : PI X tg e (iNd (bs X) td) := by
  refine ⟨fun pins s σ H R I h => ?_⟩
  refine thn (he.run pins s σ H _ I h) fun u s1 ⟨x, H1, I1, rx, d, o, xs, ex, hd, q⟩ => ?_
  subst ex
  obtain rfl : u = Value.ref d := rx
  obtain ⟨hs, hgd, hx, es, ep, hdt, hsz, ent⟩ := frzN I1 hd
  refine iter_keys hs hgd hx hdt (pi_one (tk := s1.toks) I1 _ (turn_nd _ hdt) ⟨_, Heap.get?_push_size _ rfl, rfl, ?_⟩ q)
  rw [hsz]
  rfl
def sDic (f : Ef) : Sfn := fun env => match f env with
  | some (.ok (.dict kvs)) => if isScr kvs = true then none else some (.ok (kvs.map (·.1)))
  | some (.error c) => some (.error c)
  | _ => none
theorem Dd.dic_ {B : Bs} {F : Fz} {H : Hp} {v : V} {kvs : List (PyData × PyData)} (hk : isScr kvs = false) (h : Dd B F H v (.dict kvs)) : ∃ a o xs, v = .ref a ∧ H a = some (.frz o (ndO B a xs)) ∧ xs.length ≤ sizeLine ∧ DdPairs B F H xs kvs := by
  generalize hd : PyData.dict kvs = d at h
  cases h <;> first | (cases hd; done) | skip
  · cases hd
    rename_i a o xs h z p
    exact ⟨_, _, _, rfl, h, z, p⟩
  · unfold scrD at hd
    injection hd with hd
    subst hd
    simp [isScr] at hk
  all_goals
    injection hd with hd
    subst hd
    simp [isScr] at hk
theorem pid_dic {tg : Expr} {m : Md} (hb : BndOk (bs X) gt bnd js) (ha : PD X W xa .e e f) (hm : m ≠ .o := by simp) : PID X W xa m tg e gt bnd js (sDic f) := impI (pi_nd ha) fun σ H R h => by
  obtain ⟨D, F, env, r0, S, e, q⟩ := h
  unfold sDic at e
  split at e
  · rename_i kvs hf
    simp only [Option.ite_none_left_eq_some, Option.some.injEq] at e
    obtain ⟨hs, rfl⟩ := e
    refine ⟨D, F, env, .ok (.dict kvs), S, hf, fun v F1 H1 x1 g1 => ?_⟩
    obtain ⟨a, o, xs, rfl, h1, hz, h2⟩ := Dd.dic_ (by simpa using hs) g1
    have hl := h2.length
    have up : ∀ {F H}, Rl m F1 H1 F H → Kp F1 H1 F H := fun {F H} r => by
      cases m with
      | e => exact r
      | r => exact Ext.kp r
      | o => exact (hm rfl).elim
      | v => exact Ext.kp r
    refine ⟨a, o, xs, rfl, h1, q _ F1 H1 x1 ⟨by rw [List.length_map, ← hl]; exact hz, fun i F H r hi => ?_, fun F H r => ?_, fun i d F H x H' r hd hi hy D σ env env' Q S e q => ?_⟩⟩
    · exact ⟨(up r).keep.e _ _ _ h1, by rw [List.length_map] at hi; omega⟩
    · exact ⟨(up r).keep.e _ _ _ h1, by rw [List.length_map]; omega⟩
    · obtain ⟨rfl, y, hy, rfl⟩ := hy
      obtain ⟨v, hv, hvd⟩ := (h2.keysDd.kp (up r)).get hi
      rw [List.getElem?_map, hy] at hv
      cases hv
      exact hb _ d D F _ σ env env' Q S hvd e fun σ' S' w => q σ' F _ (Ext.refl hd) S' w
  · rename_i c hf
    cases e
    exact ⟨D, F, env, .error c, S, hf, q⟩
  · cases e
end
end DS
namespace DS
open PySem PySem.Spec PyProof.Rows L2
open PySem.W (dataLe AllAlike Sortable alike EachIs)
def sortD (ds : List PyData) : List PyData := ds.mergeSort (dataLe false id)
def tup1 : PyData → Bool
  | .tuple (_ :: _) => true
  | _ => false
/-- may be sorted: tuples, alike, of texts and numbers -/
def sortOk (ds : List PyData) : Bool := ds.all fun d => tup1 d && (imm d && (d.canLay0 && (decide (d.depth ≤ 60) && ds.all fun d' => alike d d')))
mutual
theorem imm_reads {h : Heap} : ∀ {d : PyData} {v : Value} {as : List Addr}, imm d = true → Reads h v d as → as = []
  | .none, _, _, _, r => by cases r; rfl
  | .bool _, _, _, _, r => by cases r; rfl
  | .int _, _, _, _, r => by cases r; rfl
  | .str _, _, _, _, r => by cases r; rfl
  | .tuple xs, _, _, i, r => by
    cases r with
    | tuple h1 h2 h3 h4 => exact imms_reads (by simpa [imm] using i) h4
  | .list _, _, _, i, _ => by simp [imm] at i
  | .dict _, _, _, i, _ => by simp [imm] at i
theorem imms_reads {h : Heap} : ∀ {ds : List PyData} {vs : List Value} {as : List Addr}, imms ds = true → ReadsAll h vs ds as → as = []
  | [], _, _, _, r => by cases r; rfl
  | d :: ds, _, _, i, r => by
    cases r with
    | cons h1 h2 =>
      rw [imms, Bool.and_eq_true] at i
      rw [imm_reads i.1 h1, imms_reads i.2 h2]
      rfl
end
/-- values, told by what they are here and what they read as -/
structure Items (X : Cx) (F : Fz) (H : Hp) (us : List Value) (bs' : List (V × PyData)) : Prop where
  e : EachIs (fun u b => RelV b.1 u ∧ Dd (bs X) F H b.1 b.2) us bs'
theorem items_of {X : Cx} {F : Fz} {H : Hp} : ∀ {xs : List V} {ds : List PyData} {us : List Value}, DdAll (bs X) F H xs ds → Vals xs us → EachIs (fun u b => RelV b.1 u ∧ Dd (bs X) F H b.1 b.2) us (xs.zip ds)
  | _, _, _, .nil, .nil => .nil
  | _, _, _, .cons r t, .cons q s => .cons ⟨q, r⟩ (items_of t s)
theorem items_vals {X : Cx} {F : Fz} {H : Hp} : ∀ {us : List Value} {l : List (V × PyData)}, EachIs (fun u b => RelV b.1 u ∧ Dd (bs X) F H b.1 b.2) us l → Vals (l.map (·.1)) us ∧ DdAll (bs X) F H (l.map (·.1)) (l.map (·.2))
  | _, _, .nil => ⟨.nil, .nil⟩
  | _, _, .cons h t => let ⟨a, b⟩ := items_vals t; ⟨.cons h.1 a, .cons h.2 b⟩
theorem zip_snd : ∀ {xs : List V} {ds : List PyData}, xs.length = ds.length → (xs.zip ds).map (·.2) = ds
  | [], [], _ => rfl
  | x :: xs, d :: ds, h => by rw [List.zip_cons_cons, List.map_cons, zip_snd (by simpa using h)]
  | [], _ :: _, h => by cases h
  | _ :: _, [], h => by cases h
theorem sort_snd (l : List (V × PyData)) : (l.mergeSort (dataLe false (fun b : V × PyData => b.2))).map (·.2) = sortD (l.map (·.2)) := by
  unfold sortD
  exact List.map_mergeSort fun a _ b _ => rfl
section
variable {X : Cx} {pins : List (Addr × Obj)} {σ : DS.St} {H : Hp} {s : Shared} {F : Fz}
theorem ok_reads {l : List (V × PyData)} {us : List Value} (I : Inv X pins σ H s) (hok : sortOk (l.map (·.2)) = true) (e : EachIs (fun u b => RelV b.1 u ∧ Dd (bs X) F H b.1 b.2) us l) : EachIs (fun u b => Reads s.heap u b.2 []) us l := by
  have one : ∀ b ∈ l, imm b.2 = true ∧ b.2.canLay0 = true := fun b hb => by
    have q := List.all_eq_true.mp hok b.2 (List.mem_map.mpr ⟨b, hb, rfl⟩)
    simp only [Bool.and_eq_true] at q
    exact ⟨q.2.1, q.2.2.1⟩
  clear hok
  induction e with
  | nil => exact .nil
  | @cons u b us l h t ih =>
    refine .cons ?_ (ih fun b' hb' => one b' (List.mem_cons_of_mem _ hb'))
    obtain ⟨i1, i2⟩ := one b List.mem_cons_self
    obtain ⟨as, r⟩ := Dp.reads I b.2 b.1 u (h.2.dp i2) h.1
    rw [imm_reads i1 r] at r
    exact r
theorem ok_alike {l : List (V × PyData)} (hok : sortOk (l.map (·.2)) = true) : AllAlike (l.map fun b => b.2) ∧ Sortable (l.map fun b => b.2) ∧ ∀ b ∈ l, b.2.depth ≤ 60 := by
  have q : ∀ d ∈ l.map (·.2), tup1 d = true ∧ d.depth ≤ 60 ∧ ∀ d' ∈ l.map (·.2), alike d d' = true := fun d hd => by
    have q := List.all_eq_true.mp hok d hd
    simp only [Bool.and_eq_true, decide_eq_true_eq, List.all_eq_true] at q
    exact ⟨q.1, q.2.2.2.1, q.2.2.2.2⟩
  refine ⟨fun d hd d' hd' => (q d hd).2.2 d' hd', .inl fun d hd => ?_, fun b hb => (q b.2 (List.mem_map.mpr ⟨b, hb, rfl⟩)).2.1⟩
  have t := (q d hd).1
  unfold tup1 at t
  split at t
  · exact ⟨_, _, rfl⟩
  · cases t
theorem eachIs_len {α β : Type} {R : α → β → Prop} : ∀ {as : List α} {bs : List β}, EachIs R as bs → as.length = bs.length
  | _, _, .nil => rfl
  | _, _, .cons _ t => by rw [List.length_cons, List.length_cons, eachIs_len t]
theorem eachIs_imp {α β : Type} {R S : α → β → Prop} (k : ∀ a b, R a b → S a b) : ∀ {as : List α} {bs : List β}, EachIs R as bs → EachIs S as bs
  | _, _, .nil => .nil
  | _, _, .cons h t => .cons (k _ _ h) (eachIs_imp k t)
end
def rSort (X : Cx) : List V → Hp → VK → Prop := fun vs H Q => ∃ a F ys ds, vs = [.ref a] ∧ ((H a = some (.lst ys) ∧ ys.length ≤ sizeLine ∧ DdAll (bs X) F H ys ds) ∨ ∃ xs, Rd H a (ndO (bs X) a xs) ∧ xs.length ≤ sizeLine ∧ ys = xs.map (fun y => V.ref y.2.1) ∧ DdAll (bs X) F H ys ds) ∧ sortOk ds = true ∧
  ∀ p zs, H p = none → DdAll (bs X) F H zs (sortD ds) → Q (.ref p) (upd H p (.lst zs))
theorem cr_sorted {X : Cx} (hc : X.calm = true) (hu : X.A.units + 65 < cLine) : CallR X (.builtin "sorted") (rSort X) := by
  intro pins s σ H vs us Q I r h
  obtain ⟨a, F, ys, ds, rfl, hsrc, hok, q⟩ := h
  obtain ⟨u, rfl, rx⟩ := r.one
  cases rx
  rcases hsrc with ⟨h1, hz, hds⟩ | ⟨xs, hd, hz, rfl, hds⟩
  · obtain ⟨its, n, rv, ho, _⟩ := I.lst h1
    have hl := hds.length
    have e := items_of hds rv
    have es : (ys.zip ds).map (·.2) = ds := zip_snd hl
    rw [← es] at hok
    have er := ok_reads I hok e
    obtain ⟨al, so, dz⟩ := ok_alike hok
    refine PySem.W.sorted_data (vs := its) (bs := ys.zip ds) (enc := fun b : V × PyData => b.2) (R := fun u b => RelV b.1 u ∧ Dd (bs X) F H b.1 b.2) ⟨_, ho, rfl, _, rfl⟩ e (eachIs_imp (fun _ _ r => ⟨[], r⟩) er) al so (by rw [List.length_zip]; omega) (fun b hb => by have := dz b hb; omega) fun out ho' eo => ?_
    obtain ⟨ep, he'⟩ := PyProof.Rows.sortedAll_at s.heap its out.toArray
    obtain ⟨v1, v2⟩ := items_vals eo
    have e3 := sort_snd (ys.zip ds)
    rw [es] at e3
    rw [e3] at v2
    refine ⟨.ref _, _, I.laid (t' := s.toks) (o := .lst (((ys.zip ds).mergeSort (dataLe false (fun b : V × PyData => b.2))).map (·.1))) (fun _ _ => PyProof.Rows.sortedAll_old) (Nat.le_succ _) ⟨?_, out, ep, v1, he'⟩, rfl, q _ _ (I.hok.fresh (Nat.le_succ _)) v2⟩
    rw [v1.length, ho', List.length_zip]
    omega
  · obtain ⟨⟨z, lo, ks, pr, o, es, ep, ho, hx, hdt, he, hn⟩, _, _⟩ := (show ObjOk X.prog X.w H s.heap a (ndO (bs X) a xs) from hd.ok I.hok)
    have l1 : es.size = ks.length := size_of_entries he
    have l2 : xs.length = ks.length := Paired.length pr
    refine PySem.Calls.call_function_entry kind_sorted plain_sorted entry_sorted (args_sorted1 _) ?_
    unfold Builtin.«sorted»
    refine wpAny_bind (m := checkCount "sorted" 1 1 _) (wpAny_pure ?_)
    refine wpAny_bind (PySem.W.kdu_collect (A := X.A.in1) (L2.kdl_raw lo hx hdt) (I.ok.hd hc) ho (by omega) fun h' tk acc hk hacc => ?_)
    have ea := keys_acc he hacc
    have rv : Vals (xs.map fun y => V.ref y.2.1) acc.toList := by
      rw [ea, kn_refs pr]
      generalize (ks.map fun x => x.2.1) = bs
      induction bs with
      | nil => exact .nil
      | cons b bs ih => exact .cons rfl ih
    have I2 : Inv X pins σ H { s with heap := h', toks := tk } := I.kept hk
    have hl := hds.length
    rw [List.length_map] at hl
    have e := items_of hds rv
    have es' : ((xs.map fun y => V.ref y.2.1).zip ds).map (·.2) = ds := zip_snd (by rw [List.length_map]; exact hl)
    rw [← es'] at hok
    have er := ok_reads I2 hok e
    obtain ⟨al, so, dz⟩ := ok_alike hok
    have hla : acc.toList.length = ks.length := by rw [Array.length_toList, hacc.1, l1]
    refine wpAny_bind (wpAny_newList ?_ (by omega))
    have hob : (h'.push { cls := .type "list", data := .seq acc.toList.toArray }).get? h'.objs.size = some (seqObj "list" acc.toList.toArray 0) := Heap.get?_push_size _ rfl
    have er2 : EachIs (fun u (b : V × PyData) => ∃ as, Reads (h'.push { cls := .type "list", data := .seq acc.toList.toArray }) u b.2 as ∧ h'.objs.size ∉ as) acc.toList ((xs.map fun y => V.ref y.2.1).zip ds) :=
      eachIs_imp (fun u b r => ⟨[], PyProof.Rows.Reads.keeps (fun b o e => Heap.get?_push_of_some _ e) r, by simp⟩) er
    refine wpAny_bind (wpAny_holding ?_)
    refine PySem.W.list_sort_data (s := { s with heap := h'.push { cls := .type "list", data := .seq acc.toList.toArray }, toks := tk }) (vs := acc.toList) (bs := (xs.map fun y => V.ref y.2.1).zip ds) (enc := fun b : V × PyData => b.2) (R := fun u b => RelV b.1 u ∧ Dd (bs X) F H b.1 b.2) hob e er2 al so (by rw [List.length_zip, List.length_map]; omega) (fun b hb => by have := dz b hb; show X.A.units + 1 + 1 + _ < _; omega) fun out ho' eo => ?_
    refine wpAny_pure ⟨_, rfl, ?_⟩
    obtain ⟨ep2, he'⟩ := PyProof.Rows.sortedHeap_at (vs := acc.toList) (out := out.toArray) hob
    obtain ⟨v1, v2⟩ := items_vals eo
    have e3 := sort_snd ((xs.map fun y => V.ref y.2.1).zip ds)
    rw [es'] at e3
    rw [e3] at v2
    have hnone : s.heap.get? h'.objs.size = none := by
      cases hq : s.heap.get? h'.objs.size with
      | none => rfl
      | some o => exact absurd (Heap.lt_size (hk _ o hq)) (Nat.lt_irrefl _)
    have hgone := I.hok.gone hnone
    refine ⟨.ref _, _, I.laidN (t' := tk) (o := .lst ((((xs.map fun y => V.ref y.2.1).zip ds).mergeSort (dataLe false (fun b : V × PyData => b.2))).map (·.1))) (fun b o e => ?_) hnone hgone ⟨?_, out, ep2, v1, he'⟩, rfl, q _ _ hgone v2⟩
    · have e2 := hk b o e
      have hlt := Heap.lt_size e2
      rw [PyProof.Rows.sortedHeap_old (Nat.ne_of_lt hlt) (by rw [Heap.size_push]; exact Nat.lt_succ_of_lt hlt)]
      exact Heap.get?_push_of_some _ e2
    · rw [v1.length, ho', List.length_zip, List.length_map]
      omega
def dSort (x : PyData) : Option PyData := match x with
  | .list ds => if sortOk ds = true then some (.list (sortD ds)) else none
  | .dict kvs => if isScr kvs = true then none else if sortOk (kvs.map (·.1)) = true then some (.list (sortD (kvs.map (·.1)))) else none
  | _ => none
theorem sortD_len {ds : List PyData} : (sortD ds).length = ds.length := List.length_mergeSort _
section
variable {X : Cx} {W : WX} {xa : Xc → Addr} {e : Expr} {f : Ef} {p pos : Pos}
theorem pd_sorted (hc : X.calm = true) (hu : X.A.units + 65 < cLine) (hg : Gl X "sorted") (hm : X.mg "sorted" = none) (ha : PD X W xa .r e f) (he : starEach (e :: []) X.env = (false, eval e X.env) :: starEach [] X.env := by rfl) (hpl : (backTo pos (starEach [] X.env)).any (·.1) = false := by rfl) :
    PD X W xa .o (.Call (.Name "sorted" p) [e] [] pos) (lift1 dSort f) := pd_callB (cr_sorted hc hu) (by
  intro x z v H1 F H Q e g hd k
  have fin : ∀ (ds : List PyData), ds.length ≤ sizeLine → z = .list (sortD ds) → ∀ p zs, H p = none → DdAll (bs X) F H zs (sortD ds) → Q (.ref p) (upd H p (.lst zs)) := by
    rintro ds hz rfl p zs hp hzs
    have x := Ext.of hd (Ex.new (o := .lst zs) hp)
    exact k _ F _ x ⟨p, rfl, fun f => hd p f hp, hp, .lst upd_same (by rw [hzs.length, sortD_len]; exact hz) (hzs.ext x)⟩
  cases x <;> first | (simp [dSort] at e; done) | skip
  · rename_i ds
    simp only [dSort, Option.ite_none_right_eq_some, Option.some.injEq] at e
    obtain ⟨a, xs, rfl, h1, hz, h2⟩ := Top.lst g
    exact ⟨a, F, xs, ds, rfl, .inl ⟨h1, hz, h2⟩, e.1, fin ds (by rw [← h2.length]; exact hz) e.2.symm⟩
  · rename_i kvs
    simp only [dSort, Option.ite_none_left_eq_some, Option.ite_none_right_eq_some, Option.some.injEq] at e
    obtain ⟨hs, ho, rfl⟩ := e
    obtain ⟨a, xs, rfl, h1, hz, h2⟩ := Top.ndr (by simpa using hs) g
    exact ⟨a, F, _, kvs.map (·.1), rfl, .inr ⟨xs, h1, hz, rfl, h2.keysDd⟩, ho, fin _ (by rw [List.length_map, ← h2.length]; exact hz) rfl⟩) hg hm PyProof.Rows.boot_sorted ha (by decide) (by decide) he hpl
end
end DS
namespace DS
open PySem PySem.Spec PyProof.Rows L2
/-- many things at once -/
def putA : Hp → List (Addr × HO) → Hp
  | H, [] => H
  | H, p :: L => putA (upd H p.1 p.2) L
theorem putA_off {b : Addr} : ∀ (L : List (Addr × HO)) (H : Hp), b ∉ L.map (·.1) → putA H L b = H b
  | [], _, _ => rfl
  | p :: L, H, h => by
    rw [List.map_cons, List.mem_cons, not_or] at h
    rw [putA, putA_off L _ h.2, upd_ne h.1]
theorem putA_at : ∀ (L : List (Addr × HO)) (H : Hp), (L.map (·.1)).Nodup → ∀ p ∈ L, putA H L p.1 = some p.2
  | p :: L, H, hn, q, hq => by
    rw [List.map_cons, List.nodup_cons] at hn
    rcases List.mem_cons.mp hq with rfl | hq
    · rw [putA, putA_off L _ hn.1, upd_same]
    · exact putA_at L _ hn.2 q hq
  | [], _, _, _, hq => nomatch hq
theorem laidAll {X : Cx} {pins : List (Addr × Obj)} {σ : DS.St} {H : Hp} {s : Shared} {h' : Heap} {tk : Nat} {L : List (Addr × HO)} (I : Inv X pins σ H s) (hk : ∀ b o, s.heap.get? b = some o → h'.get? b = some o) (nd : (L.map (·.1)).Nodup) (hi : ∀ p ∈ L, s.heap.objs.size ≤ p.1)
    (new : ∀ p ∈ L, ObjOk X.prog X.w (putA H L) h' p.1 p.2) : Ex H (putA H L) ∧ Inv X pins σ (putA H L) { s with heap := h', toks := tk } := by
  have low : ∀ b o, s.heap.get? b = some o → b ∉ L.map (·.1) := fun b o e z => by
    obtain ⟨p, hp, rfl⟩ := List.mem_map.mp z
    exact absurd (Heap.lt_size e) (Nat.not_lt.mpr (hi p hp))
  have fresh : ∀ p ∈ L, H p.1 = none := fun p hp => I.hok.fresh (hi p hp)
  have kp : Ex H (putA H L) := fun b u e => by
    rw [putA_off L H fun z => ?_]
    · exact e
    · obtain ⟨p, hp, rfl⟩ := List.mem_map.mp z
      rw [fresh p hp] at e
      cases e
  refine ⟨kp, I.call' (ch := []) rfl ⟨fun b o q _ _ _ => hk b o q, fun b o q _ _ _ => ⟨o.slots, hk b o q⟩, fun b o q n _ => ?_, fun b o q _ => ⟨o, hk b o q⟩, fun b xs q => kp b _ q, fun b o u q => kp b _ q, fun b ps q => ⟨#[], by rw [kp b _ q]; simp⟩⟩ (fun b u q => ?_) I.bare fun b z => by simp at z⟩
  · rw [putA_off L H (low b o q)]
    exact n
  · by_cases hb : b ∈ L.map (·.1)
    · obtain ⟨p, hp, rfl⟩ := List.mem_map.mp hb
      rw [putA_at L H nd p hp] at q
      cases q
      exact new p hp
    · rw [putA_off L H hb] at q
      exact (I.hok b u q).stay (fun d v _ y => hk d v y) (fun d y => kp d _ y) fun d xs y => kp d _ y
section
variable {X : Cx} {W : WX} {xa : Xc → Addr} {e : Expr} {f : Ef} {p pos apos cpos : Pos}
def dItems (x : PyData) : Option PyData := match x with
  | .dict kvs => if isScr kvs = true then none else some (.list (kvs.map fun p => .tuple [p.1, p.2]))
  | _ => none
def pairObj (k v : Value) : Obj := { cls := .type "tuple", data := .seq #[k, v] }
/-- the new tuples, told -/
def tupsOf : List Addr → List KE1 → List (NestedKey × Addr × Value) → List (Addr × HO)
  | a :: as, x :: xs, y :: ys => (a, .frz (pairObj (.ref y.2.1) y.2.2) (.tup [.ref x.2.1, x.2.2])) :: tupsOf as xs ys
  | _, _, _ => []
theorem tupsOf_fst : ∀ {as : List Addr} {xs : List KE1} {ys : List (NestedKey × Addr × Value)}, as.length = xs.length → KN xs ys → (tupsOf as xs ys).map (·.1) = as
  | [], [], _, _, .nil => rfl
  | a :: as, x :: xs, _, h, .cons r t => by rw [tupsOf, List.map_cons, tupsOf_fst (by simpa using h) t]
  | [], _ :: _, _, h, _ => by cases h
  | _ :: _, [], _, h, _ => by cases h
theorem tupsOf_mem : ∀ {as : List Addr} {xs : List KE1} {ys : List (NestedKey × Addr × Value)} {q : Addr × HO}, KN xs ys → q ∈ tupsOf as xs ys → ∃ (j : Nat) (x : KE1) (y : NestedKey × Addr × Value), as[j]? = some q.1 ∧ ys[j]? = some y ∧ q.2 = .frz (pairObj (.ref y.2.1) y.2.2) (.tup [.ref x.2.1, x.2.2]) ∧ x.2.1 = y.2.1 ∧ RelV x.2.2 y.2.2
  | a :: as, x :: xs, _, q, .cons (b := y) r t, h => by
    rw [tupsOf] at h
    rcases List.mem_cons.mp h with rfl | h
    · exact ⟨0, x, y, rfl, rfl, rfl, r.2.1, r.2.2⟩
    · obtain ⟨j, x', y', h1, h2, h3⟩ := tupsOf_mem t h
      exact ⟨j + 1, x', y', h1, h2, h3⟩
  | [], _, _, _, _, h => by simp [tupsOf] at h
  | _ :: _, [], _, _, .nil, h => by simp [tupsOf] at h
theorem tupsOf_dd {B : Bs} {F : Fz} {H H' : Hp} : ∀ {as : List Addr} {xs : List KE1} {ys : List (NestedKey × Addr × Value)} {kvs : List (PyData × PyData)}, as.length = xs.length → KN xs ys → DdPairs B F H xs kvs → Ext F H F H' → (∀ q ∈ tupsOf as xs ys, H' q.1 = some q.2) → DdAll B F H' (as.map V.ref) (kvs.map fun p => .tuple [p.1, p.2])
  | [], [], _, _, _, .nil, .nil, _, _ => .nil
  | a :: as, x :: xs, _, _, h, .cons (b := y) r t, .cons h1 h2 h3 h4 t2, x', hq => by
    refine .cons (.tup ⟨pairObj (.ref y.2.1) y.2.2, rfl, hq (a, _) ?_⟩ (.cons (h1.ext x') (.cons (h4.ext x') .nil))) (tupsOf_dd (by simpa using h) t t2 x' fun q hm => hq q (List.mem_cons_of_mem _ hm))
    exact List.mem_cons_self
  | [], _ :: _, _, _, h, _, _, _, _ => by cases h
  | _ :: _, [], _, _, h, _, _, _, _ => by cases h
theorem pd_items (hc : X.calm = true) (ha : PD X W xa .r e f) (hg : Gl X "list") (hm : X.mg "list" = none) (hbase : attributeBase e "items" X.env (eval e X.env) = eval e X.env := by rfl) (hline : (apos.endLine == cpos.line) = true := by rfl)
    (hs : starEach [.Call (.Attribute e "items" apos) [] [] cpos] X.env = (false, eval (.Call (.Attribute e "items" apos) [] [] cpos) X.env) :: starEach [] X.env := by rfl) :
    PD X W xa .o (.Call (.Name "list" p) [.Call (.Attribute e "items" apos) [] [] cpos] [] pos) (lift1 dItems f) := by
  refine ⟨fun pins s σ H Q I hq => ?_⟩
  refine wpAny_Call_Name_kw (ld_blt I hg hm boot_list ?_)
  refine PyProof.Rows.callWith_type1 ?_ hs rfl
  rw [hs]
  show wpAny _ _ (spliced ((false, eval (.Call (.Attribute e "items" apos) [] [] cpos) X.env) :: backTo pos (starEach [] X.env))) _ _ s
  refine Calls.spliced_cons ?_
  have hw : tM (bs X) W xa .r f σ H fun v H1 => ∃ (G : Fz) (a : Addr) (xs : List KE1) (kvs : List (PyData × PyData)), v = .ref a ∧ Dom G H1 ∧ Rd H1 a (ndO (bs X) a xs) ∧ xs.length ≤ sizeLine ∧ DdPairs (bs X) G H1 xs kvs ∧ ∀ p H2, H1 p = none → Ext G H1 G H2 → ∀ zs, H2 p = some (.lst zs) → DdAll (bs X) G H2 zs (kvs.map fun p => .tuple [p.1, p.2]) → Q (.ref p) H2 := by
    obtain ⟨D, F, env, r, S, e0, q⟩ := hq
    simp only [lift1, bindR] at e0
    cases hf : f env with
    | none => rw [hf] at e0; cases e0
    | some r1 =>
      rw [hf] at e0
      cases r1 with
      | error c => cases e0; exact ⟨D, F, env, .error c, S, hf, q⟩
      | ok x =>
        simp only [Option.map_eq_some_iff] at e0
        obtain ⟨z, e0, rfl⟩ := e0
        cases x <;> first | (simp [dItems] at e0; done) | skip
        rename_i kvs
        simp only [dItems, Option.ite_none_left_eq_some, Option.some.injEq] at e0
        obtain ⟨hsc, rfl⟩ := e0
        refine ⟨D, F, env, _, S, hf, fun v F1 H1 x1 g1 => ?_⟩
        obtain ⟨a, xs, rfl, h1, hz, h2⟩ := Top.ndr (by simpa using hsc) g1
        refine ⟨F1, a, xs, kvs, rfl, x1.dom, h1, hz, h2, fun p H2 hp x2 zs hzs hdd => q _ F1 H2 (x1.trans x2) ⟨p, rfl, fun f => x1.dom p f hp, x1.ex.free hp, .lst hzs ?_ hdd⟩⟩
        rw [hdd.length, List.length_map, ← h2.length]
        exact hz
  refine wpAny_Call_method (T := "dict") (id := "dict.items") hbase rfl hline PySem.F.plainAttrs_dict PySem.F.slot_dict_items PySem.F.type_dict_items (thn (ha.run pins s σ H _ I hw) fun u s1 ⟨x, H1, I1, rx, G, a, xs, kvs, ex, hdom, hd, hz, hdd, q⟩ => ?_)
  subst ex
  obtain rfl : u = Value.ref a := rx
  obtain ⟨⟨_, lo, ks, pr, o, es, ep, ho, hx, hdt, he, hn⟩, _, _⟩ := (show ObjOk X.prog X.w H1 s1.heap a (ndO (bs X) a xs) from hd.ok I1.hok)
  have l1 : es.size = ks.length := size_of_entries he
  have l2 : xs.length = ks.length := Paired.length pr
  have raw : s1.heap.DictRaw a es ep := ⟨o, ho, hx, hdt⟩
  refine ⟨⟨o, ho, hx.1⟩, (fun b hb => by cases hb; exact ⟨o, ho, hx.2.1⟩), ?_⟩
  show wpAny _ _ (callWith cpos (.builtin "dict.items") [.ref a] [] []) _ X.xe s1
  refine method_meetsIn PySem.F.slot_dict_items PySem.F.entry_dict_items rfl (PySem.evalArgs_none ⟨rfl, ⟨o, ho, hx.1⟩, PySem.F.args_dict_items_1 _, _, meets_dict_items_raw a lo, ⟨es, ep, raw⟩, ?_⟩)
  refine Calls.spliced_nil ?_
  have I2 : Inv X pins σ H1 { s1 with heap := s1.heap.push { cls := .type "dict_items", data := .fields #[.ref a] } } := I1.kept (t' := s1.toks) fun b ob q => Heap.get?_push_of_some _ q
  refine PySem.W.dil_call (es := es) (ep := ep) (I1.ok.hd hc) ⟨_, Heap.get?_push_size _ rfl, rfl, rfl⟩ (raw.push _) (by omega) fun h' tk acc c as hk hS hl hG hacc => ?_
  have hla : as.length = xs.length := by rw [hl, l1, l2]
  obtain ⟨N, hN⟩ : ∃ N, N = (s1.heap.push { cls := .type "dict_items", data := .fields #[.ref a] }).objs.size := ⟨_, rfl⟩
  have fst : (((N, HO.lst (as.map V.ref)) :: tupsOf as xs ks).map (·.1)) = N :: as := by rw [List.map_cons, tupsOf_fst hla pr]
  have nd : (((N, HO.lst (as.map V.ref)) :: tupsOf as xs ks).map (·.1)).Nodup := by
    rw [fst, List.nodup_cons]
    exact ⟨fun z => Nat.lt_irrefl _ (hN ▸ hG.above _ z), List.Pairwise.imp (fun {a b} (h : a < b) => Nat.ne_of_lt h) hG.rise⟩
  have low : ∀ q ∈ (N, HO.lst (as.map V.ref)) :: tupsOf as xs ks, N ≤ q.1 := fun q hq => by
    have hm : q.1 ∈ N :: as := by rw [← fst]; exact List.mem_map.mpr ⟨q, hq, rfl⟩
    rcases List.mem_cons.mp hm with e | hm
    · rw [e]; exact Nat.le_refl _
    · exact Nat.le_of_lt (hN ▸ hG.above _ hm)
  have lowB : ∀ b, N ≤ b → H1 b = none := fun b hb => I2.hok.fresh (hN ▸ hb)
  have hat := putA_at _ H1 nd
  have kp : Ex H1 (putA H1 ((N, HO.lst (as.map V.ref)) :: tupsOf as xs ks)) := fun b u e => by
    rw [putA_off]
    · exact e
    · intro z
      obtain ⟨q, hq, rfl⟩ := List.mem_map.mp z
      rw [lowB _ (low q hq)] at e
      cases e
  have xe : Ext G H1 G (putA H1 ((N, HO.lst (as.map V.ref)) :: tupsOf as xs ks)) := Ext.of hdom kp
  obtain ⟨_, J⟩ := laidAll (tk := tk) (L := (N, HO.lst (as.map V.ref)) :: tupsOf as xs ks) I2 hk nd (fun q hq => hN ▸ low q hq) fun q hq => by
    rcases List.mem_cons.mp hq with rfl | hq
    · refine ⟨by show (as.map V.ref).length ≤ _; rw [List.length_map]; omega, acc.toList, c, ?_, by rw [Array.toArray_toList, hN]; exact hS⟩
      rw [hacc]
      clear hl hG hacc hla fst nd low hat kp xe hq
      induction as with
      | nil => exact .nil
      | cons b bs ih => exact .cons rfl ih
    · obtain ⟨j, x, y, h1, h2, h3, h4, h5⟩ := tupsOf_mem pr hq
      rw [h3]
      obtain ⟨hj, e3⟩ := hG.pairs j q.1 h1
      have en := entry_at he j
      rw [h2, ← Array.getElem?_toList, List.getElem?_eq_getElem (by simpa using hj)] at en
      have e4 : es[j] = entryOfKey (nestedKind X.prog X.w) y := by simpa using en
      rw [e4] at e3
      refine ⟨e3, by show 2 ≤ sizeLine; decide, [.ref y.2.1, y.2.2], .cons (by rw [h4]; rfl) (.cons h5 .nil), ⟨_, e3, rfl, _, rfl⟩⟩
  refine ⟨.ref N, _, J, by rw [hN]; rfl, q N _ (lowB N (Nat.le_refl _)) xe (as.map V.ref) (hat (N, _) List.mem_cons_self) (tupsOf_dd hla pr hdd xe fun q' hq' => hat q' (List.mem_cons_of_mem _ hq'))⟩
def mkD : List PyData → List (PyData × PyData) → Option (List (PyData × PyData))
  | [], acc => some acc
  | d :: ds, acc => match d with
    | .tuple [k, v] => match kOk k with
      | some kk => mkD ds (putD acc kk k v)
      | none => none
    | _ => none
def dDict (x : PyData) : Option PyData := match x with
  | .list ds => (mkD ds []).map .dict
  | _ => none
/-- the pairs: their keys, their objects -/
theorem pairs_of {pins : List (Addr × Obj)} {σ : DS.St} {H : Hp} {s : Shared} {G : Fz} (I : Inv X pins σ H s) : ∀ {ds : List PyData} {vs : List V} {us : List Value} {acc kvs : List (PyData × PyData)} {xa : List KE1} {ya : List (NestedKey × Addr × Value)}, DdAll (bs X) G H vs ds → Vals vs us → mkD ds acc = some kvs → DdPairs (bs X) G H xa acc → KN xa ya →
    ∃ (ps : List (NestedKey × Addr × Value)) (Ts : List Addr) (xs : List KE1), ps.length = ds.length ∧ Ts.length = ds.length ∧ us = Ts.map Value.ref ∧ (∀ (j : Nat) (p : NestedKey × Addr × Value), ps[j]? = some p → ∃ T, Ts[j]? = some T ∧ PairAt s.heap T (.ref p.2.1) p.2.2) ∧
      (∀ p ∈ ps, ∃ kd, Dd (bs X) G H (.ref p.2.1) kd ∧ nk kd = some p.1 ∧ p.1.depth ≤ 8) ∧ KN xs (storedAllH ya ps) ∧ DdPairs (bs X) G H xs kvs
  | [], _, _, acc, kvs, xa, ya, .nil, .nil, e, h1, h2 => by
    cases e
    exact ⟨[], [], xa, rfl, rfl, rfl, (fun j p h => by simp at h), (by intro p h; cases h), h2, h1⟩
  | d :: ds, v :: vs, u :: us, acc, kvs, xa, ya, .cons rd rt, .cons rv rs, e, h1, h2 => by
    unfold mkD at e
    split at e
    · rename_i k w
      split at e
      · rename_i kk hkk
        obtain ⟨T, zs, rfl, ht, hz⟩ := rd.tup_
        cases hz with
        | cons hk hz =>
          cases hz with
          | cons hw hz =>
            cases hz
            obtain ⟨b, rfl, _⟩ := kOk_ref hkk hk
            obtain ⟨nkd, dz⟩ := kOk_nk hkk
            cases rv
            obtain ⟨its, rvs, pt, _⟩ := I.tuple ht.sq
            cases rvs with
            | cons r1 r2 =>
              cases r2 with
              | @cons _ uw _ _ r2 r3 =>
                cases r3
                cases r1
                obtain ⟨ps, Ts, xs, a1, a2, a3, a4, a5, a6, a7⟩ := pairs_of I rt rs e (putX_dd h1 hk nkd dz hw) (putX_kn (b := b) h2 r2)
                refine ⟨(kk, b, uw) :: ps, T :: Ts, xs, by rw [List.length_cons, a1]; rfl, by rw [List.length_cons, a2]; rfl, by rw [a3]; rfl, fun j p hj => ?_, fun p hp => ?_, a6, a7⟩
                · cases j with
                  | zero => cases hj; exact ⟨T, rfl, .inl pt⟩
                  | succ j => exact a4 j p (by simpa using hj)
                · rcases List.mem_cons.mp hp with rfl | hp
                  · exact ⟨k, hk, nkd, dz⟩
                  · exact a5 p hp
      · cases e
    · cases e
def rDict (X : Cx) : List V → Hp → VK → Prop := fun vs H Q => ∃ a G ys ds kvs, vs = [.ref a] ∧ H a = some (.lst ys) ∧ ys.length ≤ sizeLine ∧ DdAll (bs X) G H ys ds ∧ mkD ds [] = some kvs ∧ ∀ p xs, H p = none → xs.length ≤ ds.length → DdPairs (bs X) G H xs kvs → Q (.ref p) (upd H p (ndO (bs X) p xs))
theorem storedAll_len (ps : List (NestedKey × Addr × Value)) : (storedAllH ([] : List (NestedKey × Addr × Value)) ps).length ≤ ps.length := by
  have := storedAllH_length ps ([] : List (NestedKey × Addr × Value))
  simpa using this
theorem cr_dict (hc : X.calm = true) (hu : X.A.units + 65 < cLine) : CallR X (.type "dict") (rDict X) := by
  intro pins s σ H vs us Q I r h
  obtain ⟨a, G, ys, ds, kvs, rfl, h1, hz, hds, hmk, q⟩ := h
  obtain ⟨u, rfl, rx⟩ := r.one
  cases rx
  obtain ⟨its, n, rv, ho, _⟩ := I.lst h1
  obtain ⟨ps, Ts, xs, l1, l2, e1, e2, e3, e4, e5⟩ := pairs_of I hds rv hmk .nil .nil
  have hdl := hds.length
  have hpl : ps.length ≤ sizeLine := by omega
  have hki : ∀ {h' : Heap} {tk : Nat}, (∀ b o, s.heap.get? b = some o → h'.get? b = some o) → ∀ x ∈ ps, (nestedKind X.prog X.w).is h' x.1 x.2.1 := fun {h' tk} hk x hx => by
    obtain ⟨kd, k1, k2, k3⟩ := e3 x hx
    exact k1.isKey (I.kept (t' := s.toks) hk) k2 k3
  have ok : PlainSeq "list" s.heap a its.toArray ∧ PairItems s.heap its.toArray (fun j => Ts.getD j 0) (ps.map fun p => (Value.ref p.2.1, p.2.2)) := by
    refine ⟨⟨_, n, ho, rfl, rfl, rfl⟩, ?_, fun j k v hj => ?_⟩
    · rw [List.size_toArray, List.length_map, e1, List.length_map]
      omega
    · rw [List.getElem?_map] at hj
      obtain ⟨p, hp, hpe⟩ := Option.map_eq_some_iff.mp hj
      cases hpe
      obtain ⟨T, hT, hP⟩ := e2 j p hp
      have ed : Ts.getD j 0 = T := by rw [List.getD_eq_getElem?_getD, hT]; rfl
      show its.toArray[j]? = some (.ref (Ts.getD j 0)) ∧ PairAt s.heap (Ts.getD j 0) _ _
      rw [ed]
      refine ⟨?_, hP⟩
      rw [List.getElem?_toArray, e1, List.getElem?_map, hT]
      rfl
  have arg := PairArg.list (prog := X.prog) (w := X.w) a its.toArray (fun j => Ts.getD j 0) (ps.map fun p => (Value.ref p.2.1, p.2.2))
  have hu2 : (nestedKind X.prog X.w).room X.A.in1.in1 := by
    show X.A.units + 1 + 1 + 8 < cLine
    omega
  refine call_dict_pairsH (knd := nestedKind X.prog X.w) (ps := ps) arg (I.ok.hd hc) hu2 ok ⟨(List.length_map ..).symm, fun i key v hi => ?_⟩ (fun h' hk x hx => hki (tk := 0) (fun b o e => hk b o (Nat.ne_of_lt (Heap.lt_size e)) (by simp) e) x hx) (by rw [List.length_map]; exact hpl) fun h' tk hd' hk => ?_
  · have hi' : (ps.map fun p => (Value.ref p.2.1, p.2.2))[i]? = some (key, v) := hi
    rw [List.getElem?_map] at hi'
    obtain ⟨p, hp, hpe⟩ := Option.map_eq_some_iff.mp hi'
    cases hpe
    exact ⟨p.1, p.2.1, hp, rfl⟩
  · have hlen : xs.length ≤ ds.length := by
      have := Paired.length e4
      have := storedAll_len ps
      omega
    refine ⟨.ref s.heap.objs.size, _, I.laid (t' := tk) (o := ndO (bs X) s.heap.objs.size xs) (fun b o e => hk b o (by simp) e) (Nat.le_refl _) (nd_ok (by omega) (beq_eq_false_iff_ne.mpr (Ne.symm (Nat.ne_of_lt I.big))) e4 hd'), rfl, q _ xs (I.hok.fresh (Nat.le_refl _)) hlen e5⟩
theorem pd_dict (hc : X.calm = true) (hu : X.A.units + 65 < cLine) (hg : Gl X "dict") (hm : X.mg "dict" = none) (ha : PD X W xa .r e f) (he : starEach (e :: []) X.env = (false, eval e X.env) :: starEach [] X.env := by rfl) (hpl : (backTo pos (starEach [] X.env)).any (·.1) = false := by rfl) :
    PD X W xa .o (.Call (.Name "dict" p) [e] [] pos) (lift1 dDict f) := pd_callTy (cr_dict hc hu) (by
  intro x z v H1 F H Q e g hd k
  cases x <;> first | (simp [dDict] at e; done) | skip
  rename_i ds
  simp only [dDict, Option.map_eq_some_iff] at e
  obtain ⟨kvs, hmk, rfl⟩ := e
  obtain ⟨a, ys, rfl, h1, hz, h2⟩ := Top.lst g
  refine ⟨a, F, ys, ds, kvs, rfl, h1, hz, h2, hmk, fun p xs hp hl hdd => ?_⟩
  have x := Ext.of hd (Ex.new (o := ndO (bs X) p xs) hp)
  exact k _ F _ x ⟨p, rfl, fun f => hd p f hp, hp, .dic upd_same (by have := h2.length; omega) (hdd.ext x)⟩) hg hm PyProof.Rows.boot_dict ha (by decide) (by decide) he hpl
end
end DS
namespace DS
open PySem PySem.Spec PyProof.Rows L2
section
variable {X : Cx} {W : WX} {xa : Xc → Addr} {e a b o k : Expr} {f g fv fk : Ef} {p pos pos' pos2 p2 apos cpos kpos : Pos}
def dMinN (x : PyData) : Option PyData := match x with
  | .list ds => (ints? ds).map fun ns => match minI ns with | some m => .int m | none => .none
  | _ => none
def rMinN (X : Cx) : List V → List V → Hp → VK → Prop := fun vs zs H Q => ∃ (a : Addr) (ns : List Int), vs = [.ref a] ∧ zs = [.non] ∧ H a = some (.lst (ns.map V.int)) ∧ (ns = [] → Q .non H) ∧ ∀ n ms, ns = n :: ms → Q (.int (ms.foldl min n)) H
theorem ints_reads {h : Heap} : ∀ {ns : List Int} {us : List Value}, Vals (ns.map V.int) us → ReadsAll h us (ns.map PyData.int) []
  | [], _, .nil => .nil
  | n :: ns, _, .cons r t => by
    obtain ⟨k, rfl⟩ := r
    exact .cons (.int n k) (ints_reads t)
theorem cr_minN (hc : X.calm = true) (hu : X.A.units + 65 < cLine) : CallRK X (.builtin "min") ["default"] (rMinN X) := by
  intro pins s σ H vs zs us ws Q I r r2 h
  obtain ⟨a, ns, rfl, rfl, h1, q0, q1⟩ := h
  obtain ⟨u, rfl, rx⟩ := r.one
  obtain ⟨w2, rfl, rw2⟩ := r2.one
  cases rx
  cases rw2
  obtain ⟨its, n, rv, ho, _⟩ := I.lst h1
  have rd := ints_reads (h := s.heap) rv
  have al : PySem.W.AlikeAll (ns.map PyData.int) := by
    refine ⟨fun x hx y hy => ?_, fun x hx => ?_⟩
    · obtain ⟨i, _, rfl⟩ := List.mem_map.mp hx
      obtain ⟨j, _, rfl⟩ := List.mem_map.mp hy
      simp [PySem.W.alike]
    · obtain ⟨i, _, rfl⟩ := List.mem_map.mp hx
      simp
  refine PySem.W.min_list_default (vs := its.toArray) (xs := ns.map PyData.int) (as := []) (I.ok.hd hc) ⟨_, ho, rfl, _, rfl⟩ (by simpa using rd) al (by rw [PySem.W.depth_ints]; show X.A.units + 1 + 0 < _; omega) (fun h0 h' tk hk => ?_) fun y ys i v h' tk bs e hv hr hk => ?_
  · have e : ns = [] := by simpa using h0
    exact ⟨.non, H, I.kept hk, rfl, q0 e⟩
  · cases ns with
    | nil => cases e
    | cons n ms =>
      simp only [List.map_cons, List.cons.injEq] at e
      obtain ⟨rfl, rfl⟩ := e
      rw [PySem.W.minD_ints] at hr
      cases hr
      exact ⟨.int _, H, I.kept hk, ⟨_, rfl⟩, q1 n ms rfl⟩
theorem pd_minN (hc : X.calm = true) (hu : X.A.units + 65 < cLine) (hg : Gl X "min") (hm : X.mg "min" = none) (ha : PD X W xa .r e f) (he1 : starEach (e :: []) X.env = (false, eval e X.env) :: starEach [] X.env := by rfl)
    (he : backTo pos (starEach (e :: []) X.env) = (false, eval e X.env) :: backTo pos (starEach [] X.env) := by rfl) (hpl : (backTo pos (starEach (e :: []) X.env)).any (·.1) = false := by rfl)
    (hall : (backToKw pos (keywordEach [⟨some "default", .Constant .none 0 p2, kpos⟩] X.env)).all (·.1.isSome) = true := by rfl) (hnone : (backToKw pos (keywordEach [⟨some "default", .Constant .none 0 p2, kpos⟩] X.env)).any (·.1.isNone) = false := by rfl) (hks : (backToKw pos (keywordEach [⟨some "default", .Constant .none 0 p2, kpos⟩] X.env)).filterMap (·.1) = [("default" : Str)] := by rfl) :
    PD X W xa .e (.Call (.Name "min" p) [e] [⟨some "default", .Constant .none 0 p2, kpos⟩] pos) (lift1 dMinN f) :=
  impE (pe_callBK (cr_minN hc hu) hg hm (by decide +kernel) (pa_cons ha pa_nil he1) (pk_cons pe_non pk_nil) (by decide) (by decide) he hpl hall hnone hks) fun σ H Q h => by
    obtain ⟨D, F, env, r, S, e0, q⟩ := h
    simp only [lift1, bindR] at e0
    cases hf : f env with
    | none => rw [hf] at e0; cases e0
    | some r1 =>
      rw [hf] at e0
      cases r1 with
      | error c => cases e0; exact ⟨D, F, env, .error c, S, hf, q⟩
      | ok x =>
        simp only [Option.map_eq_some_iff] at e0
        obtain ⟨z, e0, rfl⟩ := e0
        refine ⟨D, F, env, .ok x, S, hf, fun v F1 H1 x1 g1 => ?_⟩
        cases x <;> first | (simp [dMinN] at e0; done) | skip
        rename_i ds
        simp only [dMinN, Option.map_eq_some_iff] at e0
        obtain ⟨ns, hi, rfl⟩ := e0
        obtain ⟨a, ps, rfl, hp, hz, rp⟩ := Top.lst g1
        cases ints_of hi rp
        refine ⟨a, ns, rfl, rfl, hp, fun h0 => ?_, fun n ms h0 => ?_⟩
        · subst h0
          exact q .non F1 H1 x1 .non
        · subst h0
          exact q (.int _) F1 H1 x1 (.int _)
def dMin2 : PyData → PyData → Option PyData
  | .int i, .int j => some (.int (if j < i then j else i))
  | _, _ => none
theorem pd_min2 (hc : X.calm = true) (hg : Gl X "min") (hm : X.mg "min" = none) (ha : PD X W xa .e a f) (hb : PD X W xa .e b g) (he : starEach (a :: [b]) X.env = (false, eval a X.env) :: starEach [b] X.env := by rfl) (he2 : starEach (b :: []) X.env = (false, eval b X.env) :: starEach [] X.env := by rfl) (hpl : (backTo pos (starEach [b] X.env)).any (·.1) = false := by rfl) :
    PD X W xa .e (.Call (.Name "min" p) [a, b] [] pos) (lift2 dMin2 f g) :=
  impE (pe_callB (call_min2 hc) hg hm (by decide +kernel) (pa_cons ha (pa_cons hb pa_nil he2) he) (by decide) (by decide) he hpl) fun σ H Q h => by
    obtain ⟨D, F, env, r0, S, e0, q⟩ := h
    simp only [lift2, bindR] at e0
    cases hf : f env with
    | none => rw [hf] at e0; cases e0
    | some r1 =>
      rw [hf] at e0
      cases r1 with
      | error c => cases e0; exact ⟨D, F, env, .error c, S, hf, q⟩
      | ok x =>
        refine ⟨D, F, env, .ok x, S, hf, fun v F1 H1 x1 g1 => ?_⟩
        cases hg : g env with
        | none => simp only [hg] at e0; cases e0
        | some r2 =>
          simp only [hg] at e0
          cases r2 with
          | error c => cases e0; exact ⟨D, F1, env, .error c, S.ext x1, hg, fun H' e' => q H' (x1.ex.trans e')⟩
          | ok y =>
            simp only [Option.map_eq_some_iff] at e0
            obtain ⟨z, e0, rfl⟩ := e0
            refine ⟨D, F1, env, .ok y, S.ext x1, hg, fun u F2 H2 x2 g2 => ?_⟩
            cases x <;> first | (simp [dMin2] at e0; done) | skip
            cases y <;> first | (simp [dMin2] at e0; done) | skip
            cases Dd.int_ g1
            cases Dd.int_ g2
            simp only [dMin2, Option.some.injEq] at e0
            subst e0
            exact ⟨_, _, rfl, q _ F2 H2 (x1.trans x2) (.int _)⟩
def dInR : PyData → PyData → Option PyData
  | .int i, .int n => some (.bool (decide (0 ≤ i ∧ i < n)))
  | _, _ => none
theorem cr_range1 : CallR X (.type "range") (fun vs H Q => ∃ j : Int, vs = [V.int j] ∧ ∀ p, H p = none → Q (.ref p) (upd H p (.rng 0 j))) := by
  intro pins s σ H vs us Q I r h
  obtain ⟨j, rfl, q⟩ := h
  obtain ⟨u1, rfl, ri⟩ := r.one
  obtain ⟨t, rfl⟩ := ri
  refine call_range_1 ⟨.ref s.heap.objs.size, upd H s.heap.objs.size (.rng 0 j), I.laid (t' := _) (fun b o e => Heap.get?_push_of_some _ e) (Nat.le_refl _) ?_, rfl, q _ (I.hok.fresh (Nat.le_refl _))⟩
  exact ⟨_, _, _, Heap.get?_push_size _ rfl⟩
theorem pt_inR (hg : Gl X "range") (hm : X.mg "range" = none) (ha : PD X W xa .e a f) (hb : PD X W xa .e b g) (he : starEach (b :: []) X.env = (false, eval b X.env) :: starEach [] X.env := by rfl) (hpl : (backTo pos2 (starEach [] X.env)).any (·.1) = false := by rfl)
    (hn : behindInMarks .In (.Call (.Name "range" p) [b] [] pos2) = false := by rfl) : PTD X W xa (.Compare a [.In] [.Call (.Name "range" p) [b] [] pos2] pos) (lift2 dInR f g) :=
  impT (pt_cmpR op_in_rng ha (pe_callTy cr_range1 hg hm PyProof.Rows.boot_range (pa_cons hb pa_nil he) (by decide) (by decide) he hpl) hn) fun σ H Q h => by
    obtain ⟨D, F, env, r0, S, e0, q⟩ := h
    simp only [lift2, bindR] at e0
    cases hf : f env with
    | none => rw [hf] at e0; cases e0
    | some r1 =>
      rw [hf] at e0
      cases r1 with
      | error c => cases e0; exact ⟨D, F, env, .error c, S, hf, q⟩
      | ok x =>
        refine ⟨D, F, env, .ok x, S, hf, fun v F1 H1 x1 g1 => ?_⟩
        cases hg : g env with
        | none => simp only [hg] at e0; cases e0
        | some r2 =>
          simp only [hg] at e0
          cases r2 with
          | error c => cases e0; exact ⟨D, F1, env, .error c, S.ext x1, hg, fun H' e' => q H' (x1.ex.trans e')⟩
          | ok y =>
            simp only [Option.map_eq_some_iff] at e0
            obtain ⟨z, e0, rfl⟩ := e0
            refine ⟨D, F1, env, .ok y, S.ext x1, hg, fun u F2 H2 x2 g2 => ?_⟩
            cases x <;> first | (simp [dInR] at e0; done) | skip
            cases y <;> first | (simp [dInR] at e0; done) | skip
            cases Dd.int_ g1
            cases Dd.int_ g2
            simp only [dInR, Option.some.injEq] at e0
            subst e0
            refine ⟨_, rfl, fun pp hp => ⟨_, _, _, _, rfl, rfl, upd_same, ?_⟩⟩
            exact q _ F2 _ ((x1.trans x2).trans (Ext.of x2.dom (Ex.new hp))) (.bl _)
def dPick (x y z w : Str) : PyData → Option PyData
  | .str k => if z = k then some (.str w) else if x = k then some (.str y) else none
  | _ => none
theorem pd_pick {x y z w : Str} {jx jy jz jw : Nat} {px py pz pw dp : Pos} (hu : X.A.units + 65 < cLine) (hne : z ≠ x) (hk : PD X W xa .e k fk) (hs : NoSl k := by exact fun _ _ => rfl) :
    PD X W xa .e (.Subscript (.Dict [some (.Constant (.str x) jx px), some (.Constant (.str z) jz pz)] [.Constant (.str y) jy py, .Constant (.str w) jw pw] dp) k pos) (lift1 (dPick x y z w) fk) :=
  impE (pe_dget (by omega) (pe_disp (pps_cons pe_str pe_str (pps_cons pe_str pe_str pps_nil)) (by rfl) (by rfl) (by simp) (by show 2 ≤ 15; decide)) hk hs) fun σ H Q h => by
    intro p hp
    show (upd H p (.dK [])) p = some (.dK []) ∧ _
    refine ⟨upd_same, [(.inr x, .str y), (.inr z, .str w)], rfl, by show 2 ≤ 15; decide, ?_⟩
    have em : mergeK [] [((.inr x : Key), V.str y), (.inr z, .str w)] = [(.inr x, .str y), (.inr z, .str w)] := by
      unfold mergeK
      simp [putK, hne.symm]
    rw [em, upd_upd]
    obtain ⟨D, F, env, r0, S, e0, q⟩ := h
    have x1 : Ext F H F (upd H p (.dK [((.inr x : Key), V.str y), (.inr z, .str w)])) := Ext.of S.dom (Ex.new hp)
    simp only [lift1, bindR] at e0
    cases hf : fk env with
    | none => rw [hf] at e0; cases e0
    | some r1 =>
      rw [hf] at e0
      cases r1 with
      | error c => cases e0; exact ⟨D, F, env, .error c, S.ext x1, hf, fun H' e' => q H' (x1.ex.trans e')⟩
      | ok d =>
        simp only [Option.map_eq_some_iff] at e0
        obtain ⟨zz, e0, rfl⟩ := e0
        refine ⟨D, F, env, .ok d, S.ext x1, hf, fun v F1 H1 x2 g1 => ?_⟩
        cases d <;> first | (simp [dPick] at e0; done) | skip
        rename_i kk
        cases (show Dd (bs X) F1 H1 v (.str kk) from g1)
        have hd := x2.ex _ _ (upd_same (H := H) (a := p) (o := .dK [((.inr x : Key), V.str y), (.inr z, .str w)]))
        have g := DGet.k (k := (.inr kk : Key)) hd
        simp only [dPick] at e0
        by_cases h1 : z = kk
        · subst h1
          simp only [if_true, Option.some.injEq] at e0
          subst e0
          refine ⟨p, .str w, rfl, ?_, q _ F1 H1 (x1.trans x2) (.str w)⟩
          have ev : valV [((.inr x : Key), V.str y), (.inr z, .str w)] (.inr z) = some (.str w) := by simp [valV, List.find?_cons, hne.symm]
          rw [← ev]
          exact g
        · rw [if_neg h1] at e0
          simp only [Option.ite_none_right_eq_some, Option.some.injEq] at e0
          obtain ⟨h2, rfl⟩ := e0
          subst h2
          refine ⟨p, .str y, rfl, ?_, q _ F1 H1 (x1.trans x2) (.str y)⟩
          have ev : valV [((.inr x : Key), V.str y), (.inr z, .str w)] (.inr x) = some (.str y) := by simp [valV, List.find?_cons]
          rw [← ev]
          exact g
def setO (env : DS.Env) (i : Nat) (ds : List PyData) (v k : PyData) : Option Out := match k with
  | .int n => match ixN ds.length n with
    | some j => some (.nx (env.set i (some (true, .list (ds.set j v)))))
    | none => none
  | _ => none
def sSet (i : Nat) (fk fv : Ef) : Sf := fun env => bindS (fv env) fun v => match ownL env i with
  | some ds => bindS (fk env) (setO env i ds v)
  | none => none
theorem psd_setI (i : Nat) (ho : PE X o (tVar i)) (hk : PD X W xa .e k fk) (hv : PD X W xa .e e fv) (hs : swapsWithSole [.Subscript o k pos2] e pos.line X.env = pure false := by rfl) (hw : swappedStores [.Subscript o k pos2] e X.env = pure none := by rfl)
    (h1 : (assignEach [.Subscript o k pos2] X.env).map (·.2) = [assign (.Subscript o k pos2) X.env] := by rfl)
    (ha : ∀ v, assign (.Subscript o k pos2) X.env v = (do
      let ov ← holding [v] (eval o X.env)
      let iv ← holding [v, ov] (eval k X.env)
      standAt pos2
      holding [v, ov, iv] (setItem ov iv v)
      release [v, ov, iv] []) := by intro _; rfl) : PSD X W xa (.Assign [.Subscript o k pos2] e pos) (sSet i fk fv) :=
  impS (ps_asg hv (pg_sub ho hk set_list ha) hs hw h1) fun E σ H h =>
    tM_S (k := fun v env => match ownL env i with
      | some ds => bindS (fk env) (setO env i ds v)
      | none => none) h fun D F env dv out v F' H' S hf hk q x g => by
      cases ho : ownL env i with
      | none => rw [ho] at hk; cases hk
      | some ds =>
        simp only [ho] at hk
        have he := ownL_eq ho
        obtain ⟨a, h1, h2, h3, h4, h5⟩ := S.own i _ he
        obtain ⟨xs, g1, g2, g3⟩ := h5.lst_
        have S1 := S.ext x
        refine ⟨_, h1, ?_⟩
        rcases bindS_cases hk with ⟨c, hc, rfl⟩ | ⟨dk, hd, hk⟩
        · exact ⟨D, F', env, .error c, S1, hc, fun H2 e' => q σ H2 (S.pro.trans (x.ex.trans e'))⟩
        · refine ⟨D, F', env, .ok dk, S1, hd, fun u F2 H2 x2 gk => ?_⟩
          unfold setO at hk
          cases dk <;> first | (simp at hk; done) | skip
          rename_i n
          cases Dd.int_ gk
          cases hj : ixN ds.length n with
          | none => simp only [hj] at hk; cases hk
          | some j =>
            simp only [hj, Option.some.injEq] at hk
            subst hk
            have x12 := x.trans x2
            have S2 := S.ext x12
            have gl := x12.ex _ _ g1
            have r2 := g3.ext x12
            have nF : ¬ F2 a := fun f => (x12.new a f).elim h2 fun z => by rw [g1] at z; cases z
            refine ⟨a, xs, n, j, rfl, rfl, gl, by rw [g3.length]; exact hj, ?_⟩
            have kp : Keep F2 H2 (upd H2 a (.lst (xs.set j v))) := Keep.upd nF gl (fun _ _ z => nomatch z)
            obtain ⟨S3, k3⟩ := S2.mut (o' := .lst (xs.set j v)) he h1 gl (fun _ _ z => nomatch z) (.lst upd_same (by rw [List.length_set]; exact g2) ((DdAll.set (Dd.ext g x2) j r2).mono (fun _ f => f) kp))
            exact q σ F2 _ (x12.kp.trans k3) S3
def eCallM (Φ : Fn) (r : Afn) : Ef := fun env => match r env with
  | none => none
  | some (.error c) => some (.error c)
  | some (.ok ds) => match Φ ds with
    | some (.ok (_, d)) => some (.ok d)
    | some (.error c) => some (.error c)
    | none => none
theorem pd_callM {Φ : Fn} {x : Str} {es : List Expr} {r : Afn} (G : Fok X xa x Φ) (tk : L2N.Takes X W) (hg : Gl X x) (ha : PAD X W xa .e (e :: es) r)
    (he : starEach (e :: es) X.env = (false, eval e X.env) :: starEach es X.env := by rfl) (hpl : (backTo pos (starEach es X.env)).any (·.1) = false := by rfl) : PD X W xa .r (.Call (.Name x p) (e :: es) [] pos) (eCallM Φ r) := by
  obtain ⟨⟨k, f, fd, ps, ok, hr, hm, hk, hb⟩, hdb⟩ := G
  rw [bs_none hr.hd] at ok
  refine impE (pe_callS (E := WE W) ok hr hg hm hk hb (fun σ => L2N.passAt tk σ) ha hdb he hpl) fun σ H Q h => ?_
  obtain ⟨D, F, env, r0, S, e, q⟩ := h
  unfold eCallM at e
  cases hf : r env with
  | none => rw [hf] at e; cases e
  | some r1 =>
    rw [hf] at e
    cases r1 with
    | error c => cases e; exact ⟨D, F, env, .error c, S, hf, q⟩
    | ok ds =>
      refine ⟨D, F, env, .ok ds, S, hf, fun vs F1 H1 x1 g1 => ?_⟩
      cases hp : Φ ds with
      | none => simp only [hp] at e; cases e
      | some r2 =>
        refine ⟨F1, ds, r2, x1.dom, g1, hp, ?_⟩
        simp only [hp] at e
        cases r2 with
        | error c => cases e; exact fun H' e' => q H' (x1.ex.trans e')
        | ok od =>
          obtain ⟨o', d⟩ := od
          cases e
          intro v F' H' x g
          refine q v F' H' (x1.trans x) ?_
          cases o' with
          | true =>
            obtain ⟨a, rfl, _, _, h4⟩ := (show Got (bs X) .o H1 F' H' v d from g)
            exact .own h4
          | false => exact .dd g
def sAsgM (j : Nat) (Φ : Fn) (r : Afn) : Sf := fun env => match r env with
  | none => none
  | some (.error c) => some (.xc c)
  | some (.ok ds) => match Φ ds with
    | some (.ok (o, d)) => some (.nx (env.set j (some (o, d))))
    | some (.error c) => some (.xc c)
    | none => none
theorem psd_callM {Φ : Fn} {x y : Str} {es : List Expr} {r : Afn} (j : Nat) (hN : X.N.Nodup) (G : Fok X xa x Φ) (tk : L2N.Takes X W) (hg : Gl X x) (ha : PAD X W xa .e (e :: es) r)
    (hi : X.N[j]? = some y := by rfl) (hx : Loc X.env.scope y := by first | exact .inl rfl | exact .inr rfl) (hs : swapsWith (.Call (.Name x p) (e :: es) [] pos2) (some (.Name y pos')) pos.line X.env = pure false := by rfl) (hfn : X.fn y = true ∨ X.env.scope.names.lookup y = some .local := by first | exact .inl rfl | exact .inr rfl)
    (he : starEach (e :: es) X.env = (false, eval e X.env) :: starEach es X.env := by rfl) (hpl : (backTo pos2 (starEach es X.env)).any (·.1) = false := by rfl) : PSD X W xa (.Assign [.Name y pos'] (.Call (.Name x p) (e :: es) [] pos2) pos) (sAsgM j Φ r) := by
  obtain ⟨⟨k, f, fd, ps, ok, hr, hm, hk, hb⟩, hdb⟩ := G
  rw [bs_none hr.hd] at ok
  refine impS (ps_set hN hi hx (pe_callS (E := WE W) ok hr hg hm hk hb (fun σ => L2N.passAt tk σ) ha hdb he hpl) hs hfn) fun E σ H h => ?_
  obtain ⟨D, F, env, out, S, e, q⟩ := h
  unfold sAsgM at e
  cases hf : r env with
  | none => rw [hf] at e; cases e
  | some r1 =>
    rw [hf] at e
    cases r1 with
    | error c => cases e; exact ⟨D, F, env, .error c, S, hf, fun H' e' => q σ H' (S.pro.trans e')⟩
    | ok ds =>
      refine ⟨D, F, env, .ok ds, S, hf, fun vs F1 H1 x1 g1 => ?_⟩
      cases hp : Φ ds with
      | none => simp only [hp] at e; cases e
      | some r2 =>
        refine ⟨F1, ds, r2, x1.dom, g1, hp, ?_⟩
        simp only [hp] at e
        cases r2 with
        | error c => cases e; exact fun H' e' => q σ H' (S.pro.trans (x1.ex.trans e'))
        | ok od =>
          obtain ⟨o', d⟩ := od
          cases e
          intro v F' H' x g
          have x2 := x1.trans x
          have S2 := S.ext x2
          cases o' with
          | false => exact q _ F' H' x2.kp (S2.set g)
          | true =>
            obtain ⟨a, rfl, h1, h2, h3⟩ := (show Got (bs X) .o H1 F' H' v d from g)
            have h2' : H a = none := x1.ex.free h2
            refine q _ F' H' x2.kp (S2.setOwn (H0 := H) (fun i d' b hi e1 e2 e3 => ?_) h1 (S.pro.free h2') (fun z => S.bn a z h2') h3)
            subst e3
            obtain ⟨a', e4, _, _, _, h5⟩ := S.own i d' e1
            rw [e2] at e4
            cases e4
            exact h5.live h2'
end
theorem nd_op1 {op : PyData → Option PyData} {f : Ef} (h : ∀ x z, op x = some z → noDi z = true) : NoD (lift1 op f) := fun env d e => by
  simp only [lift1, bindR] at e
  split at e
  · cases e
  · cases e
  · simp only [Option.map_eq_some_iff, Except.ok.injEq] at e
    obtain ⟨z, e, rfl⟩ := e
    exact h _ _ e
theorem nd_listD {f : Ef} : NoD (lift1 dLstD f) := nd_op1 fun x z e => by
  unfold dLstD at e
  split at e
  · simp only [Option.ite_none_left_eq_some, Option.some.injEq] at e
    rw [← e.2]
    rfl
  · cases e
theorem nd_list1 {f : Ef} : NoD (lift1 dLst1 f) := nd_op1 fun x z e => by
  unfold dLst1 at e
  split at e
  · cases e; rfl
  · simp only [Option.ite_none_right_eq_some, Option.some.injEq] at e
    rw [← e.2]
    rfl
  · cases e
theorem nd_items {f : Ef} : NoD (lift1 dItems f) := nd_op1 fun x z e => by
  unfold dItems at e
  split at e
  · simp only [Option.ite_none_left_eq_some, Option.some.injEq] at e
    rw [← e.2]
    rfl
  · cases e
theorem nd_sorted {f : Ef} : NoD (lift1 dSort f) := nd_op1 fun x z e => by
  unfold dSort at e
  split at e
  · simp only [Option.ite_none_right_eq_some, Option.some.injEq] at e
    rw [← e.2]
    rfl
  · simp only [Option.ite_none_left_eq_some, Option.ite_none_right_eq_some, Option.some.injEq] at e
    rw [← e.2.2]
    rfl
  · cases e
theorem nd_lst {r : Afn} : NoD (liftA dLst r) := fun env d e => by
  unfold liftA dLst at e
  split at e
  · cases e
  · cases e
  · simp only [Option.map_eq_some_iff, Option.ite_none_right_eq_some, Option.some.injEq, Except.ok.injEq] at e
    obtain ⟨z, ⟨_, rfl⟩, rfl⟩ := e
    rfl
theorem nd_lc {src : Sfn} {bnd : Bn} {tst elt : Ef} {vs : List Nat} : NoD (eLC src bnd tst elt vs) := fun env d e => by
  unfold eLC at e
  split at e
  · cases e
  · cases e
  · simp only [Option.map_eq_some_iff, Except.ok.injEq] at e
    obtain ⟨z, _, e⟩ := e
    cases e
    rfl
theorem nd_cat {f g : Ef} : NoD (lift2 iCat f g) := fun env d e => by
  simp only [lift2, bindR] at e
  split at e
  · cases e
  · cases e
  · split at e
    · cases e
    · cases e
    · simp only [Option.map_eq_some_iff, Except.ok.injEq] at e
      obtain ⟨z, e, rfl⟩ := e
      unfold iCat at e
      split at e
      · simp only [Option.ite_none_right_eq_some, Option.some.injEq] at e
        rw [← e.2]
        rfl
      · cases e
theorem nd_slL {f : Ef} {l u : Ofn} : NoD (lift3 dSlL f l u) := fun env d e => by
  simp only [lift3, bindR] at e
  split at e
  · cases e
  · cases e
  · split at e
    · cases e
    · cases e
    · split at e
      · cases e
      · cases e
      · simp only [Option.map_eq_some_iff, Except.ok.injEq] at e
        obtain ⟨z, e, rfl⟩ := e
        unfold dSlL at e
        split at e
        · cases e; rfl
        · split at e
          · simp only [Option.ite_none_right_eq_some, Option.some.injEq] at e
            rw [← e.2]
            rfl
          · cases e
        · cases e
end DS
namespace DS
open PySem PySem.Spec PyProof.Rows L2
section
variable {f g h c : Ef} {op : PyData → Option PyData} {op2 : PyData → PyData → Option PyData} {env : DS.Env} {r : Afn} {g1 g2 : Sf} {bnd : Bn}
def orI (x : PyData) (a b : Option Res) : Option Res := match x with | .bool true => a | .bool false => b | _ => none
def orS (x : PyData) (a b : Option Out) : Option Out := match x with | .bool true => a | .bool false => b | _ => none
@[simp] theorem orI_b {b : Bool} {x y : Option Res} : orI (.bool b) x y = if b = true then x else y := by cases b <;> rfl
@[simp] theorem orS_b {b : Bool} {x y : Option Out} : orS (.bool b) x y = if b = true then x else y := by cases b <;> rfl
def seqO (x : Option Out) (k : DS.Env → Option Out) : Option Out := match x with | some (.nx e) => k e | o => o
@[simp] theorem seqO_nx {e k} : seqO (some (.nx e)) k = k e := rfl
@[simp] theorem seqO_rt {o d k} : seqO (some (.rt o d)) k = some (.rt o d) := rfl
@[simp] theorem seqO_bk {e k} : seqO (some (.bk e)) k = some (.bk e) := rfl
@[simp] theorem seqO_ct {e k} : seqO (some (.ct e)) k = some (.ct e) := rfl
@[simp] theorem seqO_xc {c k} : seqO (some (.xc c)) k = some (.xc c) := rfl
@[simp] theorem seqO_no {k} : seqO none k = none := rfl
@[simp] theorem seqO_if {p : Prop} [Decidable p] {x y k} : seqO (if p then x else y) k = if p then seqO x k else seqO y k := by split <;> rfl
@[simp] theorem bindR_ok {d k} : bindR (some (.ok d)) k = k d := rfl
@[simp] theorem bindR_er {c k} : bindR (some (.error c)) k = some (.error c) := rfl
@[simp] theorem bindR_no {k} : bindR none k = none := rfl
@[simp] theorem bindR_if {p : Prop} [Decidable p] {x y k} : bindR (if p then x else y) k = if p then bindR x k else bindR y k := by split <;> rfl
@[simp] theorem bindS_ok {d k} : bindS (some (.ok d)) k = k d := rfl
@[simp] theorem bindS_er {c k} : bindS (some (.error c)) k = some (.xc c) := rfl
@[simp] theorem bindS_no {k} : bindS none k = none := rfl
@[simp] theorem bindS_if {p : Prop} [Decidable p] {x y k} : bindS (if p then x else y) k = if p then bindS x k else bindS y k := by split <;> rfl
@[simp] theorem lift1_s : lift1 op f env = bindR (f env) fun x => (op x).map .ok := rfl
@[simp] theorem lift2_s : lift2 op2 f g env = bindR (f env) fun x => bindR (g env) fun y => (op2 x y).map .ok := rfl
@[simp] theorem eC_s {d} : eC d env = some (.ok d) := rfl
@[simp] theorem eV_s {i : Nat} : eV i env = (match env[i]? with | some (some (false, d)) => some (.ok d) | _ => none) := rfl
@[simp] theorem rV_s {i : Nat} : rV i env = (match env[i]? with | some (some (_, d)) => some (.ok d) | _ => none) := rfl
@[simp] theorem fIf_s : fIf c f g env = bindR (c env) fun x => orI x (f env) (g env) := by
  show bindR (c env) _ = _
  congr 1
@[simp] theorem fAnd_s : fAnd f g env = fIf f g (eC (.bool false)) env := rfl
@[simp] theorem fOr_s : fOr f g env = fIf f (eC (.bool true)) g env := rfl
def nB : PyData → Option PyData | .bool b => some (.bool (!b)) | _ => none
@[simp] theorem nB_b {b : Bool} : nB (.bool b) = some (.bool (!b)) := rfl
@[simp] theorem fNot_s : fNot f env = bindR (f env) fun x => (nB x).map .ok := by
  show bindR (f env) _ = _
  congr 1
@[simp] theorem sSeq_s : sSeq g1 g2 env = seqO (g1 env) g2 := by
  unfold sSeq seqO
  cases g1 env with
  | none => rfl
  | some o => cases o <;> rfl
@[simp] theorem sIf_s : sIf c g1 g2 env = bindS (c env) fun x => orS x (g1 env) (g2 env) := by
  show bindS (c env) _ = _
  congr 1
@[simp] theorem sNx_s : sNx env = some (.nx env) := rfl
@[simp] theorem sBk_s : sBk env = some (.bk env) := rfl
@[simp] theorem sCt_s : sCt env = some (.ct env) := rfl
@[simp] theorem sRaise_s {c} : sRaise c env = some (.xc c) := rfl
@[simp] theorem sRet_s {o} : sRet o f env = bindS (f env) fun d => some (.rt o d) := rfl
@[simp] theorem sDrop_s : sDrop f env = bindS (f env) fun _ => some (.nx env) := rfl
@[simp] theorem sAsg_s : sAsg bnd f env = bindS (f env) fun d => (bnd d env).map .nx := rfl
@[simp] theorem sOwn_s {j : Nat} : sOwn j f env = bindS (f env) fun d => some (.nx (env.set j (some (true, d)))) := rfl
@[simp] theorem bName_s {j : Nat} {d : PyData} : bName j d env = some (env.set j (some (false, d))) := rfl
@[simp] theorem bTup_s {js : List Nat} {ds : List PyData} : bTup js (.tuple ds) env = setAll js ds env := rfl
@[simp] theorem setAll_n : setAll [] [] env = some env := rfl
@[simp] theorem setAll_c {j : Nat} {js : List Nat} {d : PyData} {ds : List PyData} : setAll (j :: js) (d :: ds) env = setAll js ds (env.set j (some (false, d))) := rfl
@[simp] theorem sRetV_s {i : Nat} : sRetV i env = (match env[i]? with | some (some (true, d)) => some (.rt true d) | _ => none) := rfl
@[simp] theorem sFrz_s {i : Nat} : sFrz i g1 env = (match env[i]? with | some (some (true, d)) => g1 (env.set i (some (false, d))) | some (some (false, _)) => g1 env | _ => none) := rfl
def appO (i : Nat) (x : Option Res) (env : DS.Env) (ds : List PyData) : Option Out := bindS x fun d => if ds.length < sizeLine then some (.nx (env.set i (some (true, .list (ds ++ [d]))))) else none
theorem sApp_of {i : Nat} {ds : List PyData} {d : PyData} (h : env[i]? = some (some (true, .list ds))) (hf : f env = some (.ok d)) (hz : ds.length < sizeLine) : sApp i f env = some (.nx (env.set i (some (true, .list (ds ++ [d]))))) := by
  simp [sApp, ownL, h, hf, hz]
@[simp] theorem aN_s : aN env = some (.ok []) := rfl
def consA (x : Option Res) (r : Option (Except Xc (List PyData))) : Option (Except Xc (List PyData)) := match x with
  | none => none
  | some (.error c) => some (.error c)
  | some (.ok d) => match r with
    | none => none
    | some (.error c) => some (.error c)
    | some (.ok ds) => some (.ok (d :: ds))
@[simp] theorem aC_s : aC f r env = consA (f env) (r env) := rfl
@[simp] theorem consA_ok {d ds} : consA (some (.ok d)) (some (.ok ds)) = some (.ok (d :: ds)) := rfl
def withA (r : Option (Except Xc (List PyData))) (k : List PyData → Option Res) : Option Res := match r with
  | none => none
  | some (.error c) => some (.error c)
  | some (.ok ds) => k ds
@[simp] theorem withA_ok {ds k} : withA (some (.ok ds)) k = k ds := rfl
@[simp] theorem liftA_s {op : List PyData → Option PyData} : liftA op r env = withA (r env) fun ds => (op ds).map .ok := rfl
def resO (o : Bool) (x : Option Rt) : Option Res := match x with
  | some (.ok (o', d)) => if o' = o then some (.ok d) else none
  | some (.error c) => some (.error c)
  | none => none
@[simp] theorem resO_ok {o d} : resO o (some (.ok (o, d))) = some (.ok d) := by simp [resO]
@[simp] theorem resO_er {o c} : resO o (some (.error c)) = some (.error c) := rfl
@[simp] theorem eCall_s {Φ : Fn} {o : Bool} : eCall Φ o r env = withA (r env) fun ds => resO o (Φ ds) := by
  unfold eCall withA resO
  cases r env with
  | none => rfl
  | some x =>
    cases x with
    | error c => rfl
    | ok ds => cases Φ ds with
      | none => rfl
      | some y => cases y <;> rfl
def resI (x : Option Rt) : Option Res := match x with
  | some (.ok (false, d)) => if imm d = true then some (.ok d) else none
  | some (.error c) => some (.error c)
  | _ => none
@[simp] theorem resI_ok {d} : resI (some (.ok (false, d))) = if imm d = true then some (.ok d) else none := rfl
@[simp] theorem eCallR_s {Φ : Fn} : eCallR Φ r env = withA (r env) fun ds => resI (Φ ds) := by
  unfold eCallR withA resI
  cases r env with
  | none => rfl
  | some x =>
    cases x with
    | error c => rfl
    | ok ds => rfl
@[simp] theorem noDi_l {ds} : noDi (.list ds) = true := rfl
@[simp] theorem noDi_t {ds} : noDi (.tuple ds) = true := rfl
@[simp] theorem noDi_i {i} : noDi (.int i) = true := rfl
@[simp] theorem noDi_n : noDi .none = true := rfl
@[simp] theorem noDi_s {x} : noDi (.str x) = true := rfl
@[simp] theorem noDi_b {x} : noDi (.bool x) = true := rfl
def noO (x : Option Res) : Option Res := match x with
  | some (.ok d) => if noDi d = true then some (.ok d) else none
  | r => r
@[simp] theorem noD_s : noD f env = noO (f env) := rfl
@[simp] theorem noO_ok {d} : noO (some (.ok d)) = if noDi d = true then some (.ok d) else none := rfl
def resM (x : Option Rt) : Option Res := match x with
  | some (.ok (_, d)) => some (.ok d)
  | some (.error c) => some (.error c)
  | none => none
@[simp] theorem resM_ok {o d} : resM (some (.ok (o, d))) = some (.ok d) := rfl
@[simp] theorem eCallM_s {Φ : Fn} : eCallM Φ r env = withA (r env) fun ds => resM (Φ ds) := by
  unfold eCallM withA resM
  cases r env with
  | none => rfl
  | some x =>
    cases x with
    | error c => rfl
    | ok ds => rfl
def outM (j : Nat) (env : DS.Env) (x : Option Rt) : Option Out := match x with
  | some (.ok (o, d)) => some (.nx (env.set j (some (o, d))))
  | some (.error c) => some (.xc c)
  | none => none
@[simp] theorem outM_ok {j : Nat} {o d} : outM j env (some (.ok (o, d))) = some (.nx (env.set j (some (o, d)))) := rfl
def withS (r : Option (Except Xc (List PyData))) (k : List PyData → Option Out) : Option Out := match r with
  | none => none
  | some (.error c) => some (.xc c)
  | some (.ok ds) => k ds
@[simp] theorem withS_ok {ds k} : withS (some (.ok ds)) k = k ds := rfl
@[simp] theorem sAsgM_s {j : Nat} {Φ : Fn} : sAsgM j Φ r env = withS (r env) fun ds => outM j env (Φ ds) := by
  unfold sAsgM withS outM
  cases r env with
  | none => rfl
  | some x =>
    cases x with
    | error c => rfl
    | ok ds => rfl
@[simp] theorem liftM_s {ok : PyData → Bool} : liftM ok op2 f g env = bindR (f env) fun x => if ok x = true then bindR (g env) fun y => (op2 x y).map .ok else none := rfl
@[simp] theorem okTup_t {ds} : okTup (.tuple ds) = true := rfl
@[simp] theorem okLst_l {ds} : okLst (.list ds) = true := rfl
def chB (x : Option PyData) (k : Option Res) : Option Res := match x with
  | some (.bool true) => k
  | some (.bool false) => some (.ok (.bool false))
  | _ => none
@[simp] theorem chB_b {b : Bool} {k} : chB (some (.bool b)) k = if b = true then k else some (.ok (.bool false)) := by cases b <;> rfl
@[simp] theorem lChain_s {o1 o2 : PyData → PyData → Option PyData} : lChain o1 o2 f g h env = bindR (f env) fun x => bindR (g env) fun y => chB (o1 x y) (bindR (h env) fun z => (o2 y z).map .ok) := by
  unfold lChain chB
  rfl
@[simp] theorem oN_s : oN env = some (.ok none) := rfl
def osO (x : Option Res) : Option (Except Xc (Option Int)) := match x with
  | none => none
  | some (.error c) => some (.error c)
  | some (.ok (.int i)) => some (.ok (some i))
  | some (.ok _) => none
@[simp] theorem oS_s : oS f env = osO (f env) := by unfold oS osO; rfl
@[simp] theorem osO_i {i} : osO (some (.ok (.int i))) = some (.ok (some i)) := rfl
def withO (x : Option (Except Xc (Option Int))) (k : Option Int → Option Res) : Option Res := match x with
  | none => none
  | some (.error c) => some (.error c)
  | some (.ok i) => k i
@[simp] theorem withO_ok {i k} : withO (some (.ok i)) k = k i := rfl
@[simp] theorem lift3_s {op3 : PyData → Option Int → Option Int → Option PyData} {l u : Ofn} : lift3 op3 f l u env = bindR (f env) fun x => withO (l env) fun lo => withO (u env) fun hi => (op3 x lo hi).map .ok := rfl
end
theorem g_of_run {n k : Nat} {g : Sf} {ds : List PyData} (h : runFn n k g ds = some (.ok (false, .bool true))) : g (startE n ds) = some (.rt false (.bool true)) := by
  unfold runFn at h
  split at h
  · split at h
    · rename_i b d e
      cases h
      exact e
    · cases h
    · cases h
    · cases h
  · cases h
@[simp] theorem iAdd_i {i j : Int} : iAdd (.int i) (.int j) = some (.int (i + j)) := rfl
@[simp] theorem iSub_i {i j : Int} : iSub (.int i) (.int j) = some (.int (i - j)) := rfl
@[simp] theorem iMod_i {i j : Int} : iMod (.int i) (.int j) = if 0 < j then some (.int (i % j)) else none := by
  show Option.map PyData.int (if 0 < j then some (i % j) else none) = _
  split <;> rfl
@[simp] theorem iDiv_i {i j : Int} : iDiv (.int i) (.int j) = if 0 < j ∧ j < 1073741824 then some (.int (i / j)) else none := by
  show Option.map PyData.int (if 0 < j ∧ j < 1073741824 then some (i / j) else none) = _
  split <;> rfl
theorem iMul_l {i j : Int} (h : -(2 ^ 64) < i ∧ i < 2 ^ 64) : iMul (.int i) (.int j) = some (.int (i * j)) := by
  show Option.map PyData.int (if (-(2 ^ 64) < i ∧ i < 2 ^ 64) ∨ (-(2 ^ 64) < j ∧ j < 2 ^ 64) then some (i * j) else none) = _
  rw [if_pos (.inl h)]
  rfl
theorem iMul_r {i j : Int} (h : -(2 ^ 64) < j ∧ j < 2 ^ 64) : iMul (.int i) (.int j) = some (.int (i * j)) := by
  show Option.map PyData.int (if (-(2 ^ 64) < i ∧ i < 2 ^ 64) ∨ (-(2 ^ 64) < j ∧ j < 2 ^ 64) then some (i * j) else none) = _
  rw [if_pos (.inr h)]
  rfl
@[simp] theorem dLt_i {i j : Int} : dLt (.int i) (.int j) = some (.bool (decide (i < j))) := rfl
@[simp] theorem dLe_i {i j : Int} : dLe (.int i) (.int j) = some (.bool (decide (i ≤ j))) := rfl
@[simp] theorem dGt_i {i j : Int} : dGt (.int i) (.int j) = some (.bool (decide (j < i))) := rfl
@[simp] theorem dGe_i {i j : Int} : dGe (.int i) (.int j) = some (.bool (decide (j ≤ i))) := rfl
@[simp] theorem dNeg_i {i : Int} : dNeg (.int i) = some (.int (-i)) := rfl
@[simp] theorem dLen_l {ds} : dLen (.list ds) = some (.int ds.length) := rfl
@[simp] theorem dLen_t {ds} : dLen (.tuple ds) = some (.int ds.length) := rfl
@[simp] theorem dLen_s {ns} : dLen (scrD ns) = some (.int ns.length) := by simp [dLen, scrD]
@[simp] theorem dInt_b {b : Bool} : dInt (.bool b) = some (.int (if b = true then 1 else 0)) := rfl
@[simp] theorem dInt_i {i : Int} : dInt (.int i) = some (.int i) := rfl
@[simp] theorem dIx_l {ds} {i : Int} : dIx (.list ds) (.int i) = atI ds i := rfl
@[simp] theorem dIx_t {ds} {i : Int} : dIx (.tuple ds) (.int i) = atI ds i := rfl
@[simp] theorem dIx_s {ns : List Int} {i : Int} : dIx (scrD ns) (.int i) = atI (ns.map PyData.int) i := rfl
@[simp] theorem dTup_s {ds : List PyData} : dTup ds = if ds.length ≤ 30 then some (.tuple ds) else none := rfl
@[simp] theorem dLst_s {ds : List PyData} : dLst ds = if ds.length ≤ 30 then some (.list ds) else none := rfl
theorem iCat_l {xs ys : List PyData} (h : xs.length + ys.length ≤ sizeLine) : iCat (.list xs) (.list ys) = some (.list (xs ++ ys)) := by
  unfold iCat
  simp [h]
@[simp] theorem dTup1_l {ds : List PyData} : dTup1 (.list ds) = some (.tuple ds) := rfl
@[simp] theorem dTup1_t {ds : List PyData} : dTup1 (.tuple ds) = some (.tuple ds) := rfl
@[simp] theorem dLst1_l {ds : List PyData} : dLst1 (.list ds) = some (.list ds) := rfl
@[simp] theorem dSl_t {ds : List PyData} {lo hi} : dSl (.tuple ds) lo hi = some (.tuple (cutD ds lo hi)) := rfl
@[simp] theorem dSlL_l {ds : List PyData} {lo hi} : dSlL (.list ds) lo hi = some (.list (cutD ds lo hi)) := rfl
@[simp] theorem dIsN_n {n : Bool} : dIsN n .none .none = some (.bool (!n)) := rfl
@[simp] theorem dIsN_i {n : Bool} {i} : dIsN n (.int i) .none = some (.bool n) := rfl
@[simp] theorem dIsN_t {n : Bool} {i} : dIsN n (.tuple i) .none = some (.bool n) := rfl
@[simp] theorem dIsN_l {n : Bool} {i} : dIsN n (.list i) .none = some (.bool n) := rfl
theorem atI_n {α : Type} {xs : List α} {i : Nat} (h : i < xs.length) : atI xs (i : Int) = some xs[i] := atI_nat (List.getElem?_eq_getElem h)
@[simp] theorem atI_0 {x : PyData} {xs : List PyData} : atI (x :: xs) 0 = some x := atI_n (xs := x :: xs) (i := 0) (by simp)
@[simp] theorem atI_1 {x y : PyData} {xs : List PyData} : atI (x :: y :: xs) 1 = some y := atI_n (xs := x :: y :: xs) (i := 1) (by simp)
@[simp] theorem atI_2 {x y z : PyData} {xs : List PyData} : atI (x :: y :: z :: xs) 2 = some z := atI_n (xs := x :: y :: z :: xs) (i := 2) (by simp)
theorem atI_map {α : Type} {f : α → PyData} {xs : List α} {i : Int} (h0 : 0 ≤ i) (h : i < xs.length) : atI (xs.map f) i = some (f (xs[i.toNat]'(by omega))) := by
  have e := atI_n (xs := xs.map f) (i := i.toNat) (by simp; omega)
  rw [Int.toNat_of_nonneg h0] at e
  rw [e]
  simp
theorem lcGo_eq {st : PyData → Option (Option PyData)} {α : Type} {e : α → PyData} {k : α → Option PyData} : ∀ {xs : List α}, (∀ x ∈ xs, st (e x) = some (k x)) → lcGo st (xs.map e) = some (xs.filterMap k)
  | [], _ => rfl
  | x :: xs, h => by
    have h1 := h x List.mem_cons_self
    have h2 := lcGo_eq (xs := xs) fun y hy => h y (List.mem_cons_of_mem _ hy)
    rw [List.map_cons, lcGo, h1]
    simp only [h2]
    cases hk : k x with
    | none => rw [List.filterMap_cons_none hk]
    | some y => rw [List.filterMap_cons_some hk]
theorem lcGo_map {st : PyData → Option (Option PyData)} {α : Type} {e : α → PyData} {k : α → PyData} {xs : List α} (h : ∀ x ∈ xs, st (e x) = some (some (k x))) : lcGo st (xs.map e) = some (xs.map k) := by
  rw [lcGo_eq h]
  simp
theorem eLC_of {src : Sfn} {bnd : Bn} {tst el : Ef} {vs : List Nat} {env : DS.Env} {ds ys : List PyData} (hs : src env = some (.ok ds)) (h : lcGo (lcStep bnd tst el (wipeE env vs)) ds = some ys) : eLC src bnd tst el vs env = some (.ok (.list ys)) := by
  unfold eLC
  rw [hs]
  simp [h]
/-- what one turn tells -/
theorem step_yes {bnd : Bn} {el : Ef} {env env' : DS.Env} {d y : PyData} (h1 : bnd d env = some env') (h2 : el env' = some (.ok y)) : lcStep bnd tYesE el env d = some (some y) := by
  simp [lcStep, h1, h2, tYesE]
theorem step_if {bnd : Bn} {tst el : Ef} {env env' : DS.Env} {d y : PyData} {b : Bool} (h1 : bnd d env = some env') (ht : tst env' = some (.ok (.bool b))) (h2 : b = true → el env' = some (.ok y)) : lcStep bnd tst el env d = some (if b = true then some y else none) := by
  cases b with
  | true => simp [lcStep, h1, ht, h2 rfl]
  | false => simp [lcStep, h1, ht]
theorem rangeD_nat (n : Nat) : rangeD (n : Int) = (List.range n).map fun i => PyData.int ((i : Nat) : Int) := by simp [rangeD]
@[simp] theorem wipeE_n {env : DS.Env} : wipeE env [] = env := rfl
@[simp] theorem wipeE_c {env : DS.Env} {v : Nat} {vs : List Nat} : wipeE env (v :: vs) = (wipeE env vs).set v none := rfl
theorem sRng_of {f : Ef} {env : DS.Env} {n : Nat} (h : f env = some (.ok (.int n))) (hn : n ≤ 16777216) : sRng f env = some (.ok ((List.range n).map fun i => PyData.int ((i : Nat) : Int))) := by
  simp only [sRng, h]
  rw [if_pos (by omega), rangeD_nat]
theorem sLst_of {f : Ef} {env : DS.Env} {ds : List PyData} (h : f env = some (.ok (.list ds))) : sLst f env = some (.ok ds) := by simp [sLst, h]
theorem sTup_of {f : Ef} {env : DS.Env} {ds : List PyData} (h : f env = some (.ok (.tuple ds))) (hn : ds.length ≤ sizeLine) : sTup f env = some (.ok ds) := by simp [sTup, h, hn]
theorem sFor_of {src : Sfn} {bnd : Bn} {body : Sf} {env : DS.Env} {ds : List PyData} (h : src env = some (.ok ds)) : sFor src bnd body env = forGo bnd body ds env := by simp [sFor, h]
theorem forGo_c {bnd : Bn} {body : Sf} {d : PyData} {ds : List PyData} {env env1 : DS.Env} (h : bnd d env = some env1) : forGo bnd body (d :: ds) env = (match body env1 with | some (.nx e) => forGo bnd body ds e | some (.ct e) => forGo bnd body ds e | some (.bk e) => some (.nx e) | some (.rt o d) => some (.rt o d) | _ => none) := by
  rw [forGo]
  simp only [h]
  try rfl
theorem forGo_nx {bnd : Bn} {body : Sf} {d : PyData} {ds : List PyData} {env env1 env2 : DS.Env} (h : bnd d env = some env1) (hb : body env1 = some (.nx env2)) : forGo bnd body (d :: ds) env = forGo bnd body ds env2 := by
  rw [forGo_c h, hb]
theorem forGo_ct {bnd : Bn} {body : Sf} {d : PyData} {ds : List PyData} {env env1 env2 : DS.Env} (h : bnd d env = some env1) (hb : body env1 = some (.ct env2)) : forGo bnd body (d :: ds) env = forGo bnd body ds env2 := by
  rw [forGo_c h, hb]
theorem forGo_rt {bnd : Bn} {body : Sf} {d : PyData} {ds : List PyData} {env env1 : DS.Env} {o : Bool} {x : PyData} (h : bnd d env = some env1) (hb : body env1 = some (.rt o x)) : forGo bnd body (d :: ds) env = some (.rt o x) := by
  rw [forGo_c h, hb]
@[simp] theorem forGo_0 {bnd : Bn} {body : Sf} {env : DS.Env} : forGo bnd body [] env = some (.nx env) := rfl
end DS
namespace DS
open PySem PySem.Spec PyProof.Rows L2
class En (α : Type) [DecidableEq α] where
  d : α → PyData
  eqv : ∀ a b, PyData.eqv (d a) (d b) = decide (a = b)
  lay : ∀ a, (d a).canLay0 = true
  dep : ∀ a, (d a).depth ≤ 8
theorem beq_dec {α : Type} [BEq α] [LawfulBEq α] [DecidableEq α] (a b : α) : (a == b) = decide (a = b) := by
  rw [Bool.eq_iff_iff, beq_iff_eq, decide_eq_true_eq]
section
variable {α : Type} [DecidableEq α] [En α]
theorem layAll_map : ∀ xs : List α, PyData.canLayAll0 (xs.map En.d) = true
  | [] => rfl
  | x :: xs => by
    rw [List.map_cons, PyData.canLayAll0, En.lay x, layAll_map xs]
    rfl
theorem depAll_map : ∀ xs : List α, PyData.depthAll (xs.map En.d) ≤ 8
  | [] => Nat.zero_le _
  | x :: xs => by
    rw [List.map_cons, PyData.depthAll]
    exact Nat.max_le.mpr ⟨En.dep x, depAll_map xs⟩
theorem eqvAll_en : ∀ xs ys : List α, PyData.eqvAll (xs.map En.d) (ys.map En.d) = decide (xs = ys)
  | [], [] => by simp only [List.map_nil, PyData.eqvAll, decide_true]
  | [], _ :: _ => by simp [PyData.eqvAll]
  | _ :: _, [] => by simp [PyData.eqvAll]
  | x :: xs, y :: ys => by
    rw [List.map_cons, List.map_cons, PyData.eqvAll, En.eqv x y, eqvAll_en xs ys, ← Bool.decide_and]
    exact decide_eq_decide.mpr (by rw [List.cons.injEq])
theorem sh_en (a : α) : SeqAt.shaped (En.d a) = true := by
  unfold SeqAt.shaped
  rw [En.lay a, Bool.true_and]
  exact decide_eq_true (Nat.le_trans (En.dep a) (by decide))
theorem sh_tup (xs : List α) : SeqAt.shaped (.tuple (xs.map En.d)) = true := by
  unfold SeqAt.shaped
  rw [PyData.canLay0, layAll_map xs, Bool.true_and]
  refine decide_eq_true ?_
  rw [PyData.depth]
  have := depAll_map xs
  omega
theorem sh_lst (xs : List α) : SeqAt.shaped (.list (xs.map En.d)) = true := by
  unfold SeqAt.shaped
  rw [PyData.canLay0, layAll_map xs, Bool.true_and]
  refine decide_eq_true ?_
  rw [PyData.depth]
  have := depAll_map xs
  omega
@[simp] theorem dEq_en {n : Bool} (a b : α) : dEq n (En.d a) (En.d b) = some (.bool (if n then !decide (a = b) else decide (a = b))) := by
  unfold dEq
  rw [sh_en a, sh_en b, Bool.and_self, if_pos rfl, En.eqv]
theorem dEq_tupE {n : Bool} (xs ys : List α) : dEq n (.tuple (xs.map En.d)) (.tuple (ys.map En.d)) = some (.bool (if n then !decide (xs = ys) else decide (xs = ys))) := by
  unfold dEq
  rw [sh_tup xs, sh_tup ys, Bool.and_self, if_pos rfl, PyData.eqv, eqvAll_en]
theorem dEq_lstE {n : Bool} (xs ys : List α) : dEq n (.list (xs.map En.d)) (.list (ys.map En.d)) = some (.bool (if n then !decide (xs = ys) else decide (xs = ys))) := by
  unfold dEq
  rw [sh_lst xs, sh_lst ys, Bool.and_self, if_pos rfl, PyData.eqv, eqvAll_en]
theorem any_en (xs : List α) (a : α) : ((xs.map En.d).any fun z => PyData.eqv z (En.d a)) = decide (a ∈ xs) := by
  rw [Bool.eq_iff_iff, List.any_eq_true, decide_eq_true_eq]
  constructor
  · rintro ⟨z, hz, e⟩
    obtain ⟨x, hx, rfl⟩ := List.mem_map.mp hz
    rw [En.eqv, decide_eq_true_eq] at e
    exact e ▸ hx
  · intro h
    exact ⟨En.d a, List.mem_map.mpr ⟨a, h, rfl⟩, by rw [En.eqv, decide_eq_true_eq]⟩
@[simp] theorem dIn_tupE {n : Bool} (a : α) (xs : List α) : dIn n (En.d a) (.tuple (xs.map En.d)) = some (.bool (if n then !decide (a ∈ xs) else decide (a ∈ xs))) := by
  unfold dIn
  simp only [sh_en a, sh_tup xs, any_en, Bool.and_self, if_pos]
@[simp] theorem dIn_lstE {n : Bool} (a : α) (xs : List α) : dIn n (En.d a) (.list (xs.map En.d)) = some (.bool (if n then !decide (a ∈ xs) else decide (a ∈ xs))) := by
  unfold dIn
  simp only [sh_en a, sh_lst xs, any_en, Bool.and_self, if_pos]
theorem cnt_en (xs : List α) (a : α) : ((xs.map En.d).countP fun z => PyData.eqv z (En.d a)) = xs.count a := by
  rw [List.countP_map]
  unfold List.count
  congr 1
  funext x
  show PyData.eqv (En.d x) (En.d a) = (x == a)
  rw [En.eqv, beq_dec]
@[simp] theorem dCnt_en (xs : List α) (a : α) : dCnt (.tuple (xs.map En.d)) (En.d a) = some (.int (xs.count a : Nat)) := by
  unfold dCnt
  simp only [sh_en a, sh_tup xs, cnt_en, Bool.and_self, if_pos]
@[simp] theorem dCntL_en (xs : List α) (a : α) : dCntL (.list (xs.map En.d)) (En.d a) = some (.int (xs.count a : Nat)) := by
  unfold dCntL
  simp only [sh_en a, sh_lst xs, cnt_en, Bool.and_self, if_pos]
end
instance : En Int where
  d := .int
  eqv a b := by simp only [PyData.eqv]; exact beq_dec a b
  lay _ := rfl
  dep _ := Nat.zero_le _
@[simp] theorem dEq_i {n : Bool} (a b : Int) : dEq n (.int a) (.int b) = some (.bool (if n then !decide (a = b) else decide (a = b))) := dEq_en a b
@[simp] theorem ints_map (ns : List Int) : ints? (ns.map PyData.int) = some ns := by
  induction ns with
  | nil => rfl
  | cons n ns ih => rw [List.map_cons, ints?, ih]; rfl
@[simp] theorem dSum_i (ns : List Int) : dSum (.list (ns.map PyData.int)) = some (.int ns.sum) := by rw [dSum, ints_map]; rfl
@[simp] theorem bools_map (ns : List Bool) : bools? (ns.map PyData.bool) = some ns := by
  induction ns with
  | nil => rfl
  | cons n ns ih => rw [List.map_cons, bools?, ih]; rfl
@[simp] theorem dAll_b (ns : List Bool) : dAll (.list (ns.map PyData.bool)) = some (.bool (ns.all fun b => b)) := by rw [dAll, bools_map]; rfl
theorem dEq_str {n b : Bool} {x y : Str} (hx : PyData.strOk x = true) (hy : PyData.strOk y = true) (h : (x == y) = b) : dEq n (.str x) (.str y) = some (.bool (if n then !b else b)) := by
  have e : ∀ z : Str, PyData.strOk z = true → SeqAt.shaped (.str z) = true := fun z hz => by
    unfold SeqAt.shaped
    rw [PyData.canLay0, hz, Bool.true_and]
    exact decide_eq_true (Nat.zero_le _)
  unfold dEq
  rw [e x hx, e y hy, Bool.and_self, if_pos rfl, PyData.eqv, h]
theorem dIn_str2 {n b c : Bool} {x y z : Str} (hx : PyData.strOk x = true) (hy : PyData.strOk y = true) (hz : PyData.strOk z = true) (h : (y == x) = b) (h2 : (z == x) = c) : dIn n (.str x) (.tuple [.str y, .str z]) = some (.bool (if n then !(b || c) else b || c)) := by
  have e : SeqAt.shaped (.str x) = true := by
    unfold SeqAt.shaped
    rw [PyData.canLay0, hx, Bool.true_and]
    exact decide_eq_true (Nat.zero_le _)
  have e2 : SeqAt.shaped (.tuple [.str y, .str z]) = true := by
    unfold SeqAt.shaped
    rw [PyData.canLay0, PyData.canLayAll0, PyData.canLayAll0, PyData.canLayAll0, PyData.canLay0, PyData.canLay0, hy, hz]
    simp [PyData.depth, PyData.depthAll]
  unfold dIn
  simp only [e, e2, Bool.and_self, if_pos, List.any_cons, List.any_nil, Bool.or_false, PyData.eqv, h, h2]
@[simp] theorem eq_lane_lane {n : Bool} : dEq n (.str "lane") (.str "lane") = some (.bool (if n then false else true)) := dEq_str (b := true) (by decide +kernel) (by decide +kernel) (by decide +kernel)
@[simp] theorem eq_lane_side {n : Bool} : dEq n (.str "lane") (.str "side") = some (.bool (if n then true else false)) := dEq_str (b := false) (by decide +kernel) (by decide +kernel) (by decide +kernel)
@[simp] theorem eq_lane_out {n : Bool} : dEq n (.str "lane") (.str "out") = some (.bool (if n then true else false)) := dEq_str (b := false) (by decide +kernel) (by decide +kernel) (by decide +kernel)
@[simp] theorem eq_lane_go {n : Bool} : dEq n (.str "lane") (.str "go") = some (.bool (if n then true else false)) := dEq_str (b := false) (by decide +kernel) (by decide +kernel) (by decide +kernel)
@[simp] theorem eq_lane_aside {n : Bool} : dEq n (.str "lane") (.str "aside") = some (.bool (if n then true else false)) := dEq_str (b := false) (by decide +kernel) (by decide +kernel) (by decide +kernel)
@[simp] theorem eq_lane_on {n : Bool} : dEq n (.str "lane") (.str "on") = some (.bool (if n then true else false)) := dEq_str (b := false) (by decide +kernel) (by decide +kernel) (by decide +kernel)
@[simp] theorem eq_lane_right {n : Bool} : dEq n (.str "lane") (.str "right") = some (.bool (if n then true else false)) := dEq_str (b := false) (by decide +kernel) (by decide +kernel) (by decide +kernel)
@[simp] theorem eq_lane_left {n : Bool} : dEq n (.str "lane") (.str "left") = some (.bool (if n then true else false)) := dEq_str (b := false) (by decide +kernel) (by decide +kernel) (by decide +kernel)
@[simp] theorem eq_side_lane {n : Bool} : dEq n (.str "side") (.str "lane") = some (.bool (if n then true else false)) := dEq_str (b := false) (by decide +kernel) (by decide +kernel) (by decide +kernel)
@[simp] theorem eq_side_side {n : Bool} : dEq n (.str "side") (.str "side") = some (.bool (if n then false else true)) := dEq_str (b := true) (by decide +kernel) (by decide +kernel) (by decide +kernel)
@[simp] theorem eq_side_out {n : Bool} : dEq n (.str "side") (.str "out") = some (.bool (if n then true else false)) := dEq_str (b := false) (by decide +kernel) (by decide +kernel) (by decide +kernel)
@[simp] theorem eq_side_go {n : Bool} : dEq n (.str "side") (.str "go") = some (.bool (if n then true else false)) := dEq_str (b := false) (by decide +kernel) (by decide +kernel) (by decide +kernel)
@[simp] theorem eq_side_aside {n : Bool} : dEq n (.str "side") (.str "aside") = some (.bool (if n then true else false)) := dEq_str (b := false) (by decide +kernel) (by decide +kernel) (by decide +kernel)
@[simp] theorem eq_side_on {n : Bool} : dEq n (.str "side") (.str "on") = some (.bool (if n then true else false)) := dEq_str (b := false) (by decide +kernel) (by decide +kernel) (by decide +kernel)
@[simp] theorem eq_side_right {n : Bool} : dEq n (.str "side") (.str "right") = some (.bool (if n then true else false)) := dEq_str (b := false) (by decide +kernel) (by decide +kernel) (by decide +kernel)
@[simp] theorem eq_side_left {n : Bool} : dEq n (.str "side") (.str "left") = some (.bool (if n then true else false)) := dEq_str (b := false) (by decide +kernel) (by decide +kernel) (by decide +kernel)
@[simp] theorem eq_out_lane {n : Bool} : dEq n (.str "out") (.str "lane") = some (.bool (if n then true else false)) := dEq_str (b := false) (by decide +kernel) (by decide +kernel) (by decide +kernel)
@[simp] theorem eq_out_side {n : Bool} : dEq n (.str "out") (.str "side") = some (.bool (if n then true else false)) := dEq_str (b := false) (by decide +kernel) (by decide +kernel) (by decide +kernel)
@[simp] theorem eq_out_out {n : Bool} : dEq n (.str "out") (.str "out") = some (.bool (if n then false else true)) := dEq_str (b := true) (by decide +kernel) (by decide +kernel) (by decide +kernel)
@[simp] theorem eq_out_go {n : Bool} : dEq n (.str "out") (.str "go") = some (.bool (if n then true else false)) := dEq_str (b := false) (by decide +kernel) (by decide +kernel) (by decide +kernel)
@[simp] theorem eq_out_aside {n : Bool} : dEq n (.str "out") (.str "aside") = some (.bool (if n then true else false)) := dEq_str (b := false) (by decide +kernel) (by decide +kernel) (by decide +kernel)
@[simp] theorem eq_out_on {n : Bool} : dEq n (.str "out") (.str "on") = some (.bool (if n then true else false)) := dEq_str (b := false) (by decide +kernel) (by decide +kernel) (by decide +kernel)
@[simp] theorem eq_out_right {n : Bool} : dEq n (.str "out") (.str "right") = some (.bool (if n then true else false)) := dEq_str (b := false) (by decide +kernel) (by decide +kernel) (by decide +kernel)
@[simp] theorem eq_out_left {n : Bool} : dEq n (.str "out") (.str "left") = some (.bool (if n then true else false)) := dEq_str (b := false) (by decide +kernel) (by decide +kernel) (by decide +kernel)
@[simp] theorem eq_go_lane {n : Bool} : dEq n (.str "go") (.str "lane") = some (.bool (if n then true else false)) := dEq_str (b := false) (by decide +kernel) (by decide +kernel) (by decide +kernel)
@[simp] theorem eq_go_side {n : Bool} : dEq n (.str "go") (.str "side") = some (.bool (if n then true else false)) := dEq_str (b := false) (by decide +kernel) (by decide +kernel) (by decide +kernel)
@[simp] theorem eq_go_out {n : Bool} : dEq n (.str "go") (.str "out") = some (.bool (if n then true else false)) := dEq_str (b := false) (by decide +kernel) (by decide +kernel) (by decide +kernel)
@[simp] theorem eq_go_go {n : Bool} : dEq n (.str "go") (.str "go") = some (.bool (if n then false else true)) := dEq_str (b := true) (by decide +kernel) (by decide +kernel) (by decide +kernel)
@[simp] theorem eq_go_aside {n : Bool} : dEq n (.str "go") (.str "aside") = some (.bool (if n then true else false)) := dEq_str (b := false) (by decide +kernel) (by decide +kernel) (by decide +kernel)
@[simp] theorem eq_go_on {n : Bool} : dEq n (.str "go") (.str "on") = some (.bool (if n then true else false)) := dEq_str (b := false) (by decide +kernel) (by decide +kernel) (by decide +kernel)
@[simp] theorem eq_go_right {n : Bool} : dEq n (.str "go") (.str "right") = some (.bool (if n then true else false)) := dEq_str (b := false) (by decide +kernel) (by decide +kernel) (by decide +kernel)
@[simp] theorem eq_go_left {n : Bool} : dEq n (.str "go") (.str "left") = some (.bool (if n then true else false)) := dEq_str (b := false) (by decide +kernel) (by decide +kernel) (by decide +kernel)
@[simp] theorem eq_aside_lane {n : Bool} : dEq n (.str "aside") (.str "lane") = some (.bool (if n then true else false)) := dEq_str (b := false) (by decide +kernel) (by decide +kernel) (by decide +kernel)
@[simp] theorem eq_aside_side {n : Bool} : dEq n (.str "aside") (.str "side") = some (.bool (if n then true else false)) := dEq_str (b := false) (by decide +kernel) (by decide +kernel) (by decide +kernel)
@[simp] theorem eq_aside_out {n : Bool} : dEq n (.str "aside") (.str "out") = some (.bool (if n then true else false)) := dEq_str (b := false) (by decide +kernel) (by decide +kernel) (by decide +kernel)
@[simp] theorem eq_aside_go {n : Bool} : dEq n (.str "aside") (.str "go") = some (.bool (if n then true else false)) := dEq_str (b := false) (by decide +kernel) (by decide +kernel) (by decide +kernel)
@[simp] theorem eq_aside_aside {n : Bool} : dEq n (.str "aside") (.str "aside") = some (.bool (if n then false else true)) := dEq_str (b := true) (by decide +kernel) (by decide +kernel) (by decide +kernel)
@[simp] theorem eq_aside_on {n : Bool} : dEq n (.str "aside") (.str "on") = some (.bool (if n then true else false)) := dEq_str (b := false) (by decide +kernel) (by decide +kernel) (by decide +kernel)
@[simp] theorem eq_aside_right {n : Bool} : dEq n (.str "aside") (.str "right") = some (.bool (if n then true else false)) := dEq_str (b := false) (by decide +kernel) (by decide +kernel) (by decide +kernel)
@[simp] theorem eq_aside_left {n : Bool} : dEq n (.str "aside") (.str "left") = some (.bool (if n then true else false)) := dEq_str (b := false) (by decide +kernel) (by decide +kernel) (by decide +kernel)
@[simp] theorem eq_on_lane {n : Bool} : dEq n (.str "on") (.str "lane") = some (.bool (if n then true else false)) := dEq_str (b := false) (by decide +kernel) (by decide +kernel) (by decide +kernel)
@[simp] theorem eq_on_side {n : Bool} : dEq n (.str "on") (.str "side") = some (.bool (if n then true else false)) := dEq_str (b := false) (by decide +kernel) (by decide +kernel) (by decide +kernel)
@[simp] theorem eq_on_out {n : Bool} : dEq n (.str "on") (.str "out") = some (.bool (if n then true else false)) := dEq_str (b := false) (by decide +kernel) (by decide +kernel) (by decide +kernel)
@[simp] theorem eq_on_go {n : Bool} : dEq n (.str "on") (.str "go") = some (.bool (if n then true else false)) := dEq_str (b := false) (by decide +kernel) (by decide +kernel) (by decide +kernel)
@[simp] theorem eq_on_aside {n : Bool} : dEq n (.str "on") (.str "aside") = some (.bool (if n then true else false)) := dEq_str (b := false) (by decide +kernel) (by decide +kernel) (by decide +kernel)
@[simp] theorem eq_on_on {n : Bool} : dEq n (.str "on") (.str "on") = some (.bool (if n then false else true)) := dEq_str (b := true) (by decide +kernel) (by decide +kernel) (by decide +kernel)
@[simp] theorem eq_on_right {n : Bool} : dEq n (.str "on") (.str "right") = some (.bool (if n then true else false)) := dEq_str (b := false) (by decide +kernel) (by decide +kernel) (by decide +kernel)
@[simp] theorem eq_on_left {n : Bool} : dEq n (.str "on") (.str "left") = some (.bool (if n then true else false)) := dEq_str (b := false) (by decide +kernel) (by decide +kernel) (by decide +kernel)
@[simp] theorem eq_right_lane {n : Bool} : dEq n (.str "right") (.str "lane") = some (.bool (if n then true else false)) := dEq_str (b := false) (by decide +kernel) (by decide +kernel) (by decide +kernel)
@[simp] theorem eq_right_side {n : Bool} : dEq n (.str "right") (.str "side") = some (.bool (if n then true else false)) := dEq_str (b := false) (by decide +kernel) (by decide +kernel) (by decide +kernel)
@[simp] theorem eq_right_out {n : Bool} : dEq n (.str "right") (.str "out") = some (.bool (if n then true else false)) := dEq_str (b := false) (by decide +kernel) (by decide +kernel) (by decide +kernel)
@[simp] theorem eq_right_go {n : Bool} : dEq n (.str "right") (.str "go") = some (.bool (if n then true else false)) := dEq_str (b := false) (by decide +kernel) (by decide +kernel) (by decide +kernel)
@[simp] theorem eq_right_aside {n : Bool} : dEq n (.str "right") (.str "aside") = some (.bool (if n then true else false)) := dEq_str (b := false) (by decide +kernel) (by decide +kernel) (by decide +kernel)
@[simp] theorem eq_right_on {n : Bool} : dEq n (.str "right") (.str "on") = some (.bool (if n then true else false)) := dEq_str (b := false) (by decide +kernel) (by decide +kernel) (by decide +kernel)
@[simp] theorem eq_right_right {n : Bool} : dEq n (.str "right") (.str "right") = some (.bool (if n then false else true)) := dEq_str (b := true) (by decide +kernel) (by decide +kernel) (by decide +kernel)
@[simp] theorem eq_right_left {n : Bool} : dEq n (.str "right") (.str "left") = some (.bool (if n then true else false)) := dEq_str (b := false) (by decide +kernel) (by decide +kernel) (by decide +kernel)
@[simp] theorem eq_left_lane {n : Bool} : dEq n (.str "left") (.str "lane") = some (.bool (if n then true else false)) := dEq_str (b := false) (by decide +kernel) (by decide +kernel) (by decide +kernel)
@[simp] theorem eq_left_side {n : Bool} : dEq n (.str "left") (.str "side") = some (.bool (if n then true else false)) := dEq_str (b := false) (by decide +kernel) (by decide +kernel) (by decide +kernel)
@[simp] theorem eq_left_out {n : Bool} : dEq n (.str "left") (.str "out") = some (.bool (if n then true else false)) := dEq_str (b := false) (by decide +kernel) (by decide +kernel) (by decide +kernel)
@[simp] theorem eq_left_go {n : Bool} : dEq n (.str "left") (.str "go") = some (.bool (if n then true else false)) := dEq_str (b := false) (by decide +kernel) (by decide +kernel) (by decide +kernel)
@[simp] theorem eq_left_aside {n : Bool} : dEq n (.str "left") (.str "aside") = some (.bool (if n then true else false)) := dEq_str (b := false) (by decide +kernel) (by decide +kernel) (by decide +kernel)
@[simp] theorem eq_left_on {n : Bool} : dEq n (.str "left") (.str "on") = some (.bool (if n then true else false)) := dEq_str (b := false) (by decide +kernel) (by decide +kernel) (by decide +kernel)
@[simp] theorem eq_left_right {n : Bool} : dEq n (.str "left") (.str "right") = some (.bool (if n then true else false)) := dEq_str (b := false) (by decide +kernel) (by decide +kernel) (by decide +kernel)
@[simp] theorem eq_left_left {n : Bool} : dEq n (.str "left") (.str "left") = some (.bool (if n then false else true)) := dEq_str (b := true) (by decide +kernel) (by decide +kernel) (by decide +kernel)
@[simp] theorem in_lane : dIn false (.str "lane") (.tuple [.str "lane", .str "side"]) = some (.bool true) := dIn_str2 (b := true) (c := false) (by decide +kernel) (by decide +kernel) (by decide +kernel) (by decide +kernel) (by decide +kernel)
@[simp] theorem in_side : dIn false (.str "side") (.tuple [.str "lane", .str "side"]) = some (.bool true) := dIn_str2 (b := false) (c := true) (by decide +kernel) (by decide +kernel) (by decide +kernel) (by decide +kernel) (by decide +kernel)
@[simp] theorem in_right : dIn false (.str "right") (.tuple [.str "right", .str "left"]) = some (.bool true) := dIn_str2 (b := true) (c := false) (by decide +kernel) (by decide +kernel) (by decide +kernel) (by decide +kernel) (by decide +kernel)
@[simp] theorem in_left : dIn false (.str "left") (.tuple [.str "right", .str "left"]) = some (.bool true) := dIn_str2 (b := false) (c := true) (by decide +kernel) (by decide +kernel) (by decide +kernel) (by decide +kernel) (by decide +kernel)
inductive Spot where
  | out | lane (p : Int) | side (p : Int)
  deriving DecidableEq, Repr
def Spot.d : Spot → PyData
  | .out => .tuple [.str "out"]
  | .lane p => .tuple [.str "lane", .int p]
  | .side p => .tuple [.str "side", .int p]
theorem str_eqv (x y : Str) : PyData.eqv (.str x) (.str y) = (x == y) := by simp only [PyData.eqv]
theorem int_eqv (x y : Int) : PyData.eqv (.int x) (.int y) = (x == y) := by simp only [PyData.eqv]
theorem e_lo : (("lane" : Str) == "out") = false := by decide +kernel
theorem e_ls : (("lane" : Str) == "side") = false := by decide +kernel
theorem e_sl : (("side" : Str) == "lane") = false := by decide +kernel
theorem e_so : (("side" : Str) == "out") = false := by decide +kernel
theorem e_os : (("out" : Str) == "side") = false := by decide +kernel
theorem e_ol : (("out" : Str) == "lane") = false := by decide +kernel
theorem n_ls : ¬ (("lane" : Str) = "side") := by decide +kernel
theorem n_sl : ¬ (("side" : Str) = "lane") := by decide +kernel
theorem k_out : PyData.canLay0 (.tuple [.str "out"]) = true := by decide +kernel
theorem k_lane : PyData.canLay0 (.str "lane") = true := by decide +kernel
theorem k_side : PyData.canLay0 (.str "side") = true := by decide +kernel
theorem Spot.eqv_d (a b : Spot) : PyData.eqv a.d b.d = decide (a = b) := by
  cases a <;> cases b <;> simp [Spot.d, PyData.eqv, PyData.eqvAll, e_lo, e_ls, e_sl, e_so, e_os, e_ol, n_ls, n_sl, beq_dec]
instance : En Spot where
  d := Spot.d
  eqv := Spot.eqv_d
  lay a := by cases a <;> simp [Spot.d, PyData.canLay0, PyData.canLayAll0] <;> decide +kernel
  dep a := by cases a <;> simp [Spot.d, PyData.depth, PyData.depthAll]
end DS
namespace DS
open PySem PySem.Spec PyProof.Rows L2 PySem.W PyProof.V PySem.Calls
section
variable {prog : Program} {w : World} {K : Type} [DecidableEq K] {knd : HeapKind prog w K} {A : Around} {E : Value → Shared → Prop} {s : Shared}
theorem atKey_at : ∀ {xs : List (K × Addr × Value)} {j : Nat} {k : K} {p : Addr × Value}, (xs.map (·.1)).Nodup → xs[j]? = some (k, p) → atKey xs k = some p
  | [], _, _, _, _, h => by simp at h
  | x :: xs, 0, k, p, _, h => by
    rw [List.getElem?_cons_zero, Option.some.injEq] at h
    subst h
    simp [atKey]
  | x :: xs, j + 1, k, p, nd, h => by
    rw [List.getElem?_cons_succ] at h
    rw [List.map_cons, List.nodup_cons] at nd
    have hne : x.1 ≠ k := fun e => nd.1 (e ▸ List.mem_map.mpr ⟨(k, p), List.mem_of_getElem? h, rfl⟩)
    have ih := atKey_at nd.2 h
    unfold atKey at ih ⊢
    rw [List.find?_cons_of_neg (by simpa using hne)]
    exact ih
theorem at_atKey {xs : List (K × Addr × Value)} {k : K} {p : Addr × Value} (h : atKey xs k = some p) : ∃ j : Nat, xs[j]? = some (k, p) := by
  unfold atKey at h
  obtain ⟨x, hx, rfl⟩ := Option.map_eq_some_iff.mp h
  have hm := List.mem_of_find?_eq_some hx
  have hk := of_decide_eq_true (List.find?_some (p := fun x : K × Addr × Value => decide (x.1 = k)) hx)
  obtain ⟨j, hj⟩ := List.mem_iff_getElem?.mp hm
  exact ⟨j, hj.trans (congrArg some (by rw [← hk]))⟩
inductive HitsN {K : Type} [DecidableEq K] (A : Around) (s : Shared) (kb : List (K × Addr × Value)) : List (K × Addr × Value) → Bool → Prop
  | nil : HitsN A s kb [] true
  | miss {k : K} {c : Addr} {v : Value} {r : List (K × Addr × Value)} : atKey kb k = none → HitsN A s kb ((k, c, v) :: r) false
  | hit {k : K} {c : Addr} {v : Value} {y : Addr × Value} {r : List (K × Addr × Value)} {e b : Bool} : atKey kb k = some y → SeqAt.EqAt A s v y.2 e → HitsN A s kb r b → HitsN A s kb ((k, c, v) :: r) (e && b)
theorem HitsN.inv {kb : List (K × Addr × Value)} {k : K} {c : Addr} {v : Value} {r : List (K × Addr × Value)} {b : Bool} (h : HitsN A s kb ((k, c, v) :: r) b) :
    (atKey kb k = none ∧ b = false) ∨ ∃ y e b', atKey kb k = some y ∧ SeqAt.EqAt A s v y.2 e ∧ HitsN A s kb r b' ∧ b = (e && b') := by
  cases h with
  | miss hn => exact .inl ⟨hn, rfl⟩
  | hit hy he hr => exact .inr ⟨_, _, _, hy, he, hr, rfl⟩
theorem samePairsN {nm : String} {a b : Addr} {ka kb : List (K × Addr × Value)} {r : Bool} {Q : Bool → Shared → Prop} (hu : knd.room A) (ha : (a == sysModules) = false) (hb : (b == sysModules) = false)
    (da : s.heap.DictOfH knd a ka) (db : s.heap.DictOfH knd b kb) (hits : ka.length = kb.length → HitsN A s kb ka r) (h : Q (ka.length == kb.length && r) s) :
    wpAny (model prog w) A (Builtin.Dict.samePairs nm a b) Q E s := by
  obtain ⟨oa, es, ep, hoa, _, hda, hea, hka, _⟩ := da
  obtain ⟨ob, es', ep', hob, _, hdb, heb, hkb, hnb⟩ := db
  have hla : ka.length = es.size := (size_of_entries hea).symm
  have hlb : kb.length = es'.size := (size_of_entries heb).symm
  rw [hla, hlb] at h
  unfold Builtin.Dict.samePairs Builtin.Dict.showsAll
  rw [if_neg (show ¬ (a == sysModules) = true by rw [ha]; exact Bool.false_ne_true), if_neg (show ¬ (b == sysModules) = true by rw [hb]; exact Bool.false_ne_true)]
  refine wpAny_bind (wpAny_pure (wpAny_bind (wpAny_pure ?_)))
  refine wpAny_bind (wpAny_dictEntries hoa hda ?_)
  dsimp only
  refine wpAny_bind (wpAny_dictEntries hob hdb ?_)
  by_cases hsz : es.size = es'.size
  case neg =>
    rw [if_pos (by simpa using hsz)]
    have hbf : (es.size == es'.size) = false := by simpa using hsz
    rw [hbf, Bool.false_and] at h
    exact wpAny_bind (wpAny_rule (wpAny_pure h))
  case pos =>
    have h' : Q r s := by simpa [hsz] using h
    have hits' := hits (by rw [hla, hlb]; exact hsz)
    rw [if_neg (by rw [hsz]; simp)]
    refine wpAny_bind (wpAny_dictEpoch hoa hda ?_)
    refine wpAny_bind ?_
    rw [Std.Legacy.Range.forIn_eq_forIn_range']
    simp only [Std.Legacy.Range.size, Nat.sub_zero, Nat.add_sub_cancel, Nat.div_one]
    refine wpAny_forIn_list _
      (fun rest q s' => s' = s ∧ q = (none, ()) ∧ ∃ i, rest = List.range' i (es.size - i) ∧ i ≤ es.size ∧ HitsN A s kb (ka.drop i) r)
      _ ?_ ?_ _ _ ⟨rfl, rfl, 0, by simp, Nat.zero_le _, hits'⟩
    · rintro x rest q s' ⟨rfl, rfl, i, hr, hi, hpre⟩
      have hlt : i < es.size := by
        rcases Nat.lt_or_ge i es.size with h | h
        · exact h
        · rw [Nat.sub_eq_zero_of_le h] at hr; simp at hr
      obtain ⟨rfl, hrest⟩ : x = i ∧ rest = List.range' (i + 1) (es.size - (i + 1)) := by
        have e : es.size - i = (es.size - (i + 1)) + 1 := by omega
        rw [e, List.range'_succ] at hr
        injection hr with h1 h2
        exact ⟨h1, h2⟩
      refine wpAny_bind (wpAny_dictEntries hoa hda ?_)
      rw [Array.getElem?_eq_getElem hlt]
      have hlt' : x < ka.length := by rw [hla]; exact hlt
      obtain ⟨k, c, v, hkv⟩ : ∃ k c v, ka[x] = (k, c, v) := ⟨_, _, _, rfl⟩
      have hdrop : ka.drop x = (k, c, v) :: ka.drop (x + 1) := by rw [← hkv]; exact List.drop_eq_getElem_cons hlt'
      have hex : es[x] = entryOfKey knd (k, c, v) := by
        have := entry_at hea x
        rw [Array.getElem?_eq_getElem hlt, List.getElem?_eq_getElem hlt', hkv] at this
        exact Option.some.inj this
      have hkey : knd.is s'.heap k c := hka (k, c, v) (hkv ▸ List.getElem_mem hlt')
      rw [hdrop] at hpre
      show wpAny _ _ (holding [es[x].key, es[x].val] _ >>= _) _ _ _
      rw [hex]
      refine wpAny_bind (wpAny_holding (wpAny_bind (wpAny_dictFind_heap hu hkey hob hdb heb hkb hnb ?_ ?_)))
      · intro hno
        have hn : atKey kb k = none := by
          cases e : atKey kb k with
          | none => rfl
          | some p =>
            obtain ⟨j, hj⟩ := at_atKey e
            exact absurd hj (hno j p)
        rcases hpre.inv with ⟨_, er⟩ | ⟨y, _, _, hy, _⟩
        · rw [er] at h'
          refine wpAny_pure ?_
          show wpAny _ _ (if (!false) = true then _ else _) _ _ _
          rw [if_pos (by decide)]
          exact wpAny_pure (wpAny_pure h')
        · rw [hn] at hy; exact nomatch hy
      · intro j p hj
        have hv' : atKey kb k = some p := atKey_at hnb hj
        have hej : es'[j]? = some (entryOfKey knd (k, p)) := by
          rw [entry_at heb j, hj]
          rfl
        refine wpAny_bind (wpAny_dictEntries hob hdb ?_)
        rw [hej]
        rcases hpre.inv with ⟨hn, _⟩ | ⟨y, e, b', hy, he, hrr, er⟩
        · rw [hv'] at hn; exact nomatch hn
        · have ey : p = y := Option.some.inj (hv'.symm.trans hy)
          rw [← ey] at he
          refine wpAny_holding (he prog w _ _ ?_)
          cases e with
          | false =>
            rw [er, Bool.false_and] at h'
            show wpAny _ _ (if (!false) = true then _ else _) _ _ _
            rw [if_pos (by decide)]
            exact wpAny_pure (wpAny_pure h')
          | true =>
            rw [Bool.true_and] at er
            rw [← er] at hrr
            show wpAny _ _ (if (!true) = true then _ else _) _ _ _
            rw [if_neg (by decide)]
            refine wpAny_bind (wpAny_dictEpoch hoa hda ?_)
            rw [if_neg (by simp)]
            exact wpAny_pure ⟨rfl, rfl, x + 1, hrest, hlt, hrr⟩
    · rintro q s' ⟨rfl, rfl, i, hr, hi, hpre⟩
      have hin : i = es.size := by
        rcases Nat.lt_or_ge i es.size with h | h
        · have e : es.size - i = (es.size - (i + 1)) + 1 := by omega
          rw [e, List.range'_succ] at hr; exact nomatch hr
        · exact Nat.le_antisymm hi h
      refine wpAny_pure ?_
      rw [hin, ← hla, List.drop_length] at hpre
      cases hpre
      exact h'
theorem eqDictN {a b : Addr} {ka kb : List (K × Addr × Value)} {r : Bool} {Q : Value → Shared → Prop} (hr : knd.room A.in1) (ha : (a == sysModules) = false) (hb : (b == sysModules) = false)
    (da : s.heap.DictOfH knd a ka) (db : s.heap.DictOfH knd b kb) (hu : A.units < cLine) (hits : ka.length = kb.length → HitsN A.in1 s kb ka r) (h : Q (.bool (ka.length == kb.length && r)) s) :
    wpAny (model prog w) A (compareOp .Eq (.ref a) (.ref b)) Q E s := by
  refine wpAny_richCompare_same_room (op := .Eq) (Heap.DictOfH.typeIs da) (Heap.DictOfH.typeIs db) PySem.F.slot_dict_eq (wpAny_call_entry PySem.F.slot_dict_eq (Heap.DictOfH.typeIs da) PySem.F.entry_dict_eq ?_ (PySem.F.args_dict_eq_2 _ _)) hu
  show wpAny _ _ (Builtin.Dict.dictSlotArgs "__eq__" ⟨[.ref a, .ref b], []⟩ >>= _) _ _ s
  refine wpAny_bind ?_
  unfold Builtin.Dict.dictSlotArgs
  refine wpAny_bind (wpAny_notOrdered_dict (Heap.DictOfH.typeIs da) ?_)
  show wpAny _ _ (pure (Value.ref a, Value.ref b)) _ _ s
  refine wpAny_pure ?_
  refine wpAny_bind (wpAny_isInstance (T := "dict") (Heap.DictOfH.typeIs db) PySem.F.sub_dict_dict ?_)
  simp only [Bool.not_true, Bool.false_eq_true, if_false]
  refine wpAny_bind (wpAny_pure (wpAny_bind (wpAny_pure ?_)))
  refine wpAny_bind (samePairsN hr ha hb da db hits ?_)
  refine wpAny_pure ⟨_, rfl, ?_, ?_⟩
  · exact fun x => nomatch x
  · simpa using h
end
def eqAllK (lvs : List (PyData × PyData)) (kvs : List (PyData × PyData)) : Bool := kvs.all fun p => match nk p.1 with
  | some k => match kAt lvs k with
    | some d => PyData.eqv p.2 d
    | none => false
  | none => false
def shVals (kvs : List (PyData × PyData)) : Bool := kvs.all fun p => SeqAt.shaped p.2
def dEqK (x y : PyData) : Option PyData := match x, y with
  | .dict kvs, .dict lvs => if (!isScr kvs && !isScr lvs && shVals kvs && shVals lvs) = true then some (.bool (kvs.length == lvs.length && eqAllK lvs kvs)) else none
  | _, _ => none
def rEqN (B : Bs) : R2 := fun x y H Q => ∃ a b kvs lvs, x = .ref a ∧ y = .ref b ∧ NdR B H a kvs ∧ NdR B H b lvs ∧ shVals kvs = true ∧ shVals lvs = true ∧ Q (.bl (kvs.length == lvs.length && eqAllK lvs kvs)) H
section
variable {X : Cx} {W : WX} {xa : Xc → Addr} {a b : Expr} {f g : Ef} {pos : Pos} {pins : List (Addr × Obj)} {σ : DS.St} {H : Hp} {s : Shared}
theorem kAt_sh {lvs : List (PyData × PyData)} {k : NestedKey} {d : PyData} (h : shVals lvs = true) (e : kAt lvs k = some d) : SeqAt.shaped d = true := by
  unfold kAt at e
  obtain ⟨p, hp, rfl⟩ := Option.map_eq_some_iff.mp e
  exact List.all_eq_true.mp h p (List.mem_of_find?_eq_some hp)
theorem hitsN {F' : Fz} {xs' : List KE1} {lvs : List (PyData × PyData)} {kb : List (NestedKey × Addr × Value)} (I : Inv X pins σ H s) (hu : X.A.units + 65 < cLine) (hp' : DdPairs (bs X) F' H xs' lvs) (r' : KN xs' kb) (s2 : shVals lvs = true) {F : Fz} :
    ∀ {xs : List KE1} {kvs : List (PyData × PyData)} {ka : List (NestedKey × Addr × Value)}, DdPairs (bs X) F H xs kvs → KN xs ka → shVals kvs = true → HitsN X.A.in1 s kb ka (eqAllK lvs kvs)
  | _, _, _, .nil, .nil, _ => .nil
  | _, _, _, .cons (k := k) (kd := kd) (vd := vd) (kvs := kvs) _ n _ hv t, .cons (b := q) e r, s1 => by
    have s1a : SeqAt.shaped vd = true := by
      have := List.all_eq_true.mp s1 _ List.mem_cons_self
      exact this
    have s1b : shVals kvs = true := List.all_eq_true.mpr fun p h => List.all_eq_true.mp s1 p (List.mem_cons_of_mem _ h)
    have ih := hitsN I hu hp' r' s2 t r s1b
    obtain ⟨k', c, v'⟩ := q
    obtain ⟨e1, _, e3⟩ := e
    dsimp only at e1 e3
    subst e1
    have ra := r'.at_ k
    rcases hp'.at_ k with ⟨x, d, f1, f2, dd⟩ | ⟨f1, f2⟩
    · rw [f1] at ra
      cases ek : atKey kb k with
      | none => rw [ek] at ra; exact ra.elim
      | some y =>
        rw [ek] at ra
        have sd := kAt_sh s2 f2
        obtain ⟨as, r1⟩ := Dp.reads I vd _ v' (Dd.dp (SeqAt.canLay_of_shaped s1a) hv) e3
        obtain ⟨bs', r2⟩ := Dp.reads I d x y.2 (Dd.dp (SeqAt.canLay_of_shaped sd) dd) ra
        have he : eqAllK lvs ((kd, vd) :: kvs) = (PyData.eqv vd d && eqAllK lvs kvs) := by
          unfold eqAllK
          rw [List.all_cons]
          simp only [n, f2]
        rw [he]
        exact .hit ek (keq_at r1 r2 s1a sd (by show X.A.units + 1 + 64 < cLine; omega)) ih
    · rw [f1] at ra
      cases ek : atKey kb k with
      | some y => rw [ek] at ra; exact ra.elim
      | none =>
        have he : eqAllK lvs ((kd, vd) :: kvs) = false := by
          unfold eqAllK
          rw [List.all_cons]
          simp only [n, f2, Bool.false_and]
        rw [he]
        exact .miss ek
theorem op_eqN (hu : X.A.units + 65 < cLine) : OpR X (compareOp .Eq) (rEqN (bs X)) := by
  intro pins s σ H x y v u Q I rx ry h
  obtain ⟨a, b, kvs, lvs, rfl, rfl, ⟨F, xs, hr, hp⟩, ⟨F', xs', hr', hp'⟩, s1, s2, q⟩ := h
  cases rx
  cases ry
  obtain ⟨_, z1, ka, r1, d1⟩ := nd_of I hr hp
  obtain ⟨_, z2, kb, r2, d2⟩ := nd_of I hr' hp'
  have l1 : ka.length = kvs.length := by rw [← hp.length, r1.length]
  have l2 : kb.length = lvs.length := by rw [← hp'.length, r2.length]
  refine eqDictN (nroom hu) z1 z2 d1 d2 (by omega) (fun _ => hitsN I hu hp' r2 s2 hp r1 s1) ?_
  rw [l1, l2]
  exact ⟨.bl _, H, I, rfl, q⟩
theorem op2_eqN : Op2 (bs X) .r .r .e dEqK (rEqN (bs X)) := by
  intro x y z v u H1 H2 F H Q e gx gy hd k
  cases x <;> first | (simp [dEqK] at e; done) | skip
  cases y <;> first | (simp [dEqK] at e; done) | skip
  rename_i kvs lvs
  simp only [dEqK, Bool.and_eq_true, Option.ite_none_right_eq_some, Option.some.injEq, Bool.not_eq_true'] at e
  obtain ⟨⟨⟨⟨i1, i2⟩, s1⟩, s2⟩, rfl⟩ := e
  obtain ⟨a, xs, rfl, h1, _, p1⟩ := Top.ndr i1 gx
  obtain ⟨b, ys, rfl, h2, _, p2⟩ := Top.ndr i2 gy
  exact ⟨a, b, kvs, lvs, rfl, rfl, ⟨F, xs, h1, p1⟩, ⟨F, ys, h2, p2⟩, s1, s2, k _ F H (Ext.refl hd) (.bl _)⟩
theorem pd_eqK (hu : X.A.units + 65 < cLine) (ha : PD X W xa .r a f) (hb : PD X W xa .r b g) : PD X W xa .e (.Compare a [.Eq] [b] pos) (lift2 dEqK f g) := pd_cmp (by simp) (op_eqN hu) op2_eqN ha hb (nomark _)
theorem pt_eqK (hu : X.A.units + 65 < cLine) (ha : PD X W xa .r a f) (hb : PD X W xa .r b g) : PTD X W xa (.Compare a [.Eq] [b] pos) (lift2 dEqK f g) := pt_op (by simp) (op_eqN hu) op2_eqN ha hb (nomark _)
end
end DS
namespace DS
open PySem PySem.Spec PyProof.Rows L2 PySem.W PyProof.V PySem.Calls RT
section
variable {prog : Program} {w : World} {A : Around} {E : Value → Shared → Prop} {s : Shared}
theorem extend_rev {R : Result → Shared → Prop} {it l S : Addr} {items : Array Value} (hh : A.handled = none) (hit : s.heap.IsRevIter it l ((items.size : Int) - 1)) (hl : s.heap.IsList l items) (hne : l ≠ it) (hn : items.size ≤ sizeLine) (hSi : S ≠ it) (hSl : S ≠ l) (res : Value) (c₀ : Nat) (hS : s.heap.get? S = some { cls := .type "list", data := .seq #[] c₀ })
    (hR : ∀ h' tk acc' c', (∀ b o, b ≠ S → b ≠ it → s.heap.get? b = some o → h'.get? b = some o) → h'.get? S = some { cls := .type "list", dict := none, data := .seq acc' c', slots := #[] } → ItemsOf (fun i v => items[items.size - 1 - i]? = some v) acc' items.size → R (.ok (.ret res)) { s with heap := h', toks := tk }) :
    wpAny (model prog w) A.in1 (Builtin.List.listExtendWith (.ref S) (.ref it) res)
      (fun fin s' => match fin with | .done f => R (.ok f) s' | .again c' => c'.quiet = true ∧ codeAny (model prog w) A c' R s') (fun e s' => R (.error e) s') s := by
  have W := (Walks.listRev (prog := prog) (w := w) (A := A.in1) hh it l hne items).toS
  have hSf : S ∉ [it, l] := by simp only [List.mem_cons, List.not_mem_nil, or_false, not_or]; exact ⟨hSi, hSl⟩
  have hT : s.TypeIs (.ref it) "list_reverseiterator" := hit.typeIs
  have h1 : Builtin.List.listSameRef (.ref S) (.ref it) = false := by simp [Builtin.List.listSameRef, hSi]
  unfold Builtin.List.listExtendWith
  refine wpAny_bind (wpAny_typeOf hT ?_)
  rw [if_neg (by rw [h1]; decide)]
  refine wpAny_bind (wpAny_pyIter_revIter hit ?_)
  refine wpAny_bind (wpAny_holding ?_)
  unfold Builtin.List.listLengthHint
  refine wpAny_bind (wpAny_specialOf hT nolen_lri ?_)
  show wpAny _ A.in1 (specialOf (Value.ref it) (Str.ofString "__length_hint__") >>= _) _ _ _
  refine wpAny_bind (wpAny_specialOf hT hint_lri ?_)
  generalize hid : ("list_reverseiterator.__length_hint__" : String) = id0
  wp_delta
  rw [show splitId id0 = some ("list_reverseiterator", "__length_hint__") from by subst hid; decide +kernel]
  subst hid
  refine wpAny_bind (wpAny_isInstance (b := true) hT (by rw [isSubtype_type]; kernel_rfl) ?_)
  refine wpAny_pure ?_
  rw [if_neg (by decide)]
  have e0 : ((items.size : Nat) : Int) - 1 - ((0 : Nat) : Int) = (items.size : Int) - 1 := by omega
  refine wpAny_pure ⟨plainId_quiet F.plain_extend_loop _, codeAny_extend_loopS W hn _ hSf _ items.size 0 _ _ _ rfl (Nat.zero_le _) ⟨Nat.zero_le _, by rw [e0]; exact hit, hl⟩ hS (ItemsOf.nil _) fun s' acc' c' hm hS' hacc => ?_⟩
  rw [Moved.eq_with hm]
  refine hR s'.heap s'.toks acc' c' (fun b o hb hi e => hm.heap b o (fun hmem => ?_) e) hS' hacc
  rcases List.mem_cons.mp hmem with e' | hmem
  · exact hb e'
  · exact hi (List.mem_singleton.mp hmem)
theorem init_rev {R : Result → Shared → Prop} {it l S : Addr} {items : Array Value} (hh : A.handled = none) (hit : s.heap.IsRevIter it l ((items.size : Int) - 1)) (hl : s.heap.IsList l items) (hne : l ≠ it) (hn : items.size ≤ sizeLine) (hSi : S ≠ it) (hSl : S ≠ l) (hS : s.heap.get? S = some { cls := .type "list", data := .seq #[] })
    (hR : ∀ h' tk acc' c', (∀ b o, b ≠ S → b ≠ it → s.heap.get? b = some o → h'.get? b = some o) → h'.get? S = some { cls := .type "list", dict := none, data := .seq acc' c', slots := #[] } → ItemsOf (fun i v => items[items.size - 1 - i]? = some v) acc' items.size → R (.ok (.ret .none)) { s with heap := h', toks := tk }) :
    wpAny (model prog w) A.in1 (Builtin.«list.__init__» ⟨[.ref S, .ref it], []⟩)
      (fun fin s' => match fin with | .done f => R (.ok f) s' | .again c' => c'.quiet = true ∧ codeAny (model prog w) A c' R s') (fun e s' => R (.error e) s') s := by
  show wpAny _ _ (do let old ← Builtin.List.listItems (.ref S); Builtin.List.listUpdate (.ref S) (fun _ => #[]); letGo old.toList.reverse; Builtin.List.listExtendWith (.ref S) (.ref it) .none) _ _ s
  refine wpAny_bind ?_
  unfold Builtin.List.listItems
  refine wpAny_bind (wpAny_seqItems hS rfl (wpAny_pure ?_))
  show wpAny _ _ (updateSeq S (fun _ => #[]) >>= fun _ => letGo (#[] : Array Value).toList.reverse >>= fun _ => Builtin.List.listExtendWith (.ref S) (.ref it) .none) _ _ s
  refine wpAny_bind (wpAny_updateSeq hS rfl ?_)
  have hS₂ := Heap.get?_update_self (Obj.mapSeq (fun _ => (#[] : Array Value))) hS rfl
  have oth : ∀ b o, b ≠ S → s.heap.get? b = some o → (s.heap.update S (Obj.mapSeq (fun _ => (#[] : Array Value)))).get? b = some o :=
    fun b o hb e => (Heap.get?_update_other _ _ (Ne.symm hb)).trans e
  refine wpAny_bind (wpAny_letGo ?_)
  refine extend_rev hh (hit.at fun o e => oth it o hSi.symm e) (hl.at fun o e => oth l o hSl.symm e) hne hn hSi hSl .none _ hS₂ (fun h' tk acc' c' hk hS' hacc => ?_)
  exact hR h' tk acc' c' (fun b o hb hi e => hk b o hb hi (oth b o hb e)) hS' hacc
theorem call_list_rev2 {Q : Value → Shared → Prop} {it l : Addr} {items : Array Value} (hh : A.handled = none) (hit : s.heap.IsRevIter it l ((items.size : Int) - 1)) (hl : s.heap.IsList l items) (hne : l ≠ it) (hn : items.size ≤ sizeLine)
    (hQ : ∀ h' tk acc' c', (∀ b o, b ≠ it → s.heap.get? b = some o → h'.get? b = some o) → h'.get? s.heap.objs.size = some { cls := .type "list", dict := none, data := .seq acc' c', slots := #[] } → ItemsOf (fun i v => items[items.size - 1 - i]? = some v) acc' items.size → Q (.ref s.heap.objs.size) { s with heap := h', toks := tk }) :
    wpAny (model prog w) A (call (.type "list") [.ref it]) Q E s := by
  refine callType_codes (Q₁ := fun obj s₁ => obj = .ref s.heap.objs.size ∧ s₁ = { s with heap := s.heap.push { cls := .type "list", data := .seq #[] } }) PySem.F.called_list (PySem.F.typeCall_list_1 _) PySem.F.entry_list_init
    (code_list_new _ ⟨rfl, rfl⟩) fun obj s₁ h₁ => ?_
  obtain ⟨rfl, rfl⟩ := h₁
  have hS : (s.heap.push { cls := .type "list", data := .seq #[] }).get? s.heap.objs.size = some { cls := .type "list", data := .seq #[] } := Heap.get?_push_size _ rfl
  obtain ⟨oi, hoi, _⟩ := id hit
  obtain ⟨ol, hol, _⟩ := id hl
  have hSi : s.heap.objs.size ≠ it := Nat.ne_of_gt (Heap.lt_size hoi)
  have hSl : s.heap.objs.size ≠ l := Nat.ne_of_gt (Heap.lt_size hol)
  refine ⟨⟨_, hS, rfl⟩, PySem.F.args_list_init_2 _ _, init_rev (A := A.in1) (s := { s with heap := s.heap.push { cls := .type "list", data := .seq #[] } }) hh (hit.at fun o e => Heap.get?_push_of_some _ e) (hl.push _) hne hn hSi hSl hS (fun h' tk acc' c' hk hS' hacc => ?_)⟩
  exact ⟨rfl, hQ h' tk acc' c' (fun b o hb e => hk b o (Nat.ne_of_lt (Heap.lt_size e)) hb (Heap.get?_push_of_some _ e)) hS' hacc⟩
end
section
variable {X : Cx}
theorem pe_lstRev {e : Expr} {te : TE} {p p2 pos pos2 : Pos} (hc : X.calm = true) (hg : Gl X "list") (hm : X.mg "list" = none) (hg2 : Gl X "reversed") (hm2 : X.mg "reversed" = none) (he : PE X e te)
    (hs : starEach [e] X.env = (false, eval e X.env) :: starEach [] X.env := by rfl)
    (hs2 : starEach [.Call (.Name "reversed" p2) [e] [] pos2] X.env = (false, eval (.Call (.Name "reversed" p2) [e] [] pos2) X.env) :: starEach [] X.env := by rfl) :
    PE X (.Call (.Name "list" p) [.Call (.Name "reversed" p2) [e] [] pos2] [] pos) (tRevL X.K te) := by
  refine ⟨fun pins s σ H Q I h => ?_⟩
  refine Call_ (ld_blt I hg hm boot_list (PyProof.Rows.callWith_type1 (args_cons (Call_ (ld_blt I hg2 hm2 PyProof.Rows.boot_reversed (PyProof.Rows.callWith_type1 (args_cons (thn (he.run pins s σ H _ I h) fun u s1 ⟨v, H1, I1, r1, q1⟩ => args_nil ?_) hs) hs rfl))) hs2) hs2 rfl))
  obtain ⟨a, xs, ev, hq, q⟩ := q1
  subst ev
  obtain rfl : u = Value.ref a := r1
  obtain ⟨its, rv, p', hz⟩ := I1.list hq
  refine call_reversed_list p'.isList (args_nil ?_)
  have hl := p'.isList
  obtain ⟨ol, hol, _⟩ := id hl
  have hne : a ≠ s1.heap.objs.size := Nat.ne_of_lt (Heap.lt_size hol)
  have hn : its.toArray.size ≤ sizeLine := by rw [List.size_toArray, ← rv.length]; exact hz
  refine call_list_rev2 (s := { s1 with heap := s1.heap.push (revObj a ((its.toArray.size : Int) - 1)) }) (I1.ok.hd hc) ⟨_, Heap.get?_push_size _ rfl, rfl, rfl⟩ (hl.push _) hne hn fun h' tk acc c' hk hS hi => ?_
  have hsz : s1.heap.objs.size ≤ (s1.heap.push (revObj a ((its.toArray.size : Int) - 1))).objs.size := by
    simp [Heap.push]
  refine ⟨.ref (s1.heap.push (revObj a ((its.toArray.size : Int) - 1))).objs.size, upd H1 (s1.heap.push (revObj a ((its.toArray.size : Int) - 1))).objs.size (.lst xs.reverse), I1.laid (t' := tk) (fun c o e => hk c o (Nat.ne_of_lt (Heap.lt_size e)) (Heap.get?_push_of_some _ e)) hsz (show ObjOk X.prog X.w _ _ _ (.lst xs.reverse) from ⟨by rw [List.length_reverse]; exact hz, acc.toList, c', vals_rev rv hi, ?_⟩), rfl, q _ (I1.hok.fresh hsz)⟩
  rw [Array.toArray_toList]
  exact hS
end
section
variable {X : Cx} {W : WX} {xa : Xc → Addr} {e : Expr} {f : Ef} {pos : Pos}
def dRevL (x : PyData) : Option PyData := match x with
  | .list ds => some (.list ds.reverse)
  | _ => none
theorem DdAll.snoc {B : Bs} {F : Fz} {H : Hp} : ∀ {vs : List V} {ds : List PyData} {v : V} {d : PyData}, DdAll B F H vs ds → Dd B F H v d → DdAll B F H (vs ++ [v]) (ds ++ [d])
  | _, _, _, _, .nil, h => .cons h .nil
  | _, _, _, _, .cons a b, h => .cons a (DdAll.snoc b h)
theorem DdAll.rev {B : Bs} {F : Fz} {H : Hp} : ∀ {vs : List V} {ds : List PyData}, DdAll B F H vs ds → DdAll B F H vs.reverse ds.reverse
  | _, _, .nil => .nil
  | _, _, .cons a b => by
    rw [List.reverse_cons, List.reverse_cons]
    exact DdAll.snoc (DdAll.rev b) a
def rRevL (K : PySem.W.Frag) : V → Hp → VK → Prop := fun x H Q => ∃ a xs, x = .ref a ∧ SqL K H a xs ∧ ∀ p, H p = none → Q (.ref p) (upd H p (.lst xs.reverse))
theorem op1_rev : Op1 (bs X) .r .o dRevL (rRevL X.K) := by
  intro x z v H1 F H Q e g hd k
  cases x <;> first | (simp [dRevL] at e; done) | skip
  rename_i ds
  simp only [dRevL, Option.some.injEq] at e
  subst e
  obtain ⟨p, ps, rfl, hp, hz, rp⟩ := Top.lst g
  refine ⟨p, ps, rfl, .of hp, fun t ht => ?_⟩
  have x := Ext.of hd (Ex.new (o := .lst ps.reverse) ht)
  exact k _ F _ x ⟨t, rfl, fun f => hd t f ht, ht, .lst upd_same (by rw [List.length_reverse]; exact hz) ((DdAll.rev rp).ext x)⟩
theorem pd_lstRev {p p2 pos pos2 : Pos} (hc : X.calm = true) (hg : Gl X "list") (hm : X.mg "list" = none) (hg2 : Gl X "reversed") (hm2 : X.mg "reversed" = none) (ha : PD X W xa .r e f)
    (hs : starEach [e] X.env = (false, eval e X.env) :: starEach [] X.env := by rfl)
    (hs2 : starEach [.Call (.Name "reversed" p2) [e] [] pos2] X.env = (false, eval (.Call (.Name "reversed" p2) [e] [] pos2) X.env) :: starEach [] X.env := by rfl) :
    PD X W xa .o (.Call (.Name "list" p) [.Call (.Name "reversed" p2) [e] [] pos2] [] pos) (lift1 dRevL f) :=
  impE (pe_lstRev hc hg hm hg2 hm2 ha hs hs2) fun _ _ _ h => tUn_of (r := rRevL X.K) op1_rev h
theorem pd_revL {k : Nat} {p1 p2 p3 pos : Pos} (ha : PD X W xa .r e f) : PD X W xa .o (.Subscript e (.Slice none none (some (.UnaryOp .USub (.Constant (.int 1) k p1) p2)) p3) pos) (lift1 dRevL f) :=
  impE (pe_revL ha) fun _ _ _ h => tUn_of (r := rRevL X.K) op1_rev h
end
end DS
namespace DS
open PySem PySem.Spec PyProof.Rows L2
section
variable {X : Cx} {W : WX} {xa : Xc → Addr} {e : Expr} {pos p : Pos} {x : Str}
theorem DdAll.imms' {B : Bs} {F F' : Fz} {H : Hp} : ∀ {vs : List V} {ds : List PyData}, imms ds = true → DdAll B F H vs ds → DdAll B F' H vs ds
  | _, _, _, .nil => .nil
  | _, _, h, .cons a b => by
    rw [imms, Bool.and_eq_true] at h
    exact .cons (Dd.imm h.1 a) (DdAll.imms' h.2 b)
def resOL (x : Option Rt) : Option Res := match x with
  | some (.ok (true, .list xs)) => if imms xs = true then some (.ok (.list xs)) else none
  | some (.error c) => some (.error c)
  | _ => none
def eCallO (Φ : Fn) (r : Afn) : Ef := fun env => match r env with
  | none => none
  | some (.error c) => some (.error c)
  | some (.ok ds) => resOL (Φ ds)
@[simp] theorem resOL_ok {xs} : resOL (some (.ok (true, .list xs))) = if imms xs = true then some (.ok (.list xs)) else none := rfl
@[simp] theorem eCallO_s {Φ : Fn} {r : Afn} {env : DS.Env} : eCallO Φ r env = withA (r env) fun ds => resOL (Φ ds) := by
  unfold eCallO withA
  cases r env with
  | none => rfl
  | some x => cases x <;> rfl
theorem pd_callO {Φ : Fn} {es : List Expr} {r : Afn} (G : Fok X xa x Φ) (tk : L2N.Takes X W) (hg : Gl X x) (ha : PAD X W xa .v (e :: es) r)
    (he : starEach (e :: es) X.env = (false, eval e X.env) :: starEach es X.env := by rfl) (hpl : (backTo pos (starEach es X.env)).any (·.1) = false := by rfl) : PD X W xa .o (.Call (.Name x p) (e :: es) [] pos) (eCallO Φ r) := by
  obtain ⟨⟨k, f, fd, ps, ok, hr, hm, hk, hb⟩, hdb⟩ := G
  rw [bs_none hr.hd] at ok
  refine impE (pe_callS (E := WE W) ok hr hg hm hk hb (fun σ => L2N.passAt tk σ) ha hdb he hpl) fun σ H Q h => ?_
  obtain ⟨D, F, env, r0, S, e, q⟩ := h
  unfold eCallO at e
  cases hf : r env with
  | none => rw [hf] at e; cases e
  | some r1 =>
    rw [hf] at e
    cases r1 with
    | error c => cases e; exact ⟨D, F, env, .error c, S, hf, q⟩
    | ok ds =>
      refine ⟨D, F, env, .ok ds, S, hf, fun vs F1 H1 x1 g1 => ?_⟩
      cases hp : Φ ds with
      | none => simp only [hp, resOL] at e; cases e
      | some r2 =>
        refine ⟨fun a => H1 a ≠ none, ds, r2, fun _ h => h, g1, hp, ?_⟩
        simp only [hp] at e
        cases r2 with
        | error c => cases e; exact fun H' e' => q H' (x1.ex.trans e')
        | ok od =>
          obtain ⟨o', d⟩ := od
          cases o' with
          | false => cases e
          | true =>
            cases d <;> first | (cases e; done) | skip
            rename_i xs
            simp only [resOL, Option.ite_none_right_eq_some, Option.some.injEq] at e
            obtain ⟨hi, rfl⟩ := e
            intro v F' H' x g
            obtain ⟨a, ev, h1, h2, h3⟩ := (show ∃ a, v = .ref a ∧ ¬ F' a ∧ H1 a = none ∧ Own (bs X) F' H' a (.list xs) from g)
            refine q v F1 H' (x1.trans (Ext.of x1.dom x.ex)) ?_
            refine (Got.back (m := .o) x1.ex (show ∃ a, v = .ref a ∧ ¬ F1 a ∧ H1 a = none ∧ Own (bs X) F1 H' a (.list xs) from ⟨a, ev, fun f => x1.dom a f h2, h2, ?_⟩))
            cases h3 with
            | lst g1 g2 g3 => exact .lst g1 g2 (DdAll.imms' hi g3)
end
end DS
namespace DS
open PySem PySem.Spec PyProof.Rows L2
section
open HotX
variable {prog : Program} {w : World} {A : Around} {E : Value → Shared → Prop} {s : Shared}
theorem pyNext_list_end_hot {it l x1 : Addr} {i : Nat} {items : Array Value} {Q : Option Value → Shared → Prop} (hot : HotAt A x1 s.heap) (hne : x1 ≠ it) (hit : s.heap.IsListIter it l i) (hl : s.heap.IsList l items) (hx : items[i]? = none)
    (hQ : ∀ h', Heap.ExtBut it s.heap h' → Q none { s with heap := h' }) : wpAny (model prog w) A (pyNext (.ref it)) Q E s := by
  obtain ⟨o, ho, hc, hd⟩ := id hit
  obtain ⟨ol, hol, _, nl, hdl⟩ := hl
  obtain ⟨hh, o1, vs1, h1, d1, c1⟩ := hot
  unfold pyNext
  refine wpAny_bind (wpAny_attempt (wpAny_callSpecial?_slot (name := Str.ofString "__next__") hit.typeIs slot_listiter_next
    (wpAny_call_entry slot_listiter_next hit.typeIs entry_listiter_next ?_ (args_listiter_next _))))
  show wpAny _ _ (field (.ref it) 0 >>= _) _ _ s
  refine wpAny_bind (wpAny_field ho hd (x := .ref l) rfl ?_)
  show wpAny _ _ (if (Value.ref l == Value.none) = true then _ else _) _ _ s
  rw [if_neg (show ¬ ((Value.ref l == Value.none) = true) from Bool.false_ne_true)]
  show wpAny _ _ (field (.ref it) 1 >>= _) _ _ s
  refine wpAny_bind (wpAny_field ho hd (x := .int i 0) rfl ?_)
  show wpAny _ _ (seqItems? (.ref l) >>= _) _ _ s
  refine wpAny_bind (wpAny_seqItems hol hdl ?_)
  simp only [Int.toNat_natCast, hx]
  refine wpAny_bind (wpAny_rule (wpAny_bind (wpAny_setField ho hd (by simp) ?_)))
  show wpAny _ _ (newExc (.type "StopIteration") [] >>= _) _ _ _
  refine wpAny_bind ?_
  simp only [newExc, newTuple]
  refine wpAny_bind (wpAny_newObj_type ?_ (by size_fits))
  refine wpAny_bind (m := firstArgMember _ _) (wpAny_of_eq (a := Value.none) (by first | rfl | (simp only [firstArgMember]; rfl)) ?_)
  refine wpAny_newObj_type ?_ (by size_fits)
  have h1' := (Heap.get?_update_other (h := s.heap) (Obj.mapFields (·.setIfInBounds 0 Value.none)) (Ne.symm hne)).trans h1
  refine raiseNew_hot ⟨hh, o1, vs1, Heap.get?_push_of_some _ (Heap.get?_push_of_some _ h1'), d1, c1⟩ (Nat.ne_of_lt (Heap.lt_size (Heap.get?_push_of_some _ h1'))) (Heap.get?_push_size _ rfl) rfl (by first | (simp; done) | (simp; omega) | (simp only [Array.size_append]; simp; omega)) ?_
  refine wpAny_bind (wpAny_isInstance (T := "StopIteration") (b := true) ⟨_, Heap.get?_update_self _ (Heap.get?_push_size _ rfl) rfl, rfl⟩ isSubtype_stop ?_)
  refine wpAny_pure (hQ _ fun b o hb e => ?_)
  have z := Heap.get?_push_of_some { cls := .type "tuple", data := .seq ([] : List Value).toArray } ((Heap.get?_update_other (h := s.heap) (Obj.mapFields (·.setIfInBounds 0 Value.none)) (Ne.symm hb)).trans e)
  rw [Heap.get?_update_other _ _ (Nat.ne_of_gt (Heap.lt_size z))]
  exact Heap.get?_push_of_some _ z
theorem next_tuple_end_hot {it l x1 : Addr} {i : Nat} {items : Array Value} {Q : Option Value → Shared → Prop} (hot : HotAt A x1 s.heap) (hne : x1 ≠ it) (hit : IsTupIter s.heap it l i) (hl : IsTup s.heap l items) (hx : items[i]? = none)
    (hQ : ∀ h', Heap.ExtBut it s.heap h' → Q none { s with heap := h' }) : wpAny (model prog w) A (pyNext (.ref it)) Q E s := by
  obtain ⟨o, ho, hc, hd⟩ := id hit
  obtain ⟨ol, hol, _, nl, hdl⟩ := hl
  obtain ⟨hh, o1, vs1, h1, d1, c1⟩ := hot
  unfold pyNext
  refine wpAny_bind (wpAny_attempt (wpAny_callSpecial?_slot (name := Str.ofString "__next__") hit.typeIs slot_tupleiter_next
    (wpAny_call_entry slot_tupleiter_next hit.typeIs entry_tupleiter_next ?_ (args_tupleiter_next _))))
  show wpAny _ _ (field (.ref it) 0 >>= _) _ _ s
  refine wpAny_bind (wpAny_field ho hd (x := .ref l) rfl ?_)
  show wpAny _ _ (if (Value.ref l == Value.none) = true then _ else _) _ _ s
  rw [if_neg (show ¬ ((Value.ref l == Value.none) = true) from Bool.false_ne_true)]
  show wpAny _ _ (field (.ref it) 1 >>= _) _ _ s
  refine wpAny_bind (wpAny_field ho hd (x := .int i 0) rfl ?_)
  show wpAny _ _ (seqItems? (.ref l) >>= _) _ _ s
  refine wpAny_bind (wpAny_seqItems hol hdl ?_)
  simp only [Int.toNat_natCast, hx]
  refine wpAny_bind (wpAny_rule (wpAny_bind (wpAny_setField ho hd (by simp) ?_)))
  show wpAny _ _ (newExc (.type "StopIteration") [] >>= _) _ _ _
  refine wpAny_bind ?_
  simp only [newExc, newTuple]
  refine wpAny_bind (wpAny_newObj_type ?_ (by size_fits))
  refine wpAny_bind (m := firstArgMember _ _) (wpAny_of_eq (a := Value.none) (by first | rfl | (simp only [firstArgMember]; rfl)) ?_)
  refine wpAny_newObj_type ?_ (by size_fits)
  have h1' := (Heap.get?_update_other (h := s.heap) (Obj.mapFields (·.setIfInBounds 0 Value.none)) (Ne.symm hne)).trans h1
  refine raiseNew_hot ⟨hh, o1, vs1, Heap.get?_push_of_some _ (Heap.get?_push_of_some _ h1'), d1, c1⟩ (Nat.ne_of_lt (Heap.lt_size (Heap.get?_push_of_some _ h1'))) (Heap.get?_push_size _ rfl) rfl (by first | (simp; done) | (simp; omega) | (simp only [Array.size_append]; simp; omega)) ?_
  refine wpAny_bind (wpAny_isInstance (T := "StopIteration") (b := true) ⟨_, Heap.get?_update_self _ (Heap.get?_push_size _ rfl) rfl, rfl⟩ isSubtype_stop ?_)
  refine wpAny_pure (hQ _ fun b o hb e => ?_)
  have z := Heap.get?_push_of_some { cls := .type "tuple", data := .seq ([] : List Value).toArray } ((Heap.get?_update_other (h := s.heap) (Obj.mapFields (·.setIfInBounds 0 Value.none)) (Ne.symm hb)).trans e)
  rw [Heap.get?_update_other _ _ (Nat.ne_of_gt (Heap.lt_size z))]
  exact Heap.get?_push_of_some _ z
theorem unpackItems_tuple_hot {t x1 : Addr} {items : Array Value} {Q : List Value → Shared → Prop} (hot : HotAt A x1 s.heap) (ht : IsTup s.heap t items)
    (hQ : ∀ h', Heap.ExtBut s.heap.objs.size s.heap h' → Q items.toList { s with heap := h' }) : wpAny (model prog w) A (unpackItems (.ref t) items.size none) Q E s := by
  have hlt : t ≠ s.heap.objs.size := by obtain ⟨o, ho, _⟩ := ht; exact Nat.ne_of_lt (Heap.lt_size ho)
  obtain ⟨hh, o1, vs1, h1, d1, c1⟩ := hot
  have hne : x1 ≠ s.heap.objs.size := Nat.ne_of_lt (Heap.lt_size h1)
  unfold unpackItems
  refine wpAny_bind ?_
  · unfold notIterableAtAll
    refine wpAny_bind (wpAny_specialOf ht.typeIs slot_tuple_iter.lookup ?_)
    refine wpAny_pure ?_
    simp only [Bool.false_eq_true, if_false]
    refine wpAny_bind (wpAny_holding (iter_tuple ht ?_))
    refine wpAny_bind (wpAny_holding (draw_tuple hlt items.size 0 _ _ ⟨_, Heap.get?_push_size _ rfl, rfl, rfl⟩ (ht.push _) (by omega) fun h₁ hit₁ hs₁ => ?_))
    have hall : List.take items.size (List.drop 0 items.toList) = items.toList := by
      rw [List.drop_zero]; exact List.take_of_length_le (by simp)
    rw [hall]
    rw [if_neg (by simp)]
    have ht₁ : IsTup h₁ t items := (ht.push _).extBut hs₁.extBut hlt
    refine wpAny_bind (wpAny_holding (next_tuple_end_hot ⟨hh, o1, vs1, hs₁.extBut _ _ hne (Heap.get?_push_of_some _ h1), d1, c1⟩ hne hit₁ ht₁ (by simp) fun h₂ he₂ => ?_))
    simp only [Option.isSome_none, Bool.false_eq_true, if_false]
    refine wpAny_pure (hQ h₂ fun b o hb e => he₂ b o hb (hs₁.extBut b o hb (Heap.get?_push_of_some _ e)))
theorem assign_Tuple_tuple_hot {env : PySem.Env} {elts : List Expr} {k} {pos : Pos} {t x1 : Addr} {items : Array Value} {Q : Unit → Shared → Prop} (hot : HotAt A x1 s.heap) (ht : IsTup s.heap t items)
    (hn : (assignEach elts env).length = items.size) (hstar : (assignEach elts env).findIdx? (·.1) = none)
    (h : ∀ h', Heap.ExtBut s.heap.objs.size s.heap h' → wpAny (model prog w) A (assignInOrder ((assignEach elts env).map (·.2)) items.toList) Q E { s with heap := h' }) :
    wpAny (model prog w) A (assign (.Tuple elts k pos) env (.ref t)) Q E s := by
  rw [assign_Tuple]
  refine wpAny_bind (wpAny_standAt ?_)
  unfold unpack
  rw [hn, hstar]
  exact wpAny_bind (wpAny_holding (unpackItems_tuple_hot hot ht h))
end
def HotO (X : Cx) (a : Addr) (oe : Obj) : Prop := X.A.handled = some (.ref a) ∧ (∃ vs : Array Value, oe.data = .fields vs ∧ vs[2]? = some .none) ∧ ((a, oe) ∈ X.pn ∨ (X.s_0.heap.get? a = some oe ∧ X.H_0 a = none ∧ a ∉ X.fs ∧ a ∉ X.ex))
def HotX (X : Cx) : Prop := ∃ a oe, HotO X a oe
section
variable {X : Cx} {pins : List (Addr × Obj)} {σ : DS.St} {H : Hp} {s : Shared} {a : Addr} {oe : Obj}
theorem HotO.get (I : Inv X pins σ H s) (h : HotO X a oe) : s.heap.get? a = some oe ∧ H a = none := by
  obtain ⟨_, _, h | ⟨h1, h2, h3, h4⟩⟩ := h
  · have := I.pin (a, oe) (List.mem_append.mpr (.inl h))
    exact ⟨this.1, this.2.1⟩
  · exact ⟨I.base.keep a oe h1 h2 h3 h4, I.base.free a oe h1 h2 h4⟩
theorem HotO.at (I : Inv X pins σ H s) (h : HotO X a oe) : HotX.HotAt X.A a s.heap := ⟨h.1, oe, h.2.1.choose, (h.get I).1, h.2.1.choose_spec.1, h.2.1.choose_spec.2⟩
theorem HotO.ne {b : Addr} (I : Inv X pins σ H s) (h : HotO X a oe) (f : FpOk X pins H b) : a ≠ b := by
  obtain ⟨_, _, h | ⟨h1, h2, h3, h4⟩⟩ := h
  · exact f.2.2.2.2.2 (a, oe) (List.mem_append.mpr (.inl h))
  · intro e
    subst e
    rcases f.2.2.2.1 with z | z
    · exact h4 z
    · exact absurd (Nat.lt_of_lt_of_le (Heap.lt_size h1) z) (Nat.lt_irrefl _)
theorem HotO.blk {scope : Scope} {ce : PySem.Env} {fp : List Addr} (h : HotO X a oe) (I : Inv X pins σ H s) (f : ∀ b ∈ fp, FpOk X pins H b) : HotO (X.blk s H scope ce fp) a oe := by
  refine ⟨h.1, h.2.1, .inr ⟨(h.get I).1, (h.get I).2, fun z => ?_, fun z => h.ne I (f a z) rfl⟩⟩
  have nl : a ≠ X.env.locals ∧ a ∉ X.fs := by
    obtain ⟨_, _, h | ⟨h1, h2, h3, h4⟩⟩ := h
    · have := I.pin (a, oe) (List.mem_append.mpr (.inl h))
      exact ⟨this.2.2.1, this.2.2.2.1⟩
    · exact ⟨Nat.ne_of_lt (Nat.lt_of_lt_of_le (Heap.lt_size h1) I.ok.above), h3⟩
  exact (List.mem_cons.mp (I.stkSub a z)).elim nl.1 nl.2
theorem HotX.blk {scope : Scope} {ce : PySem.Env} {fp : List Addr} (h : HotX X) (I : Inv X pins σ H s) (f : ∀ b ∈ fp, FpOk X pins H b) : HotX (X.blk s H scope ce fp) :=
  let ⟨a, oe, h⟩ := h
  ⟨a, oe, h.blk I f⟩
end
section
variable {X : Cx} {pos : Pos} {tg : Expr}
theorem pg_tupH {es : List Expr} {k : Nat} {t : TGs} {n : Nat} (hc : HotX X) (h : PGs X es t)
    (hn : (assignEach es X.env).length = n := by rfl) (hst : (assignEach es X.env).findIdx? (·.1) = none := by rfl) : PG X (.Tuple es k pos) (gTup X.K n t) := by
  refine ⟨fun pins s σ H v u Q I r hw => ?_⟩
  obtain ⟨a, xs, e1, hq, hl, hw⟩ := hw
  subst e1
  cases r
  obtain ⟨its, rv, ht, hz⟩ := I.tuple hq
  obtain ⟨a, oe, hc⟩ := hc
  refine assign_Tuple_tuple_hot (hc.at I) ht (by simp [hn, ← hl, rv.length]) hst fun h' hx => ?_
  have I1 : Inv X pins σ H { s with heap := h' } := I.kept (t' := s.toks) fun b o e => hx b o (Nat.ne_of_lt (Heap.lt_size e)) e
  exact h.run pins _ σ H xs _ Q I1 (by simpa using rv) hw
structure TurnH (P : Program) (w : World) (K : PySem.W.Frag) (tg : Expr) (J : It) (fp : List Addr) (it : Addr) (tn : Nat → Heap → Prop) : Prop where
  mem : it ∈ fp
  obj : ∀ i h, tn i h → ∀ b ∈ fp, ∃ o, h.get? b = some o ∧ ∀ v, o.data ≠ .cell v
  keep : ∀ i h h', tn i h → (∀ b ∈ fp, ∀ o, h.get? b = some o → h'.get? b = some o) → tn i h'
  item : ∀ (X : Cx), X.prog = P → X.w = w → X.K = K → HotX X → ∀ (i : Nat) (pins : List (Addr × Obj)) (s : Shared) (σ : DS.St) (H : Hp) (E : Value → Shared → Prop), Inv X pins σ H s → (∀ b ∈ fp, FpOk X pins H b) → tn i s.heap → J.go i H →
    wpAny (model P w) X.A (pyNext (.ref it)) (fun r s1 => ∃ u, r = some u ∧
      wpAny (model P w) X.A (letOwnedTupleGo tg (.ref it) u) (fun _ s2 => ∃ x H', Inv X pins σ H' s2 ∧ RelV x u ∧ J.yld i H x H' ∧ tn (i + 1) s2.heap ∧ ∀ b ∈ fp, H' b = none) E s1) E s
  done : ∀ (X : Cx), X.prog = P → X.w = w → X.K = K → HotX X → ∀ (i : Nat) (pins : List (Addr × Obj)) (s : Shared) (σ : DS.St) (H : Hp) (E : Value → Shared → Prop), Inv X pins σ H s → (∀ b ∈ fp, FpOk X pins H b) → tn i s.heap → J.stop i H →
    wpAny (model P w) X.A (pyNext (.ref it)) (fun r s1 => r = none ∧ Inv X pins σ H s1) E s
  self : ∀ (A : Around) (i : Nat) (s : Shared) (Q : Value → Shared → Prop) (E : Value → Shared → Prop), tn i s.heap → Q (.ref it) s → wpAny (model P w) A (pyIter (.ref it)) Q E s
def PIEH (X : Cx) (pins : List (Addr × Obj)) (σ : DS.St) (tg : Expr) (R : It → Hp → Prop) (itv : Value) (s2 : Shared) : Prop :=
  ∃ (it : Addr) (fp : List Addr) (tn : Nat → Heap → Prop) (J : It) (H' : Hp), itv = .ref it ∧ Inv X pins σ H' s2 ∧ TurnH X.prog X.w X.K tg J fp it tn ∧ tn 0 s2.heap ∧ (∀ b ∈ fp, FpOk X pins H' b) ∧ R J H'
structure PIH (X : Cx) (tg iter : Expr) (wi : TI) : Prop where
  run : ∀ (pins : List (Addr × Obj)) (s : Shared) (σ : DS.St) (H : Hp) (R : It → Hp → Prop), Inv X pins σ H s → wi σ H R →
    wpAny (model X.prog X.w) X.A (eval iter X.env) (fun v s1 => wpAny (model X.prog X.w) X.A (pyIter v) (PIEH X pins σ tg R) X.xe s1) X.xe s
theorem turn_listH {P : Program} {w : World} {K : PySem.W.Frag} {tg : Expr} (a it : Addr) : TurnH P w K tg (Itl K a) [it] it (fun i h => h.IsListIter it a i) where
  mem := by simp
  obj := fun i h st b hb => by
    have e : b = it := by simpa using hb
    subst e
    obtain ⟨o, e, c, d⟩ := st
    exact ⟨o, e, fun v z => by rw [d] at z; cases z⟩
  keep := fun i h h' st k => st.at fun o e => k it (by simp) o e
  item := by
    intro X hP hw hK hc i pins s σ H E I hf st hg
    subst hP hw hK
    obtain ⟨xs, x, hq, hx⟩ := hg
    obtain ⟨its, rv, p, hz⟩ := I.list hq
    obtain ⟨u, hu, ru⟩ := rv.get hx
    obtain ⟨f0, f1, f2, f3, f4, f5⟩ := hf it (by simp)
    refine wpAny_pyNext_list_item st p.isList (x := u) (by simpa using hu) fun h' st' sb => ?_
    have I1 : Inv X pins σ H { s with heap := h' } := I.turned (t' := s.toks) (fun b o hb e => (sb.2 b hb).trans e) f0 f1 f3 f4 f5
    obtain ⟨o, e, c, d⟩ := id st'
    exact ⟨u, rfl, go_of (s := { s with heap := h' }) e c d (by decide) ⟨x, H, I1, ru, ⟨rfl, fun ys hy => by rw [I.list_inj hy hq]; exact hx⟩, st', fun b hb => (hf b hb).1⟩⟩
  done := by
    intro X hP hw hK hc i pins s σ H E I hf st hg
    subst hP hw hK
    obtain ⟨xs, hq, hx⟩ := hg
    obtain ⟨its, rv, p, hz⟩ := I.list hq
    obtain ⟨c, oe, hc⟩ := hc
    have ne := hc.ne I (hf it (by simp))
    obtain ⟨f0, f1, f2, f3, f4, f5⟩ := hf it (by simp)
    have hl := rv.length
    exact pyNext_list_end_hot (hc.at I) ne st p.isList (by simp; omega) fun h' eb => ⟨rfl, I.turned (t' := s.toks) (fun b o hb e => eb b o hb e) f0 f1 f3 f4 f5⟩
  self := fun _ _ _ _ _ st h => wpAny_pyIter_listiter st h
theorem pi_listH {l : Expr} {tl : TE} (hl : PE X l tl) : PIH X tg l (iList X.K tl) := by
  refine ⟨fun pins s σ H R I h => ?_⟩
  refine thn (hl.run pins s σ H _ I h) fun v s1 ⟨x, H1, I1, r1, q1⟩ => ?_
  obtain ⟨a, e, ⟨xs, hq⟩, q⟩ := q1
  subst e
  cases r1
  obtain ⟨its, rv, p, hz⟩ := I1.list hq
  refine wpAny_pyIter_list p.isList ?_
  refine ⟨s1.heap.objs.size, [s1.heap.objs.size], _, _, H1, rfl, I1.kept (t' := s1.toks) fun b o e => Heap.get?_push_of_some _ e, turn_listH a _, ⟨_, Heap.get?_push_size _ rfl, rfl, rfl⟩, fun b hb => ?_, q⟩
  have e : b = s1.heap.objs.size := by simpa using hb
  subst e
  exact I1.fpOk (Nat.le_refl _) (I1.hok.fresh (Nat.le_refl _))
end
section
variable {X : Cx}
theorem lc_coreH {pins : List (Addr × Obj)} {s : Shared} {σ : St} {H : Hp} {Q : VK} {elt tg iter : Expr} {ifs : List Expr} {scope : Scope} {own : List (Str × Nat)} {pos pos' : Pos} {wi : TI} {g : TG} {tt : TT} {te : TE} {use : Option (Value → Sem Unit)} {Qf : Value → Shared → Prop}
    (hc : HotX X) (hN : X.N.Nodup) (I : Inv X pins σ H s) (hi : PIH X tg iter wi) (ok : BlkOk X.N X.env.scope scope own)
    (hg : ∀ (s : Shared) (H : Hp) (C : Addr) (cl : List (Str × Addr)) (fp : List Addr), HotX (X.blk s H scope (compEnvC scope cl C X.env) fp) → PG (X.blk s H scope (compEnvC scope cl C X.env) fp) tg g) (ht : ∀ (s : Shared) (H : Hp) (C : Addr) (cl : List (Str × Addr)) (fp : List Addr), PTs (X.blk s H scope (compEnvC scope cl C X.env) fp) ifs tt)
    (he : ∀ (s : Shared) (H : Hp) (C : Addr) (cl : List (Str × Addr)) (fp : List Addr), PE (X.blk s H scope (compEnvC scope cl C X.env) fp) elt te) (hs : ∀ x, foldedSetIterable iter X.env x = pure x)
    (h : tLc wi g tt te (own.map (·.2)) σ H Q)
    (hRR : ∀ D C s' m H', Inv X pins σ H' s' → Q (.ref D) H' → s'.heap.Ns C m → FpOk X pins H' C → compPost (model X.prog X.w) X.A X.xe use Qf (.ref D) C (.ok .next) s') :
    wpAny (model X.prog X.w) X.A (comprehension (.ListComp elt [⟨tg, iter, ifs, 0⟩] scope pos) scope X.env pos' (newList []) false (eval iter X.env) use) Qf X.xe s := by
  have hfree : ∀ y ∈ scope.names, y.2 = .free → ∃ c, X.env.cells.lookup y.1 = some c := fun y hy e => by
    rcases ok.free y hy e with k | k
    · exact I.ok.has _ (.inl k)
    · exact I.ok.has _ (.inr k)
  refine wpAny_comprehension_free (use := use) rfl hs (closure_ok hfree) ok.kind (fun y hy e => by rw [ok.uniq y hy, e])
    (thn (hi.run pins s σ H _ I h) fun xv s1 hx => thn hx fun itv s2 h2 => ?_)
  obtain ⟨it, fp, tn, J, H2, e, I2, T, st2, f2, q⟩ := h2
  subst e
  refine wpAny_newObj_type (newEnv_comp ?_) (by show 0 ≤ sizeLine; decide)
  generalize hD : s2.heap.objs.size = D
  have hDn : H2 D = none := I2.hok.fresh (Nat.le_of_eq hD)
  obtain ⟨W, ⟨m0, w0⟩, turn⟩ := q D hDn
  -- the new list
  generalize hs3 : ({ s2 with heap := s2.heap.push { cls := .type "list", data := .seq ([] : List Value).toArray } } : Shared) = s3
  have I3 : Inv X pins σ (upd H2 D (.lst [])) s3 := by
    rw [← hs3]
    refine I2.laid (t' := s2.toks) (fun b o e => Heap.get?_push_of_some _ e) (Nat.le_of_eq hD) ⟨Nat.zero_le _, [], 0, .nil, ?_⟩
    rw [← hD]
    exact Heap.get?_push_size _ rfl
  have h3 : s3.heap = s2.heap.push { cls := .type "list", data := .seq ([] : List Value).toArray } := by rw [← hs3]
  have sz : ∀ b ∈ fp, b < s2.heap.objs.size := fun b hb => by
    obtain ⟨o, e, _⟩ := T.obj _ _ st2 b hb
    exact Heap.lt_size e
  have f3 : ∀ b ∈ fp, FpOk X pins (upd H2 D (.lst [])) b ∧ b < s3.heap.objs.size := fun b hb => by
    have hlt := sz b hb
    refine ⟨⟨?_, (f2 b hb).2⟩, by rw [h3, Heap.size_push]; exact Nat.lt_succ_of_lt hlt⟩
    rw [upd_ne (by rw [← hD]; exact Nat.ne_of_lt hlt)]
    exact (f2 b hb).1
  have st3 : tn 0 s3.heap := T.keep _ _ _ st2 fun b _ o e => by rw [h3]; exact Heap.get?_push_of_some _ e
  have I4 := block_start I3 ok hN f3
  have pg := hg s3 (upd H2 D (.lst [])) s3.heap.objs.size (cellsFrom (s3.heap.objs.size + 1) scope.names (cloFrom X.env.cells scope.names [])) fp (hc.blk I3 fun b hb => (f3 b hb).1)
  have pt := ht s3 (upd H2 D (.lst [])) s3.heap.objs.size (cellsFrom (s3.heap.objs.size + 1) scope.names (cloFrom X.env.cells scope.names [])) fp
  have pe := he s3 (upd H2 D (.lst [])) s3.heap.objs.size (cellsFrom (s3.heap.objs.size + 1) scope.names (cloFrom X.env.cells scope.names [])) fp
  show codeAny _ _ (.compStart (.ListComp elt [⟨tg, iter, ifs, 0⟩] scope pos) 0 (.ref it) (.ref D) (compEnvC scope (cellsFrom (s3.heap.objs.size + 1) scope.names (cloFrom X.env.cells scope.names [])) s3.heap.objs.size X.env)) (compPost (model X.prog X.w) X.A X.xe use Qf (.ref D) s3.heap.objs.size) { s3 with heap := pushCells (s3.heap.push { cls := .type "dict", data := .dict #[] }) scope.names }
  have nfp : ∀ b ∈ fp, (upd H2 D (.lst [])) b = none := fun b hb => (f3 b hb).1.1
  generalize hce : compEnvC scope (cellsFrom (s3.heap.objs.size + 1) scope.names (cloFrom X.env.cells scope.names [])) s3.heap.objs.size X.env = ce at I4 pg pt pe ⊢
  have cL : ce.locals = s3.heap.objs.size := by subst hce; rfl
  generalize hH3 : upd H2 D (.lst []) = H3 at I3 I4 pg pt pe w0 nfp f3
  generalize hs4 : ({ s3 with heap := pushCells (s3.heap.push { cls := .type "dict", data := .dict #[] }) scope.names } : Shared) = s4 at I4 ⊢
  have st4 : tn 0 s4.heap := T.keep _ _ _ st3 fun b _ o e => by rw [← hs4]; exact pushCells_keeps _ _ _ _ (Heap.get?_push_of_some _ e)
  have stat : ∀ {σ' : St} {H' : Hp} {s' : Shared}, Inv (X.blk s3 H3 scope ce fp) [] σ' H' s' → (∀ b ∈ fp, H' b = none) → ∀ b ∈ fp, FpOk (X.blk s3 H3 scope ce fp) [] H' b := fun {σ' H' s'} I' hn b hb =>
    ⟨hn b hb, (I'.ok.exf b hb).1, I'.ok.exfs b hb, .inl hb, fun x c e => (I'.ok.exf b hb).2 x c e, fun p hp => absurd (show p ∈ ([] : List (Addr × Obj)) ++ [] from hp) (by simp)⟩
  have hcb : HotX (X.blk s3 H3 scope ce fp) := hc.blk I3 fun b hb => (f3 b hb).1
  have loop : codeAny (model X.prog X.w) X.A (.compLoop (.ListComp elt [⟨tg, iter, ifs, 0⟩] scope pos) 0 (.ref it) (.ref D) ce) (compPost (model X.prog X.w) X.A X.xe use Qf (.ref D) s3.heap.objs.size) s4 := by
    refine compLoop_any (fun n s' => ∃ i H', Inv (X.blk s3 H3 scope ce fp) [] (wipe σ (own.map (·.2))) H' s' ∧ tn i s'.heap ∧ (∀ b ∈ fp, H' b = none) ∧ W i n H') ?_ m0 ⟨0, H3, I4, st4, nfp, w0⟩
    rintro n s5 ⟨i, H5, I5, st5, n5, w5⟩
    rcases turn i n H5 w5 with ⟨stop, qq⟩ | ⟨go, Nx, hNx, step⟩
    · have td := T.done (X.blk s3 H3 scope ce fp) rfl rfl rfl hcb i [] s5 _ H5 (fun _ _ => False) I5 (stat I5 n5) st5 stop
      refine thnF td fun r s6 ⟨hr, I6⟩ => ?_
      subst hr
      -- back in the def's context
      have I7 : Inv X pins σ H5 s6 := I3.call' (ch := fp) I6.os I6.base I6.hok I6.bare fun b hb => ⟨(f3 b hb).1.2.2.2.1, (f3 b hb).1.2.1, (f3 b hb).1.2.2.2.2.1, (f3 b hb).1.2.2.2.2.2⟩
      have nC : H5 s3.heap.objs.size = none := by
        have z : H5 ce.locals = none := I6.free
        rw [cL] at z
        exact z
      obtain ⟨m, hn, _⟩ := I6.loc
      have hn : s6.heap.Ns ce.locals m := hn
      rw [cL] at hn
      exact hRR D s3.heap.objs.size s6 m H5 I7 qq hn (I3.fpOk (Nat.le_refl _) nC)
    · have ti := T.item (X.blk s3 H3 scope ce fp) rfl rfl rfl hcb i [] s5 _ H5 (fun _ _ => False) I5 (stat I5 n5) st5 go
      refine thnF ti fun r s6 ⟨u, hr, h6⟩ => ?_
      subst hr
      refine thnF h6 fun _ s7 ⟨x, H7, I7, r7, y7, st7, n7⟩ => ?_
      have I7' := I7.pinned (stat I7 n7) (T.obj _ _ st7)
      refine thnF (pg.run _ s7 _ H7 x u _ I7' r7 (step x H7 y7)) fun _ s8 ⟨σ8, H8, I8, hw8, q8⟩ => ?_
      refine thnF (pt.run _ s8 σ8 H8 _ I8 q8) fun b s9 ⟨H9, I9, q9⟩ => ?_
      -- the turn's end
      have fin : ∀ {s' : Shared} {H' : Hp}, Inv (X.blk s3 H3 scope ce fp) ([] ++ pinsAt fp s7.heap) σ8 H' s' → Nx H' → ∃ m, m < n ∧ ∃ i H', Inv (X.blk s3 H3 scope ce fp) [] (wipe σ (own.map (·.2))) H' s' ∧ tn i s'.heap ∧ (∀ b ∈ fp, H' b = none) ∧ W i m H' := fun {s' H'} I' nx => by
        obtain ⟨m', hm, w'⟩ := hNx H' nx
        have pin' : ∀ b ∈ fp, ∀ o, s7.heap.get? b = some o → s'.heap.get? b = some o ∧ H' b = none := fun b hb o e =>
          let z := I'.pin (b, o) (List.mem_append_right _ (List.mem_append_right _ (mem_pinsAt hb e)))
          ⟨z.1, z.2.1⟩
        have hl : (wipe σ (own.map (·.2))).length = σ8.length := by rw [← hw8, wipe_length]
        refine ⟨m', hm, i + 1, H', (I'.unpinned (pins := [])).weak hl (fun j v e => ?_), T.keep _ _ _ st7 fun b hb o e => (pin' b hb o e).1, fun b hb => ?_, w'⟩
        · rw [← hw8] at e
          exact (wipe_some e).1
        · obtain ⟨o, e, _⟩ := T.obj _ _ st7 b hb
          exact (pin' b hb o e).2
      cases b with
      | false =>
        simp only [Bool.false_eq_true, if_false] at q9 ⊢
        exact fin I9 q9
      | true =>
        simp only [if_true] at q9 ⊢
        refine thnF (pe.run _ s9 σ8 H9 _ I9 q9) fun z s10 ⟨yv, H10, I10, r10, acc, hD10, hz10, nx⟩ => ?_
        exact app_ok (X := X.blk s3 H3 scope ce fp) I10 hD10 hz10 r10 fun s11 I11 => fin I11 nx
  exact codeAny_compStart_list loop (T.self X.A 0 _ _ _ st4 loop)
theorem pe_lcH {elt tg iter : Expr} {ifs : List Expr} {scope : Scope} {own : List (Str × Nat)} {pos : Pos} {wi : TI} {g : TG} {tt : TT} {te : TE} (hc : HotX X) (hN : X.N.Nodup) (hi : PIH X tg iter wi) (ok : BlkOk X.N X.env.scope scope own)
    (hg : ∀ (s : Shared) (H : Hp) (C : Addr) (cl : List (Str × Addr)) (fp : List Addr), HotX (X.blk s H scope (compEnvC scope cl C X.env) fp) → PG (X.blk s H scope (compEnvC scope cl C X.env) fp) tg g) (ht : ∀ (s : Shared) (H : Hp) (C : Addr) (cl : List (Str × Addr)) (fp : List Addr), PTs (X.blk s H scope (compEnvC scope cl C X.env) fp) ifs tt)
    (he : ∀ (s : Shared) (H : Hp) (C : Addr) (cl : List (Str × Addr)) (fp : List Addr), PE (X.blk s H scope (compEnvC scope cl C X.env) fp) elt te) (hs : ∀ x, foldedSetIterable iter X.env x = pure x := by intro _; rfl) :
    PE X (.ListComp elt [⟨tg, iter, ifs, 0⟩] scope pos) (tLc wi g tt te (own.map (·.2))) := by
  refine ⟨fun pins s σ H Q I h => ?_⟩
  rw [eval_ListComp]
  refine lc_coreH hc hN I hi ok hg ht he hs h fun D C s' m H' I' q hn f => ⟨m, hn, fun h'' sb => ?_⟩
  obtain ⟨f0, f1, f2, f3, f4, f5⟩ := f
  exact ⟨.ref D, H', I'.turned (t' := s'.toks) (fun b o hb e => (sb.2 b hb).trans e) f0 f1 f3 f4 f5, rfl, q⟩
end
end DS
namespace DS
open PySem PySem.Spec PyProof.Rows L2 PySem.Calls
section
variable {X : Cx} {W : WX} {xa : Xc → Addr} {e a b tg iter : Expr} {f g : Ef} {p pos pos' p2 : Pos} {x : Str} {gt : TG} {bnd : Bn} {js : List Nat}
abbrev PIDH (X : Cx) (W : WX) (xa : Xc → Addr) (m : Md) (tg e : Expr) (g : TG) (bnd : Bn) (js : List Nat) (src : Sfn) : Prop := PIH X tg e (tI (bs X) W xa m g bnd js src)
theorem impIH {X : Cx} {tg e : Expr} {t t' : TI} (h : PIH X tg e t) (k : ∀ σ H R, t' σ H R → t σ H R) : PIH X tg e t' := ⟨fun pins s σ H R I q => h.run pins s σ H R I (k σ H R q)⟩
theorem pid_listH (hb : BndOk (bs X) gt bnd js) (ha : PD X W xa .r e f) : PIDH X W xa .r tg e gt bnd js (sLst f) := impIH (pi_listH ha) fun σ H R h => by
  obtain ⟨D, F, env, r0, S, e, q⟩ := h
  unfold sLst at e
  split at e
  · rename_i ds hf
    cases e
    refine ⟨D, F, env, .ok (.list ds), S, hf, fun v F1 H1 x1 g1 => ?_⟩
    obtain ⟨a, xs, rfl, h1, hz, h2⟩ := Top.lst g1
    exact ⟨a, rfl, ⟨xs, .of h1⟩, q _ F1 H1 x1 (wlk_list hb (by rw [← h2.length]; exact hz) fun F H r => ⟨Ext.ex r _ _ h1, h2.ext r⟩)⟩
  · rename_i c hf
    cases e
    exact ⟨D, F, env, .error c, S, hf, q⟩
  · cases e
theorem pd_lcH {elt : Expr} {ifs : List Expr} {scope : Scope} {own : List (Str × Nat)} {src : Sfn} {tst el : Ef} (hc : HotX X) (hN : X.N.Nodup) (hi : PIDH X W xa .r tg iter gt bnd js src) (ok : BlkOk X.N X.env.scope scope own)
    (hg : ∀ (s : Shared) (H : Hp) (C : Addr) (cl : List (Str × Addr)) (fp : List Addr), HotX (X.blk s H scope (compEnvC scope cl C X.env) fp) → PG (X.blk s H scope (compEnvC scope cl C X.env) fp) tg gt)
    (ht : ∀ (s : Shared) (H : Hp) (C : Addr) (cl : List (Str × Addr)) (fp : List Addr), PTs (X.blk s H scope (compEnvC scope cl C X.env) fp) ifs (tB (tM (bs X) W0 xa .e tst)))
    (he : ∀ (s : Shared) (H : Hp) (C : Addr) (cl : List (Str × Addr)) (fp : List Addr), PE (X.blk s H scope (compEnvC scope cl C X.env) fp) elt (tM (bs X) W0 xa .e el)) (hj : ∀ j ∈ js, j ∈ own.map (·.2)) (hs : ∀ x, foldedSetIterable iter X.env x = pure x := by intro _; rfl) :
    PD X W xa .o (.ListComp elt [⟨tg, iter, ifs, 0⟩] scope pos) (eLC src bnd tst el (own.map (·.2))) := impE (pe_lcH hc hN hi ok hg ht he hs) fun _ _ _ h => tLc_of hj h
theorem pd_repL (ha : PD X W xa .r a f) (hb : PD X W xa .e b g) : PD X W xa .o (.BinOp a .Mult b pos) (lift2 iRep f g) := pd_op (by simp) op_rep (by
  intro x y z v u H1 H2 F H Q e gx gy hd k
  cases x <;> first | (simp [iRep] at e; done) | skip
  rename_i xs
  cases y <;> first | (simp [iRep] at e; done) | skip
  rename_i j
  simp only [iRep, Option.ite_none_right_eq_some, Option.some.injEq] at e
  obtain ⟨⟨h0, h1, hz⟩, rfl⟩ := e
  obtain ⟨p, ps, rfl, hp, zp, rp⟩ := Top.lst gx
  cases Dd.int_ gy
  have hz' : ps.length * j.toNat ≤ sizeLine := by rw [rp.length]; exact hz
  have rep : ∀ n, DdAll (bs X) F H (List.replicate n ps).flatten (List.replicate n xs).flatten := by
    intro n
    induction n with
    | zero => exact .nil
    | succ n ih =>
      rw [List.replicate_succ, List.replicate_succ, List.flatten_cons, List.flatten_cons]
      exact rp.append ih
  refine ⟨p, j, ps, rfl, rfl, hp, by omega, by omega, hz', fun t ht => ?_⟩
  have x := Ext.of hd (Ex.new (o := .lst (List.replicate j.toNat ps).flatten) ht)
  refine k _ F _ x ⟨t, rfl, fun f => hd t f ht, ht, .lst upd_same ?_ ((rep _).ext x)⟩
  rw [PyProof.Rows.lm_len_rep_flat, Nat.mul_comm]
  exact hz') ha hb
theorem nd_rep {f g : Ef} : NoD (lift2 iRep f g) := fun env d e => by
  simp only [lift2, bindR] at e
  split at e
  · cases e
  · cases e
  · split at e
    · cases e
    · cases e
    · simp only [Option.map_eq_some_iff, Except.ok.injEq] at e
      obtain ⟨z, e, rfl⟩ := e
      unfold iRep at e
      split at e
      · simp only [Option.ite_none_right_eq_some, Option.some.injEq] at e
        rw [← e.2]
        rfl
      · cases e
/-- what the classes of errors say of one another -/
structure ExOk (K : PySem.W.Frag) (xa : Xc → Addr) : Prop where
  c : ∀ d, ExcC K (xa d)
  is : ∀ d c, PySem.W.kitOne K (.ref (xa d)) (.ref (xa c)) = some (decide (d = c))
  ve : ∀ d, PySem.W.kitOne K (.ref (xa d)) (.type "ValueError") = some true
/-- the exception's class is c's -/
def HotC (X : Cx) (xa : Xc → Addr) (c : Xc) : Prop := ∃ a oe, HotO X a oe ∧ Zc (.ref (xa c)) none oe
theorem HotC.hot {c : Xc} (h : HotC X xa c) : HotX X := let ⟨a, oe, h, _⟩ := h; ⟨a, oe, h⟩
/-- in an except suite -/
def HotP (X : Cx) (xa : Xc → Addr) (c : Xc) : Prop := ∃ a oe, (a, oe) ∈ X.pn ∧ HotO X a oe ∧ Zc (.ref (xa c)) none oe
theorem HotP.c {X : Cx} {xa : Xc → Addr} {c : Xc} (h : HotP X xa c) : HotC X xa c := let ⟨a, oe, _, h, z⟩ := h; ⟨a, oe, h, z⟩
def dIsX (b : Bool) (x : PyData) : Option PyData := match x with
  | .dict [(.none, .none)] => some (.bool b)
  | _ => none
theorem call_isH {c : Xc} {a : Addr} {oe : Obj} (E : ExOk X.K xa) (h : HotO X a oe) (hz : Zc (.ref (xa c)) none oe) : CallR X (.builtin "isinstance") (rIsE X.K (xa c) a) := by
  intro pins s σ H xs us Q I r hq
  obtain ⟨c', cv, b, rfl, hcv, e, q⟩ := hq
  have C := E.c c
  cases r with
  | cons rx rr =>
    cases rr with
    | cons rt rr =>
      cases rr
      cases rx
      have ec := hcv _ rt
      subst ec
      obtain ⟨hget, _⟩ := h.get I
      obtain ⟨vs, hv, _⟩ := h.2.1
      have J : PySem.W.InstAt s.heap a oe (xa c) none := by
        obtain ⟨oc, od, oda, osl⟩ := oe
        obtain ⟨h1, h2⟩ := hz
        dsimp only at h1 h2 hv
        subst h1 h2 hv
        exact ⟨hget, rfl, rfl, trivial⟩
      exact PySem.W.kia_one (PySem.W.handS_kitx_exc C.hg C.hk C.hs C.hd C.ha C.hn C.ht C.hm) I.kIn J e (fun z => nomatch z) fun tk => ⟨.bl b, H, I.kept (t' := tk) fun _ _ z => z, rfl, q⟩
theorem Dd.exc_ {B : Bs} {F : Fz} {H : Hp} {v : V} (g : Dd B F H v excD) : ∃ a, v = .ref a ∧ B.h = some (.ref a) := by
  generalize hd : excD = d at g
  cases g <;> first | (cases hd; done) | skip
  · rename_i a o xs kvs h z pp
    cases hd
    cases pp with
    | cons k n z b p => cases k
  · rename_i a h
    exact ⟨a, rfl, h⟩
theorem pd_isXg {c : Xc} {ec : Expr} {vc : V} {cv : Value} {bb : Bool} (E : ExOk X.K xa) (hh : HotC X xa c) (hg : Gl X "isinstance") (hm : X.mg "isinstance" = none) (ha : PD X W xa .e e f) (hc : PE X ec (tC vc)) (hv : ∀ u, RelV vc u → u = cv) (hk : PySem.W.kitOne X.K (.ref (xa c)) cv = some bb)
    (he : starEach (e :: [ec]) X.env = (false, eval e X.env) :: starEach [ec] X.env) (he2 : starEach (ec :: []) X.env = (false, eval ec X.env) :: starEach [] X.env) (hpl : (backTo pos (starEach [ec] X.env)).any (·.1) = false) :
    PD X W xa .e (.Call (.Name "isinstance" p) [e, ec] [] pos) (lift1 (dIsX bb) f) := by
  obtain ⟨a, oe, ho, hz⟩ := hh
  refine impE (pe_callB (call_isH E ho hz) hg hm (by decide +kernel) (pa_cons ha (pa_cons hc pa_nil he2) he) (by decide) (by decide) he hpl) fun σ H Q h =>
    tUn_of (r := fun v H Q => rIsE X.K (xa c) a [v, vc] H Q) (by
      intro x z v H1 F H Q e g hd k
      unfold dIsX at e
      split at e
      · cases e
        obtain ⟨a', rfl, h'⟩ := Dd.exc_ g
        have e2 : (some (Value.ref a) : Option Value) = some (.ref a') := ho.1.symm.trans h'
        cases e2
        exact ⟨vc, cv, bb, rfl, hv, hk, k _ F H (Ext.refl hd) (.bl _)⟩
      · cases e) h
theorem pd_isX {c d : Xc} (E : ExOk X.K xa) (hh : HotC X xa c) (hg : Gl X "isinstance") (hm : X.mg "isinstance" = none) (ha : PD X W xa .e e f) (hgx : Gl X x) (O : XcOk X.K X.mg xa x d) (hdx : (x == ("__debug__" : Str)) = false := by decide)
    (he : starEach (e :: [.Name x p2]) X.env = (false, eval e X.env) :: starEach [.Name x p2] X.env := by rfl) (he2 : starEach (.Name x p2 :: []) X.env = (false, eval (.Name x p2) X.env) :: starEach [] X.env := by rfl) (hpl : (backTo pos (starEach [.Name x p2] X.env)).any (·.1) = false := by rfl) :
    PD X W xa .e (.Call (.Name "isinstance" p) [e, .Name x p2] [] pos) (lift1 (dIsX (decide (c = d))) f) :=
  pd_isXg E hh hg hm ha (pe_glob (v := .ref (xa d)) hgx O.mg rfl hdx) (fun u r => by cases r; rfl) (E.is c d) he he2 hpl
theorem pd_isV {c : Xc} (E : ExOk X.K xa) (hh : HotC X xa c) (hg : Gl X "isinstance") (hm : X.mg "isinstance" = none) (ha : PD X W xa .e e f) (hgx : Gl X "ValueError") (hmx : X.mg "ValueError" = none)
    (he : starEach (e :: [.Name "ValueError" p2]) X.env = (false, eval e X.env) :: starEach [.Name "ValueError" p2] X.env := by rfl) (he2 : starEach (.Name "ValueError" p2 :: []) X.env = (false, eval (.Name "ValueError" p2) X.env) :: starEach [] X.env := by rfl) (hpl : (backTo pos (starEach [.Name "ValueError" p2] X.env)).any (·.1) = false := by rfl) :
    PD X W xa .e (.Call (.Name "isinstance" p) [e, .Name "ValueError" p2] [] pos) (lift1 (dIsX true) f) :=
  pd_isXg E hh hg hm ha (pe_bltn (v := .ty "ValueError") hgx hmx rfl rfl (by decide) (by decide)) (fun u r => by cases r; rfl) (E.ve c) he he2 hpl
end
/-- the slots that are own are forgotten -/
def dropO : Option (Bool × PyData) → Option (Bool × PyData)
  | some (false, d) => some (false, d)
  | _ => none
def exEnv (n i : Nat) : DS.Env := (List.replicate n none).set i (some (false, excD))
/-- what a suite may tell: new lists of unchanging things, unchanging things -/
def plainR : Bool → PyData → Bool
  | true, .list ds => imms ds
  | false, d => imm d
  | _, _ => false
def sTry (n i : Nat) (g : Sf) (gs : Xc → Sf) : Sf := fun env => match g (env.map dropO) with
  | some (.xc c) => match gs c (exEnv n i) with
    | some (.rt b d) => if plainR b d = true then some (.rt b d) else none
    | _ => none
  | r => r
theorem getDrop {env : DS.Env} {i : Nat} {b : Bool} {d : PyData} (h : (env.map dropO)[i]? = some (some (b, d))) : b = false ∧ env[i]? = some (some (false, d)) := by
  rw [List.getElem?_map] at h
  obtain ⟨x, h1, h2⟩ := Option.map_eq_some_iff.mp h
  rcases x with _ | ⟨b', d'⟩
  · cases h2
  · cases b' with
    | true => cases h2
    | false =>
      cases h2
      exact ⟨rfl, h1⟩
theorem Stt.drop {B : Bs} {D : Bd} {F : Fz} {H : Hp} {σ : DS.St} {env : DS.Env} (S : Stt B D F H σ env) : Stt B ⟨H, fun a => H a ≠ none, F⟩ F H σ (env.map dropO) := by
  refine ⟨Ex.refl H, fun _ h => h, fun _ h => h, fun _ h => .inl h, S.dom, by rw [List.length_map]; exact S.len, fun i d e => ?_, fun i d e => ?_, fun i j d d' a e1 e2 e3 e4 => ?_⟩
  · exact S.slot i d (getDrop e).2
  · have := (getDrop e).1
    cases this
  · have := (getDrop e1).1
    cases this
theorem Fin.out {B : Bs} {D : Bd} {F F' : Fz} {H H' : Hp} {σ : DS.St} {env : DS.Env} (S : Stt B D F H σ env) (f : Fin ⟨H, fun a => H a ≠ none, F⟩ F' H') : Fin D F' H' :=
  ⟨S.pro.trans f.pro, fun a h z => S.bn a h (f.pro.free z), fun a h => f.sub a (S.sub a h), fun a h => (f.new a h).elim (S.new a) fun z => .inr fun b => z (S.bn a b), f.dom⟩
theorem Stt.out {B : Bs} {D : Bd} {F F' : Fz} {H H' : Hp} {σ σ' : DS.St} {env env' : DS.Env} (S : Stt B D F H σ env) (f : Stt B ⟨H, fun a => H a ≠ none, F⟩ F' H' σ' env') : Stt B D F' H' σ' env' := by
  have g := Fin.out S f.fin
  refine ⟨g.pro, g.bn, g.sub, g.new, g.dom, f.len, f.slot, fun i d e => ?_, f.sep⟩
  obtain ⟨a, h1, h2, h3, h4, h5⟩ := f.own i d e
  have hn : H a = none := h3
  refine ⟨a, h1, h2, ?_, fun b => S.bn a b hn, h5⟩
  exact S.pro.free hn
theorem GotR.out {B : Bs} {D : Bd} {F F' : Fz} {H H' : Hp} {σ : DS.St} {env : DS.Env} {o : Bool} {v : V} {d : PyData} (S : Stt B D F H σ env) (g : GotR B ⟨H, fun a => H a ≠ none, F⟩ o F' H' v d) : GotR B D o F' H' v d := by
  cases o with
  | false => exact g
  | true =>
    obtain ⟨a, h1, h2, h3, h4⟩ := g
    exact ⟨a, h1, h2, fun b => h3 (S.bn a b), h4⟩
mutual
theorem Dd.immB {B B' : Bs} {F F' : Fz} {H : Hp} : ∀ {v : V} {d : PyData}, DS.imm d = true → Dd B F H v d → Dd B' F' H v d
  | _, _, _, .non => .non
  | _, _, _, .bl b => .bl b
  | _, _, _, .int i => .int i
  | _, _, _, .str x => .str x
  | _, _, i, .tup h a => .tup h (DdAll.immB i a)
  | _, _, i, .lst _ _ _ _ => nomatch i
  | _, _, i, .dic _ _ _ => nomatch i
  | _, _, i, .scr _ => nomatch i
  | _, _, i, .exc _ => nomatch i
  | _, _, i, .adr _ => nomatch i
  | _, _, i, .dk _ _ _ _ => nomatch i
  | _, _, i, .ins _ _ _ _ => nomatch i
theorem DdAll.immB {B B' : Bs} {F F' : Fz} {H : Hp} : ∀ {vs : List V} {ds : List PyData}, imms ds = true → DdAll B F H vs ds → DdAll B' F' H vs ds
  | _, _, _, .nil => .nil
  | _, _, i, .cons a b => .cons (Dd.immB (Bool.and_eq_true_iff.mp i).1 a) (DdAll.immB (Bool.and_eq_true_iff.mp i).2 b)
end
theorem GotR.plain {B B' : Bs} {D : Bd} {F : Fz} {H : Hp} {o : Bool} {v : V} {d : PyData} (h : plainR o d = true) (g : GotR B D o F H v d) : GotR B' D o F H v d := by
  cases o with
  | false => exact Dd.immB h g
  | true =>
    obtain ⟨a, h1, h2, h3, h4⟩ := g
    refine ⟨a, h1, h2, h3, ?_⟩
    cases h4 with
    | lst g1 g2 g3 => exact .lst g1 g2 (DdAll.immB h g3)
    | dic g1 g2 g3 => cases h
section
variable {X : Cx} {W : WX} {xa : Xc → Addr} {x n : Str} {i : Nat} {C : Addr} {body suite : List Stmt} {b₀ : Stmt} {np pos pos' : Pos} {g : Sf} {gs : Xc → Sf}
theorem psd_try (hs : X.stack = X.env :: X.outer) (hf : X.env.frame = some X.env.locals) (hN : X.N.Nodup) (i : Nat) (hi : X.N[i]? = some n) (hln : X.env.kindOf n = some .local) (hc : Names X x (.ref C)) (hx : ∀ c, PySem.W.exmOne X.K (.ref (xa c)) (.ref C) = some true) (tk : L2N.Takes X W)
    (hb : ∀ (W' : WX) (pn : List (Addr × Obj)) (xe : Value → Shared → Prop), L2N.Takes (X.tr pn xe) W' → PSsD (X.tr pn xe) W' xa body g)
    (hsu : ∀ (a : Addr) (oe : Obj) (c : Xc) (pn : List (Addr × Obj)), HotP (X.suite a ((a, oe) :: pn)) xa c → PSsD (X.suite a ((a, oe) :: pn)) W0 xa (b₀ :: suite) (gs c)) :
    PSD X W xa (.Try body [.ExceptHandler (some (.Name x np)) (some n) (b₀ :: suite) pos'] [] [] pos) (sTry X.N.length i g gs) := by
  refine impS (L2N.ps_try_as (c := .ref C) (i := i) (Wout := W) (tb := fun W' => tS (bs X) W' xa g)
    (ts := fun a cls d => fun E σ H => ∃ c, cls = .ref (xa c) ∧ d = none ∧ (σ.length = X.N.length → tS ⟨X.prog, X.w, X.K, some (.ref a)⟩ W0 xa (gs c) E σ H)) hs hf hN hi hln hc tk (fun W' pn xe tk' _ => hb W' pn xe tk') (fun a oe cls d pn zn hfl => ?_)) fun E σ H h => ?_
  · refine ⟨fun pins s σ H D I h => ?_⟩
    obtain ⟨c, rfl, rfl, h⟩ := h
    obtain ⟨vs, hv⟩ := hfl
    exact (hsu a oe c pn ⟨a, oe, List.mem_cons_self, ⟨rfl, ⟨vs, hv, zn.2.2 vs hv⟩, .inl List.mem_cons_self⟩, zn.zc⟩).run pins s σ H D I (h I.len)
  · obtain ⟨D, F, env, out, S, e, q⟩ := h
    unfold sTry at e
    cases hg : g (env.map dropO) with
    | none => rw [hg] at e; cases e
    | some o =>
      rw [hg] at e
      refine ⟨_, F, _, o, S.drop, hg, ?_⟩
      cases o with
      | nx env' => cases e; exact fun σ' F' H' k S' => q σ' F' H' k (S.out S')
      | bk env' => cases e; exact fun σ' F' H' k S' => q σ' F' H' k (S.out S')
      | ct env' => cases e; exact fun σ' F' H' k S' => q σ' F' H' k (S.out S')
      | rt o d => cases e; exact fun v F' H' f gt => q v F' H' (Fin.out S f) (GotR.out S gt)
      | xc c =>
        simp only at e
        intro σ' H' ex
        have ex' : Ex H H' := ex
        refine ⟨true, hx c, fun _ a ha => ⟨c, rfl, rfl, fun len => ?_⟩, fun z => nomatch z⟩
        cases hgs : gs c (exEnv X.N.length i) with
        | none => rw [hgs] at e; cases e
        | some o2 =>
          rw [hgs] at e
          cases o2 <;> first | (cases e; done) | skip
          rename_i b d
          simp only [Option.ite_none_right_eq_some, Option.some.injEq] at e
          obtain ⟨hp, rfl⟩ := e
          have hil : i < X.N.length := (List.getElem?_eq_some_iff.mp hi).1
          have lenσ : σ'.length = X.N.length := by rw [List.length_set] at len; exact len
          refine ⟨D, F, exEnv X.N.length i, .rt b d, ⟨S.pro.trans ex', fun a h z => S.bn a h (ex'.free z), S.sub, S.new, fun a h z => S.dom a h (ex'.free z), ?_, fun j d' e => ?_, fun j d' e => ?_, fun j k d1 d2 a e1 e2 e3 e4 => ?_⟩, hgs, fun v F' H'' f gt => q v F' H'' f (GotR.plain hp gt)⟩
          · unfold exEnv
            rw [List.length_set, List.length_set, List.length_replicate]
            exact lenσ
          · unfold exEnv at e
            by_cases hj : i = j
            · subst hj
              rw [List.getElem?_set_self (by rw [List.length_replicate]; exact hil)] at e
              cases e
              exact ⟨.ref a, List.getElem?_set_self (by rw [lenσ]; exact hil), .exc rfl⟩
            · rw [List.getElem?_set_ne hj, List.getElem?_replicate] at e
              split at e <;> cases e
          · unfold exEnv at e
            by_cases hj : i = j
            · subst hj
              rw [List.getElem?_set_self (by rw [List.length_replicate]; exact hil)] at e
              cases e
            · rw [List.getElem?_set_ne hj, List.getElem?_replicate] at e
              split at e <;> cases e
          · unfold exEnv at e1
            by_cases hj : i = j
            · subst hj
              rw [List.getElem?_set_self (by rw [List.length_replicate]; exact hil)] at e1
              cases e1
            · rw [List.getElem?_set_ne hj, List.getElem?_replicate] at e1
              split at e1 <;> cases e1
end
open L2H in
structure FnX (P : Program) (w : World) (K : PySem.W.Frag) (mg : Str → Option Value) (base : Heap) (CX : CXT) (k : Nat) (f : Addr) (fd : FuncData) (ps : List Str) (sp : Addr × Obj → Sp) : Prop where
  len : ∀ p vs H Q E, sp p vs H Q E → vs.length = ps.length
  run : ∀ (A : Around) (outer : List PySem.Env) (s : Shared) (H : Hp) (args : Args) (us : List Value) (vs : List V) (Q : VK) (E : XK) (p : Addr × Obj), RoomH k A → Hot1 A p → PinOk outer H s p → Env0 P w K mg base A outer s H → BindsTo s fd args (ps.zip us) → Vals vs us → sp p vs H Q E →
    codeAny (model P w) A (.call (.ref f) args) (CR CX outer P w H s Q E) s
open L2H in
theorem fnX_of {CX : CXT} {P : Program} {w : World} {K : PySem.W.Frag} {mg : Str → Option Value} {base : Heap} {k : Nat} {f : Addr} {name qual : Str} {params : Arguments} {body : List Stmt} {scope : Scope} {dV kV doc pm cdv ct oc : Value} {an od : Option Addr}
    {osl : Array (Option Value)} {N ps : List Str} {sp : Addr × Obj → Sp} (lk : K.lookup f = some ⟨oc, od, .func (PySem.W.fnOf name qual params body scope dV kV doc pm an cdv ct), osl⟩) (hcd : PySem.W.codeIn K cdv qual = true) (S : FnScope N ps scope)
    (len : ∀ p vs H Q E, sp p vs H Q E → vs.length = ps.length)
    (hbody : ∀ (A : Around) (outer : List PySem.Env) (s : Shared) (H : Hp) (vs : List V) (Q : VK) (E : XK) (p : Addr × Obj), Hot1 A p → RoomH k (A.deeper (envOfC qual scope s.heap.objs.size f cdv)) → sp p vs H Q E →
      ∃ t, PSs (cxH CX P w K mg base N qual scope f cdv A outer s H E p) body t ∧ t { nx := fun _ H' => Q .non H', rt := Q } (L2.start N vs) H) :
    FnX P w K mg base CX (k + 1) f (PySem.W.fnOf name qual params body scope dV kV doc pm an cdv ct) ps sp := by
  refine ⟨len, fun A outer s H args us vs Q E p hr hot hpin e0 hb r hsp => ?_⟩
  have hl := len _ _ _ _ _ hsp
  have KX : K.In s.heap := e0.mod.kin.keeps fun b o e => (e0.bs b o e).1
  have lim : s.heap.NoLimit := e0.mod.nolimit.keeps fun b o e => (e0.bs b o e).1
  have hkind : ∀ y ∈ ps.zip us, scope.names.lookup y.1 = some .local ∨ (scope.names.lookup y.1 = some .cell ∧ ((cellsFrom (s.heap.objs.size + 1) scope.names []).lookup y.1).isSome = true) := fun ⟨n, v⟩ hy => by
    rcases S.par n (List.of_mem_zip hy).1 with q | q
    · exact .inl q
    · exact .inr ⟨q, PySem.W.cellsFrom_some _ _ _ (.inl q)⟩
  refine codeAny_call_function hr.depth (KX _ _ lk) rfl S.co S.gen rfl (PySem.W.codeRec_of KX hcd) (hb _ _ _ _ ?_)
  refine wpAny_newFunctionEnv_cells S.kind hkind fun env he s1 x => ?_
  subst he
  refine ⟨lim.keeps x.toInCall.keep, codeAny_func ?_⟩
  obtain ⟨t, ht, hq⟩ := hbody A outer s H vs Q E p hot (hr.deeper _) hsp
  have I : Inv (cxH CX P w K mg base N qual scope f cdv A outer s H E p) [] (L2.start N vs) H s1 := inv_startH S hpin e0 hl r x
  refine wpAny_mono (ht.run [] s1 (L2.start N vs) H _ I hq) (fun fl s' hs => ?_) fun e s' hs => hs
  have fin : ∀ {σ' : DS.St} {H' : Hp} {v : V} {u : Value}, Inv (cxH CX P w K mg base N qual scope f cdv A outer s H E p) [] σ' H' s' → RelV v u → Q v H' → CE outer P w H s Q u s' :=
    fun {σ' H' v u} J rv q => ⟨v, H', J.os, J.bare, J.base, J.hok, rv, q⟩
  cases fl with
  | ret u =>
    obtain ⟨v, σ', H', J, rv, q⟩ := hs
    exact fin J rv q
  | next =>
    obtain ⟨σ', H', J, q⟩ := hs
    exact fin (v := V.non) (u := Value.none) J rfl q
  | brk =>
    obtain ⟨_, _, _, q⟩ := hs
    exact False.elim q
  | cont =>
    obtain ⟨_, _, _, q⟩ := hs
    exact False.elim q
/-- the promise: from the exception that is handled, of c's class, the new list kd c -/
def spK (P : Program) (w : World) (K : PySem.W.Frag) (xa : Xc → Addr) (kd : Xc → List PyData) (p : Addr × Obj) : Sp := fun vs H Q _ => vs = [.ref p.1] ∧ ∃ F c, Dom F H ∧ Zc (.ref (xa c)) none p.2 ∧ ∀ v F' H', Ext F H F' H' → Got ⟨P, w, K, some (.ref p.1)⟩ .o H F' H' v (.list (kd c)) → Q v H'
open L2H in
structure FokK (P : Program) (w : World) (K : PySem.W.Frag) (mg : Str → Option Value) (base : Heap) (xa : Xc → Addr) (k : Nat) (x : Str) (kd : Xc → List PyData) : Prop where
  ok : ∃ f fd ps, FnX P w K mg base (L2N.CX P w) k f fd ps (spK P w K xa kd) ∧ mg x = some (.ref f) ∧ PySem.W.keepIn K (.ref f) = true ∧ Binds K fd ps []
  dbg : (x == ("__debug__" : Str)) = false
section
open L2H
variable {X : Cx} {W : WX} {xa : Xc → Addr} {e : Expr} {x : Str} {k i : Nat} {p pos : Pos}
theorem run_fnX {CX : CXT} {f : Addr} {fd : FuncData} {ps : List Str} {sp : Addr × Obj → Sp} {E : DS.St → XK} {q : Addr × Obj} {pins : List (Addr × Obj)} {σ : DS.St} {H : Hp} {s : Shared} {Q : VK} {us : List Value} {vs : List V} (F : FnX X.prog X.w X.K X.mg X.base CX k f fd ps sp) (hr : RoomH k X.A) (hot : Hot1 X.A q) (hp : q ∈ X.pn) (hb : Binds X.K fd ps []) (hx : PassesAt CX X σ (E σ))
    (I : Inv X pins σ H s) (r : Vals vs us) (h : sp q vs H Q (E σ)) : wpAny (model X.prog X.w) X.A (call (.ref f) us) (EP X pins σ Q) X.xe s := by
  have hl : us.length = ps.length := by rw [← r.length]; exact F.len _ _ _ _ _ h
  have b := hb s us I.kIn (by rw [List.append_nil]; exact hl)
  rw [List.append_nil] at b
  have P1 := I.pin q (List.mem_append_left _ hp)
  have hpin : PinOk X.stack H s q := ⟨P1.1, P1.2.1, fun hm => (List.mem_cons.mp (I.stkSub q.1 hm)).elim P1.2.2.1 P1.2.2.2.1, P1.2.2.2.2⟩
  refine wpAny_call (codeAny_mono (F.run X.A X.stack s H ⟨us, []⟩ us vs Q (E σ) q hr hot hpin I.env0 b r h) fun r s' hq => ?_)
  cases r with
  | error e => exact hx pins H s e s' I hq
  | ok fl =>
    cases fl with
    | ret u => exact I.after hq
    | next => exact False.elim hq
    | brk => exact False.elim hq
    | cont => exact False.elim hq
/-- kind(e) -/
def eKind (ds : List PyData) (f : Ef) : Ef := fun env => match f env with
  | some (.ok (.dict [(.none, .none)])) => some (.ok (.list ds))
  | _ => none
theorem pd_kind {kd : Xc → List PyData} {f : Ef} {c : Xc} (G : FokK X.prog X.w X.K X.mg X.base xa k x kd) (hr : RoomH k X.A) (hh : HotP X xa c) (tk : L2N.Takes X W) (hg : Gl X x) (ha : PD X W xa .e e f)
    (he : starEach (e :: []) X.env = (false, eval e X.env) :: starEach [] X.env := by rfl) (hpl : (backTo pos (starEach [] X.env)).any (·.1) = false := by rfl) : PD X W xa .o (.Call (.Name x p) [e] [] pos) (eKind (kd c) f) := by
  obtain ⟨⟨fa, fd, ps, F, hm, hk, hb⟩, hdb⟩ := G
  obtain ⟨a, oe, hpn, ho, hz⟩ := hh
  have pa : PA X [e] _ := pa_cons ha pa_nil he
  refine ⟨fun pins s σ H Q I h => ?_⟩
  obtain ⟨D, F0, env, r0, S, e0, q⟩ := h
  unfold eKind at e0
  split at e0
  · rename_i hf
    cases e0
    refine wpAny_Call_Name_kw (ld_glob I hg hm ?_ hdb)
    refine PySem.W.callWith_K (h₀ := X.base) I.ok.mod.kin hk (thn (pa.run pos pins s σ H (fun vs H1 => vs = [.ref a] ∧ Ext F0 H F0 H1 ) I ⟨D, F0, env, _, S, hf, fun v F1 H1 x1 g1 => ?_⟩) fun us s1 ⟨vs, H1, I1, r, q1, x1⟩ => ⟨I1.kIn, ?_⟩) he hpl
    · obtain ⟨a', rfl, h'⟩ := Dd.exc_ g1
      have e2 : (some (Value.ref a) : Option Value) = some (.ref a') := ho.1.symm.trans h'
      cases e2
      exact ⟨rfl, Ext.of S.dom x1.ex⟩
    · subst q1
      refine run_fnX (q := (a, oe)) (E := WE W) F hr ⟨ho.1, ho.2.1⟩ hpn hb (L2N.passAt tk σ) I1 r ⟨rfl, F0, c, x1.dom, hz, fun v F' H' x2 g2 => ?_⟩
      refine q v F' H' (x1.trans x2) (Got.back (m := .o) x1.ex ?_)
      have hB : (⟨X.prog, X.w, X.K, some (.ref a)⟩ : Bs) = bs X := by rw [bs, ho.1]
      rw [← hB]
      exact g2
  · cases e0
end
end DS
namespace DS
open PySem PySem.Spec PyProof.Rows L2 PySem.Calls
def Xc.word : Xc → Str
  | .lane => "lane"
  | .ways => "ways"
  | .stand => "stand"
  | .move => "move"
  | .place => "place"
def kindD (c : Xc) : List PyData := [.str c.word, .str "value"]
/-- the class over all errors -/
structure LnOk (K : PySem.W.Frag) (mg : Str → Option Value) (xa : Xc → Addr) (la : Addr) : Prop where
  mg : mg "LaneError" = some (.ref la)
  hx : ∀ c, PySem.W.exmOne K (.ref (xa c)) (.ref la) = some true
theorem LnOk.nm {X : Cx} {xa : Xc → Addr} {la : Addr} (h : LnOk X.K X.mg xa la) (hg : Gl X "LaneError" := by rfl) : Names X "LaneError" (.ref la) := ⟨hg, by decide, .inl h.mg⟩
section
open L2H
variable {P : Program} {w : World} {K : PySem.W.Frag} {mg : Str → Option Value} {base : Heap}
theorem hu_ofH {k : Nat} {A : Around} (r : RoomH k A) : A.units + 65 < cLine := by have := r.un; omega
theorem hu_s {k : Nat} {A : Around} {h : Option Value} (r : Room k A) : (A.mark h).units + 65 < cLine := by have := hu_of r; exact this
theorem rH {k n : Nat} {A : Around} {h : Option Value} (r : Room n A) (hk : k ≤ n) : RoomH k (A.mark h) := ⟨by have := r.dp; show A.depth + 3 * k + 5 < _; omega, by have := r.un; show A.units + 16 * k + 200 < _; omega⟩
theorem mkKind {f : Addr} {fd : FuncData} {N ps : List Str} {k : Nat} {x : Str} {params : Arguments} {body : List Stmt} {scope : Scope} {xa : Xc → Addr} {g : Xc → Sf} {kd : Xc → List PyData}
    (Fd : FunD K x x params body scope [] [] f fd) (Sc : FnScope N ps scope) (gx : mg x = some (.ref f))
    (hbn : ∀ (kV doc pm : Value) (an : Option Addr) (cdv ct : Value) (us : List Value), us.length = ps.length → bindArgs (PySem.W.fnOf x x params body scope .none kV doc pm an cdv ct) ⟨us, []⟩ = pure (ps.zip us)) (hp1 : ps.length = 1) (hps : 1 ≤ N.length) (hd : (x == ("__debug__" : Str)) = false)
    (hb : ∀ (c : Xc) (cdv : Value) (A : Around) (outer : List PySem.Env) (s : Shared) (H : Hp) (E : XK) (p : Addr × Obj), RoomH k (A.deeper (envOfC x scope s.heap.objs.size f cdv)) → HotP (cxH (L2N.CX P w) P w K mg base N x scope f cdv A outer s H E p) xa c →
      PSsD (cxH (L2N.CX P w) P w K mg base N x scope f cdv A outer s H E p) (fun c d _ H' => E c d H') xa body (g c))
    (hk : ∀ c, g c (startE N.length [excD]) = some (.rt true (.list (kd c)))) : FokK P w K mg base xa (k + 1) x kd := by
  refine ⟨⟨f, fd, ps, ?_, gx, Fd.kp, Fd.bindsN hbn⟩, hd⟩
  obtain ⟨oc, od, dV, kV, doc, pm, an, cdv, ct, osl, rfl, lk, hcd, _, _⟩ := Fd.ex
  refine fnX_of lk hcd Sc (fun p vs H Q E ⟨h, _⟩ => by rw [h, hp1]; rfl) fun A outer s H vs Q E p hot hr hsp => ?_
  obtain ⟨rfl, F, c, hdm, hz, q⟩ := hsp
  have hot1 : (A.deeper (envOfC x scope s.heap.objs.size f cdv)).handled = some (.ref p.1) := hot.1
  have hp : HotP (cxH (L2N.CX P w) P w K mg base N x scope f cdv A outer s H E p) xa c := ⟨p.1, p.2, List.mem_singleton.mpr rfl, ⟨hot1, hot.2, .inl (List.mem_singleton.mpr rfl)⟩, hz⟩
  refine ⟨_, hb c cdv A outer s H E p hr hp, ?_⟩
  have hB : (⟨P, w, K, some (.ref p.1)⟩ : Bs) = bs (cxH (L2N.CX P w) P w K mg base N x scope f cdv A outer s H E p) := by
    show _ = (⟨P, w, K, (A.deeper (envOfC x scope s.heap.objs.size f cdv)).handled⟩ : Bs)
    rw [hot1]
  rw [hB] at q
  have S : Stt (bs (cxH (L2N.CX P w) P w K mg base N x scope f cdv A outer s H E p)) ⟨H, fun a => H a ≠ none, F⟩ F H (L2.start N [.ref p.1]) (startE N.length [excD]) := by
    refine ⟨Ex.refl H, fun _ h => h, fun _ h => h, fun _ h => .inl h, hdm, ?_, fun i d e => ?_, fun i d e => ?_, fun i j d d' a e1 e2 e3 e4 => ?_⟩
    · unfold L2.start startE
      simp
    · obtain ⟨d', h1, h2⟩ := start_get e
      cases h2
      cases i with
      | zero =>
        cases h1
        exact ⟨_, start_slot (by rfl), .exc hot1⟩
      | succ i => cases h1
    · obtain ⟨d', h1, h2⟩ := start_get e
      cases h2
    · obtain ⟨d', h1, h2⟩ := start_get e1
      cases h2
  refine ⟨_, F, _, _, S, hk c, ?_⟩
  intro v F' H' fi gt
  have ext : Ext F H F' H' := ⟨fi.pro, fi.sub, fun a h => (fi.new a h).elim .inl fun z => .inr (Classical.byContradiction fun n => z n), fi.dom⟩
  obtain ⟨a, h1, h2, h3, h4⟩ := gt
  exact q v F' H' ext ⟨a, h1, h2, Classical.byContradiction fun n => h3 n, h4⟩
end
def isXB (K : PySem.W.Frag) (xs : List Str) : Bool := xs.all fun x =>
  decide (PySem.W.findIn K (.ref (He.ga K x)) "__getattribute__" = some (some (.builtin "BaseException.__getattribute__"))) &&
  (decide (PySem.W.findIn K (.ref (He.ga K x)) "__getattr__" = some none) && (decide (PySem.W.subIn K (.ref (He.ga K x)) (.type "BaseException") = some true) &&
  (PySem.W.hasDictIn K (He.ga K x) && (decide (PySem.W.findIn K (.ref (He.ga K x)) "__class__" = some (some (.builtin "object.__class__"))) &&
  (decide (PySem.W.specialIn K (.builtin "object.__class__") "__get__" = some (some (.builtin "getset_descriptor.__get__"))) && (decide (PySem.W.takesIn K (.builtin "object.__class__") = some true) &&
  (decide (PySem.W.mroIn K (He.ga K x) (.type "object") = some true) && (decide (PySem.W.kitOne K (.ref (He.ga K x)) (.type "ValueError") = some true) &&
  xs.all fun y => decide (PySem.W.kitOne K (.ref (He.ga K x)) (.ref (He.ga K y)) = some (decide (x = y)))))))))))
/-- a Hook with one more Bool -/
def hookE (n : Nat) (fa : List He.Fa) (fn : List He.DefD) (ex : PySem.W.Frag → Bool) : PySem.W.Hook where
  α := He.AlD × Bool
  obs := fun s => (He.obsDG n fa fn s.heap.get?, ex (He.frG s.heap.get? (He.asD s.heap.get? n)))
  val := fun _ => (He.valD fn, true)
  says := fun _ h => ∃ K : PySem.W.Frag, K.In h ∧ (He.SaysD fa fn K ∧ ex K = true)
  of := fun _ _ e => ⟨_, He.frG_in, congrArg (fun z : He.AlD × Bool => z.1) e, congrArg (fun z : He.AlD × Bool => z.2) e⟩
  keeps := fun _ _ _ ⟨K, hK, c⟩ k => ⟨K, PySem.W.Frag.In.keeps hK k, c⟩
theorem hookE_eq {n : Nat} {fa : List He.Fa} {fn : List He.DefD} {ex : PySem.W.Frag → Bool} {g : Addr → Option Obj} {s : Shared} (h : ∀ a, g a = s.heap.get? a) : (He.obsDG n fa fn g, ex (He.frG g (He.asD g n))) = (hookE n fa fn ex).obs s := by
  have e : g = s.heap.get? := funext h
  rw [e] <;> rfl
def xcN : Xc → Str
  | .lane => "BadLane"
  | .ways => "BadWays"
  | .stand => "BadStand"
  | .move => "NoMove"
  | .place => "NoPlace"
theorem exOk_of {K : PySem.W.Frag} (h : isXB K ["BadLane", "BadWays", "BadStand", "NoMove", "NoPlace"] = true) : ExOk K (fun c => He.ga K (xcN c)) := by
  have hm : ∀ c, xcN c ∈ (["BadLane", "BadWays", "BadStand", "NoMove", "NoPlace"] : List Str) := fun c => by cases c <;> decide
  have g := fun c => List.all_eq_true.mp h (xcN c) (hm c)
  simp only [Bool.and_eq_true, decide_eq_true_eq] at g
  refine ⟨fun d => ?_, fun d c => ?_, fun d => (g d).2.2.2.2.2.2.2.2.1⟩
  · obtain ⟨h1, h2, h3, h4, h5, h6, h7, h8, _⟩ := g d
    exact ⟨h1, h2, h3, h4, h5, h6, h7, h8⟩
  · have := List.all_eq_true.mp (g d).2.2.2.2.2.2.2.2.2 (xcN c) (hm c)
    simp only [decide_eq_true_eq] at this
    rw [this]
    cases d <;> cases c <;> rfl
end DS
namespace PySem.SeqAt
open AutoSeq1 (wpAny_loadPart')
open MeetsSeq MeetsSeq2 MeetsSeq3
section
variable {prog : Program} {w : World}
theorem ds_ne_loopIn (l b : Addr) (items items2 : Array Value) (n n2 : Nat) (dd dd2 : Option Addr) (sl sl2 : Array (Option Value)) (hsz : items.size = items2.size) (e : Nat → Bool) (k : Nat) :
    ∀ i : Nat, items.size - i = k → MeetsIn prog w (Builtin.«list.__eq__.loop» ⟨[.ref l, .ref b, rawInt i, rawInt 3], []⟩)
      (fun A R s => s.heap.get? l = some { cls := .type "list", dict := dd, data := .seq items n, slots := sl } ∧ s.heap.get? b = some { cls := .type "list", dict := dd2, data := .seq items2 n2, slots := sl2 } ∧
        (∀ j (h1 : j < items.size) (h2 : j < items2.size), EqP prog w A.in1 s items[j] items2[j] (e j)) ∧
        R (.ok (.ret (.bool (!((List.range items.size).drop i).all e)))) s) := by
  induction k with
  | zero =>
    intro i hk A R s h
    obtain ⟨hp, g, d, tk, os⟩ := s; obtain ⟨hl, hb, he, h⟩ := h
    wp_walk using wpAny_loadPart' hl, wpAny_loadPart' hb
    have hi1 : items[((i : Nat) : Int).toNat]? = none := by simp; omega
    have hi2 : items2[((i : Nat) : Int).toNat]? = none := by simp; omega
    have hd : (List.range items.size).drop i = [] := by simp; omega
    rw [hd] at h
    rw [hi1, hi2]
    wp_walk using wpAny_loadPart' hl, wpAny_loadPart' hb
    show R (.ok (.ret (.bool (items.size != items2.size)))) _
    rw [hsz]
    simpa using h
  | succ k ih =>
    intro i hk A R s h
    obtain ⟨hp, g, d, tk, os⟩ := s; obtain ⟨hl, hb, he, h⟩ := h
    wp_walk using wpAny_loadPart' hl, wpAny_loadPart' hb
    have hlt : i < items.size := by omega
    have hlt2 : i < items2.size := by omega
    have hi1 : items[((i : Nat) : Int).toNat]? = some items[i] := by simp [hlt]
    have hi2 : items2[((i : Nat) : Int).toNat]? = some items2[i] := by simp [hlt2]
    have hd : (List.range items.size).drop i = i :: (List.range items.size).drop (i + 1) := by simp [List.drop_eq_getElem_cons, hlt]
    have hc : ((i : Int) + 1) = ((i + 1 : Nat) : Int) := by push_cast; rfl
    rw [hd, List.all_cons] at h
    rw [hi1, hi2]
    refine wpAny_bind (he i hlt hlt2 _ _ ?_)
    cases hb' : e i with
    | true =>
      rw [hb'] at h
      wp_walk
      rw [hc]
      exact ⟨plainId_quiet plain_eq_loop _, codeAny_builtin entry_eq_loop (by
        rw [Around.under_plainId plain_eq_loop _]
        exact ih (i + 1) (by omega) A R _ ⟨hl, hb, he, by simpa using h⟩)⟩
    | false =>
      rw [hb'] at h
      wp_walk using wpAny_loadPart' hl, wpAny_loadPart' hb
      rw [hi1, hi2]
      wp_walk
      simpa using h
theorem ds_list_neIn (l b : Addr) (items items2 : Array Value) (n n2 : Nat) (dd dd2 : Option Addr) (sl sl2 : Array (Option Value)) (hsz : items.size = items2.size) (e : Nat → Bool) :
    MeetsIn prog w (Builtin.«list.__ne__» ⟨[.ref l, .ref b], []⟩)
      (fun A R s => s.heap.get? l = some { cls := .type "list", dict := dd, data := .seq items n, slots := sl } ∧ s.heap.get? b = some { cls := .type "list", dict := dd2, data := .seq items2 n2, slots := sl2 } ∧
        (∀ j (h1 : j < items.size) (h2 : j < items2.size), EqP prog w A.in1 s items[j] items2[j] (e j)) ∧
        R (.ok (.ret (.bool (!(List.range items.size).all e)))) s) := by
  intro A R s h
  obtain ⟨hp, g, d, tk, os⟩ := s; obtain ⟨hl, hb, he, h⟩ := h
  have f3 := AutoSeq1.sub_list_list
  have hne : ¬ (items.size != items2.size) = true := by simp [hsz]
  wp_walk using wpAny_loadPart' hl, wpAny_loadPart' hb
  exact ⟨plainId_quiet plain_eq_loop _, codeAny_builtin entry_eq_loop (by
    rw [Around.under_plainId plain_eq_loop _]
    exact ds_ne_loopIn l b items items2 n n2 dd dd2 sl sl2 hsz e _ 0 rfl A R _ ⟨hl, hb, he, by simpa using h⟩)⟩
variable {A : Around} {s : Shared}
theorem ds_rc_ne {E : Value → Shared → Prop} {l b : Addr} {items items2 : Array Value} {e : Nat → Bool} {Q : Value → Shared → Prop} (hl : s.heap.IsList l items) (hb : s.heap.IsList b items2) (hsz : items.size = items2.size) (hu : A.units < cLine)
    (he : ∀ j (h1 : j < items.size) (h2 : j < items2.size), EqP prog w A.in1 s items[j] items2[j] (e j)) (h : Q (.bool (!(List.range items.size).all e)) s) : wpAny (model prog w) A (richCompare .NotEq (.ref l) (.ref b)) Q E s := by
  obtain ⟨⟨cls, dd, data, sl⟩, ho, hc, n, hd⟩ := id hl
  obtain ⟨⟨cls2, dd2, data2, sl2⟩, ho2, hc2, n2, hd2⟩ := id hb
  simp only at hc hd hc2 hd2
  subst hc hd hc2 hd2
  exact wpAny_richCompare_same_room (T := "list") (op := .NotEq) ⟨_, ho, rfl⟩ ⟨_, ho2, rfl⟩ F.slot_list_ne (call_meetsIn F.slot_list_ne ⟨_, ho, rfl⟩ F.entry_list_ne (F.args_list_ne_2 _ _) (ds_list_neIn l b items items2 n n2 dd dd2 sl sl2 hsz e)
    ⟨ho, ho2, he, show Value.bool (!(List.range items.size).all e) ≠ Value.notImplemented ∧ Q (.bool (!(List.range items.size).all e)) s from ⟨(fun x => nomatch x), h⟩⟩) hu
end
end PySem.SeqAt
namespace DS
open PySem PySem.Spec PyProof.Rows L2 PySem.Calls
theorem Dd.dk_ {B : Bs} {F : Fz} {H : Hp} {v : V} {r : List (PyData × PyData)} (g : Dd B F H v (.dict ((.none, .int 0) :: r))) : ∃ (a : Addr) (ks : List Key) (vs : List V) (ds : List PyData), v = .ref a ∧ r = (ks.map keyD).zip ds ∧ F a ∧ H a = some (.dK (ks.zip vs)) ∧ ks.length = vs.length ∧ DdAll B F H vs ds := by
  generalize hd : PyData.dict ((PyData.none, PyData.int 0) :: r) = d at g
  cases g <;> first | (cases hd; done) | skip
  · rename_i a o xs kvs h z pp
    cases hd
    exact (DdPairs.nn pp).elim
  · rename_i a ks vs ds f h z al
    cases hd
    exact ⟨a, ks, vs, ds, rfl, rfl, f, h, z, al⟩
section
variable {X : Cx} {W : WX} {xa : Xc → Addr} {e a b : Expr} {f g : Ef} {pos p2 p3 : Pos} {j2 j3 : Option Str}
/-- {} -/
theorem pd_dk0 : PD X W xa .e (.Dict [] [] pos) (eC (dkD [] [])) := impE pe_dnewK fun σ H Q h => by
  obtain ⟨D, F, env, r, S, e, k⟩ := h
  cases e
  intro p hp
  have x : Ext F H (fun b => F b ∨ b = p) (upd H p (.dK [])) := ⟨Ex.new hp, fun _ h => .inl h, fun _ h => h.elim .inl fun e => .inr (e ▸ hp), fun b h => by
    rcases h with h | rfl
    · intro z
      by_cases e : b = p
      · subst e; exact S.dom _ h hp
      · rw [upd_ne e] at z; exact S.dom _ h z
    · rw [upd_same]; simp⟩
  exact k _ _ _ x (.dk (ks := []) (vs := []) (ds := []) (.inr rfl) upd_same rfl .nil)
theorem pd_dk1 {kx vx : Expr} {key : Key} {v : V} {d : PyData} (hk : PE X kx (tC (kV key))) (hv : PE X vx (tC v)) (hd : ∀ F H, Dd (bs X) F H v d) : PD X W xa .e (.Dict [some kx] [vx] pos) (eC (dkD [key] [d])) := impE (pe_disp (pps_cons hk hv pps_nil) rfl rfl (by simp) (by simp)) fun σ H Q h => by
  obtain ⟨D, F, env, r, S, e, k⟩ := h
  cases e
  intro p hp
  have x : Ext F H (fun b => F b ∨ b = p) (upd (upd H p (.dK [])) p (.dK [(key, v)])) := by
    rw [upd_upd]
    exact ⟨Ex.new hp, fun _ h => .inl h, fun _ h => h.elim .inl fun e => .inr (e ▸ hp), fun b h => by
      rcases h with h | rfl
      · intro z
        by_cases e : b = p
        · subst e; exact S.dom _ h hp
        · rw [upd_ne e] at z; exact S.dom _ h z
      · rw [upd_same]; simp⟩
  refine ⟨upd_same, [(key, v)], rfl, by simp, ?_⟩
  exact k _ _ _ x (.dk (ks := [key]) (vs := [v]) (ds := [d]) (.inr rfl) upd_same rfl (.cons (hd _ _) .nil))
def tinyEq : PyData → PyData → Bool
  | .dict [(.none, .int 0)], .dict [(.none, .int 0)] => true
  | .dict [(.none, .int 0), (.int a, .int i)], .dict [(.none, .int 0), (.int b, .int j)] => decide (a = b) && decide (i = j)
  | .dict [(.none, .int 0), (.str a, .int i)], .dict [(.none, .int 0), (.str b, .int j)] => decide (a = b) && decide (i = j)
  | _, _ => false
def sameD (x y : PyData) : Bool := (SeqAt.shaped x && SeqAt.shaped y && PyData.eqv x y) || tinyEq x y
def sameAll : List PyData → List PyData → Bool
  | [], [] => true
  | x :: xs, y :: ys => sameD x y && sameAll xs ys
  | _, _ => false
def dNeS (x y : PyData) : Option PyData := match x, y with
  | .list xs, .list ys => if sameAll xs ys = true then some (.bool false) else none
  | _, _ => none
theorem keyD_inj : ∀ {a b : Key}, keyD a = keyD b → a = b
  | .inl _, .inl _, h => by cases h; rfl
  | .inr _, .inr _, h => by cases h; rfl
  | .inl _, .inr _, h => nomatch h
  | .inr _, .inl _, h => nomatch h
theorem zip0 {ks : List Key} {vs : List V} {B : Bs} {F : Fz} {H : Hp} {ds : List PyData} (h : [] = (ks.map keyD).zip ds) (hl : ks.length = vs.length) (al : DdAll B F H vs ds) : ks = [] ∧ vs = [] := by
  have l2 := al.length
  cases ks with
  | nil =>
    cases vs with
    | nil => exact ⟨rfl, rfl⟩
    | cons v vs => cases hl
  | cons k ks =>
    cases ds with
    | nil =>
      rw [l2] at hl
      cases hl
    | cons d ds => cases h
theorem zip1 {ks : List Key} {vs : List V} {B : Bs} {F : Fz} {H : Hp} {ds : List PyData} {kd : PyData} {i : Int} (h : [(kd, PyData.int i)] = (ks.map keyD).zip ds) (hl : ks.length = vs.length) (al : DdAll B F H vs ds) : ∃ k, ks = [k] ∧ kd = keyD k ∧ vs = [.int i] := by
  have l2 := al.length
  cases ks with
  | nil => cases h
  | cons k ks =>
    cases ds with
    | nil => cases h
    | cons d ds =>
      simp only [List.map_cons, List.zip_cons_cons, List.cons.injEq, Prod.mk.injEq] at h
      obtain ⟨⟨rfl, rfl⟩, h⟩ := h
      cases al with
      | cons a al =>
        cases Dd.int_ a
        obtain ⟨rfl, rfl⟩ := zip0 h (by simpa using hl) al
        exact ⟨k, rfl, rfl, rfl⟩
theorem tiny_eqV {B : Bs} {F : Fz} {H : Hp} {v u : V} {x y : PyData} (h : tinyEq x y = true) (gx : Dd B F H v x) (gy : Dd B F H u y) : EqV B.K H 2 v u := by
  have one : ∀ {kd : PyData} {i : Int}, Dd B F H v (.dict [(.none, .int 0), (kd, .int i)]) → Dd B F H u (.dict [(.none, .int 0), (kd, .int i)]) → EqV B.K H 2 v u := by
    intro kd i gx gy
    obtain ⟨a, ks, vs, ds, rfl, hr, _, ha, hl, al⟩ := Dd.dk_ gx
    obtain ⟨b, ks', vs', ds', rfl, hr', _, hb, hl', al'⟩ := Dd.dk_ gy
    obtain ⟨k, rfl, e1, rfl⟩ := zip1 hr hl al
    obtain ⟨k', rfl, e2, rfl⟩ := zip1 hr' hl' al'
    have e3 : k = k' := keyD_inj (e1.symm.trans e2)
    subst e3
    refine .inr (.inr (.inr ⟨a, b, _, _, rfl, rfl, ha, hb, rfl, fun p hp => ?_⟩))
    cases List.mem_singleton.mp hp
    exact ⟨.int i, by simp [valV], .inl ⟨rfl, rfl⟩⟩
  unfold tinyEq at h
  split at h
  · obtain ⟨a, ks, vs, ds, rfl, hr, _, ha, hl, al⟩ := Dd.dk_ gx
    obtain ⟨b, ks', vs', ds', rfl, hr', _, hb, hl', al'⟩ := Dd.dk_ gy
    obtain ⟨rfl, rfl⟩ := zip0 hr hl al
    obtain ⟨rfl, rfl⟩ := zip0 hr' hl' al'
    exact .inr (.inr (.inr ⟨a, b, _, _, rfl, rfl, ha, hb, rfl, fun p hp => by cases hp⟩))
  · simp only [Bool.and_eq_true, decide_eq_true_eq] at h
    obtain ⟨rfl, rfl⟩ := h
    exact one gx gy
  · simp only [Bool.and_eq_true, decide_eq_true_eq] at h
    obtain ⟨rfl, rfl⟩ := h
    exact one gx gy
  · cases h
theorem same_eqP {pins : List (Addr × Obj)} {σ : DS.St} {H : Hp} {s : Shared} {F : Fz} {v u : V} {v' u' : Value} {x y : PyData} (I : Inv X pins σ H s) (hu : X.A.units + 65 < cLine) (h : sameD x y = true) (gx : Dd (bs X) F H v x) (gy : Dd (bs X) F H u y) (rv : RelV v v') (ru : RelV u u') :
    SeqAt.EqP X.prog X.w X.A.in1 s v' u' true := by
  unfold sameD at h
  rw [Bool.or_eq_true] at h
  rcases h with h | h
  · simp only [Bool.and_eq_true] at h
    obtain ⟨⟨s1, s2⟩, e⟩ := h
    obtain ⟨as, r1⟩ := Dp.reads I x _ v' (Dd.dp (SeqAt.canLay_of_shaped s1) gx) rv
    obtain ⟨bs', r2⟩ := Dp.reads I y _ u' (Dd.dp (SeqAt.canLay_of_shaped s2) gy) ru
    have := PySem.W.keq_at r1 r2 s1 s2 (A := X.A) (by show X.A.units + 1 + 64 < cLine; omega)
    rw [e] at this
    exact this.eqP
  · exact eqV_run I 2 X.A.in1 (by show X.A.units + 1 + 2 < cLine; omega) _ _ _ _ (tiny_eqV h gx gy) rv ru
def rNeS (B : Bs) : R2 := fun x y H Q => ∃ a b xs ys F ds es, x = .ref a ∧ y = .ref b ∧ H a = some (.lst xs) ∧ H b = some (.lst ys) ∧ DdAll B F H xs ds ∧ DdAll B F H ys es ∧ sameAll ds es = true ∧ Q (.bl false) H
theorem sameAll_len : ∀ {xs ys : List PyData}, sameAll xs ys = true → xs.length = ys.length
  | [], [], _ => rfl
  | x :: xs, y :: ys, h => by
    rw [sameAll, Bool.and_eq_true] at h
    rw [List.length_cons, List.length_cons, sameAll_len h.2]
  | [], _ :: _, h => by cases h
  | _ :: _, [], h => by cases h
theorem sameAll_at : ∀ {xs ys : List PyData} {i : Nat} {x y : PyData}, sameAll xs ys = true → xs[i]? = some x → ys[i]? = some y → sameD x y = true
  | x :: xs, y :: ys, 0, _, _, h, h1, h2 => by
    rw [sameAll, Bool.and_eq_true] at h
    cases h1
    cases h2
    exact h.1
  | x :: xs, y :: ys, i + 1, _, _, h, h1, h2 => by
    rw [sameAll, Bool.and_eq_true] at h
    exact sameAll_at (i := i) h.2 (by simpa using h1) (by simpa using h2)
  | [], _, _, _, _, _, h1, _ => by simp at h1
  | _ :: _, [], _, _, _, h, _, _ => by cases h
theorem op_neS (hu : X.A.units + 65 < cLine) : OpR X (compareOp .NotEq) (rNeS (bs X)) := by
  intro pins s σ H x y v u Q I rx ry h
  obtain ⟨a, b, xs, ys, F, ds, es, rfl, rfl, ha, hb, d1, d2, hs, q⟩ := h
  cases rx
  cases ry
  obtain ⟨us, r1, p1, _⟩ := I.list (.of ha)
  obtain ⟨ws, r2, p2, _⟩ := I.list (.of hb)
  have hl : us.length = ws.length := by rw [← r1.length, ← r2.length, d1.length, d2.length, sameAll_len hs]
  refine SeqAt.ds_rc_ne (e := fun _ => true) p1.isList p2.isList (by simpa using hl) (by omega) (fun j h1 h2 => ?_) ?_
  · have j1 : j < us.length := by simpa using h1
    have j2 : j < ws.length := by simpa using h2
    have jx : j < xs.length := by rw [r1.length]; exact j1
    have jy : j < ys.length := by rw [r2.length]; exact j2
    obtain ⟨x, ex, gx⟩ := d1.get' (List.getElem?_eq_getElem jx)
    obtain ⟨y, ey, gy⟩ := d2.get' (List.getElem?_eq_getElem jy)
    obtain ⟨u1, eu1, ru1⟩ := r1.get (List.getElem?_eq_getElem jx)
    obtain ⟨u2, eu2, ru2⟩ := r2.get (List.getElem?_eq_getElem jy)
    rw [List.getElem?_eq_getElem j1] at eu1
    rw [List.getElem?_eq_getElem j2] at eu2
    cases eu1
    cases eu2
    have := same_eqP I hu (sameAll_at hs ex ey) gx gy ru1 ru2
    simpa using this
  · rw [show (!(List.range us.toArray.size).all fun _ => true) = false from by rw [List.all_eq_true.mpr fun _ _ => rfl]; rfl]
    exact ⟨.bl false, H, I, rfl, q⟩
theorem op2_neS : Op2 (bs X) .r .r .e dNeS (rNeS (bs X)) := by
  intro x y z v u H1 H2 F H Q e gx gy hd k
  cases x <;> first | (simp [dNeS] at e; done) | skip
  cases y <;> first | (simp [dNeS] at e; done) | skip
  rename_i xs ys
  simp only [dNeS, Option.ite_none_right_eq_some, Option.some.injEq] at e
  obtain ⟨hs, rfl⟩ := e
  obtain ⟨a, ps, rfl, h1, _, p1⟩ := Top.lst gx
  obtain ⟨b, qs, rfl, h2, _, p2⟩ := Top.lst gy
  exact ⟨a, b, ps, qs, F, xs, ys, rfl, rfl, h1, h2, p1, p2, hs, k _ F H (Ext.refl hd) (.bl _)⟩
theorem pt_neS (hu : X.A.units + 65 < cLine) (ha : PD X W xa .r a f) (hb : PD X W xa .r b g) : PTD X W xa (.Compare a [.NotEq] [b] pos) (lift2 dNeS f g) := pt_op (by simp) (op_neS hu) op2_neS ha hb (nomark _)
end
end DS
namespace L2
open PySem PySem.Spec PyProof.Rows
theorem ds_tuple_mul1 (l : Addr) (items : Array Value) (n : Nat) (dd : Option Addr) (sl : Array (Option Value)) (u : Tok) :
    Meets (Builtin.«tuple.__mul__» ⟨[.ref l, .int 1 u], []⟩) (fun _ R s => s.heap.get? l = some { cls := .type "tuple", dict := dd, data := .seq items n, slots := sl } ∧ R (.ok (.ret (Value.ref l))) s) :=
  .of_wp fun prog w A R s h => by
    obtain ⟨hp, g, d, tk, os⟩ := s
    obtain ⟨hl, h⟩ := h
    have f1 := AutoSeq1.idx_int
    wp_walk using wpAny_loadPart' hl
    exact ⟨_, rfl, h⟩
end L2
namespace DS
open PySem PySem.Spec PyProof.Rows L2 PySem.Calls
def rRepTF (K : PySem.W.Frag) : R2 := fun x y H Q => ∃ l k xs, x = .ref l ∧ y = .int k ∧ SqT K H l xs ∧ xs ≠ [] ∧ 1 ≤ k ∧ k ≤ 1000 ∧ xs.length ≤ 1000 ∧ (k = 1 → Q (.ref l) H) ∧ (k ≠ 1 → NewT (List.replicate k.toNat xs).flatten H Q)
section
variable {X : Cx} {W : WX} {xa : Xc → Addr} {e a b : Expr} {f g : Ef} {pos p p2 p3 : Pos}
theorem op_repTF : OpR X (binaryOp .Mult) (rRepTF X.K) := by
  intro pins s σ H x y v u Q I rx ry h
  obtain ⟨l, k, xs, rfl, rfl, hT, hne, h1, h2, hz, q0, q⟩ := h
  cases rx
  obtain ⟨t, rfl⟩ := ry
  obtain ⟨its, r, ⟨⟨cls, dd, data, sl⟩, ho, hc, n, hd⟩, hs⟩ := I.tuple hT
  simp only at hc hd
  subst hc hd
  by_cases hk : k = 1
  · subst hk
    refine wpAny_binaryOp_repeat_ref (T := "tuple") (U := "int") (by decide) ⟨_, ho, rfl⟩ (fun s' => typeIs_int s' 1 t) noFill_tuple_mul F.fills_int_mul F.slot_int_rmul repeat_tuple F.slot_int_index.lookup
      (call_meets F.slot_int_rmul (typeIs_int s 1 t) F.entry_int_rmul (F.args_int_rmul_2 _ _) (int_rmul_tuple 1 t l its.toArray n dd sl)
        ⟨ho, rfl, ⟨_, ho, rfl⟩, call_meets F.slot_tuple_mul ⟨_, ho, rfl⟩ F.entry_tuple_mul (F.args_tuple_mul_2 _ _) (ds_tuple_mul1 l its.toArray n dd sl t) ⟨ho, ?_⟩⟩)
    exact ⟨.ref l, H, I, rfl, q0 rfl⟩
  have hk2 : 2 ≤ k := by omega
  have hle : its.length = xs.length := r.length.symm
  have hn : its ≠ [] := fun e => hne (by
    rw [e] at hle
    exact List.eq_nil_of_length_eq_zero hle.symm)
  have hi : its.toArray.isEmpty = false := by
    cases its with
    | nil => exact absurd rfl hn
    | cons a b => rfl
  have hsz0 : its.toArray.size = xs.length := by rw [List.size_toArray, hle]
  have hm : ((its.toArray.size : Nat) : Int) * k ≤ 1000000 := by
    rw [hsz0]
    have a1 : ((xs.length : Nat) : Int) * k ≤ 1000 * k := Int.mul_le_mul_of_nonneg_right (by omega) (by omega)
    omega
  have flen : (List.replicate k.toNat its).flatten.length ≤ sizeLine := by
    rw [PyProof.Rows.lm_len_rep_flat, hle, sizeLine_eq]
    have a1 : k.toNat * xs.length ≤ 1000 * 1000 := Nat.mul_le_mul (by omega) hz
    omega
  have c0 : (decide (k < -(2 ^ 63)) || decide (k ≥ 2 ^ 63)) = false := by
    rw [decide_eq_false (by omega), decide_eq_false (by omega)] <;> rfl
  have c1 : (its.toArray.isEmpty || k == 1) = false := by
    rw [hi, Bool.false_or]
    exact beq_eq_false_iff_ne.mpr (by omega)
  have c2 : (decide (k ≤ 0) || its.toArray.isEmpty) = false := by
    rw [hi, Bool.or_false]
    exact decide_eq_false (by omega)
  have c4 : Builtin.Tuple.tupleTooMany (((its.toArray.size : Nat) : Int) * k) = false := by
    unfold Builtin.Tuple.tupleTooMany
    rw [sizeLine_eq]
    exact decide_eq_false (by omega)
  refine wpAny_binaryOp_repeat_ref (T := "tuple") (U := "int") (by decide) ⟨_, ho, rfl⟩ (fun s' => typeIs_int s' k t) noFill_tuple_mul F.fills_int_mul F.slot_int_rmul repeat_tuple F.slot_int_index.lookup
    (call_meets F.slot_int_rmul (typeIs_int s k t) F.entry_int_rmul (F.args_int_rmul_2 _ _) (int_rmul_tuple k t l its.toArray n dd sl)
      ⟨ho, rfl, ⟨_, ho, rfl⟩, call_meets F.slot_tuple_mul ⟨_, ho, rfl⟩ F.entry_tuple_mul (F.args_tuple_mul_2 _ _) (tuple_mulW l its.toArray n dd sl k t c0 c1 c2 (by omega) c4 (by rw [size_rep, List.size_toArray]; exact flen)) ⟨ho, ?_⟩⟩)
  rw [size_rep]
  exact DS.Inv.newEP I (r.rep k.toNat) (by rw [PyProof.Rows.lm_len_rep_flat, sizeLine_eq]; have a1 : k.toNat * xs.length ≤ 1000 * 1000 := Nat.mul_le_mul (by omega) hz; omega) (q hk)
def iRepT : PyData → PyData → Option PyData
  | .tuple xs, .int k => if xs ≠ [] ∧ 1 ≤ k ∧ k ≤ 1000 ∧ xs.length ≤ 1000 then some (.tuple (List.replicate k.toNat xs).flatten) else none
  | _, _ => none
theorem pd_repT (ha : PD X W xa .e a f) (hb : PD X W xa .e b g) : PD X W xa .e (.BinOp a .Mult b pos) (lift2 iRepT f g) := pd_op (by simp) op_repTF (by
  intro x y z v u H1 H2 F H Q e gx gy hd k
  cases x <;> first | (simp [iRepT] at e; done) | skip
  rename_i xs
  cases y <;> first | (simp [iRepT] at e; done) | skip
  rename_i j
  simp only [iRepT, Option.ite_none_right_eq_some, Option.some.injEq] at e
  obtain ⟨⟨hn, h1, h2, hz⟩, rfl⟩ := e
  obtain ⟨p, ps, rfl, hp, rp⟩ := Dd.tup_ gx
  cases Dd.int_ gy
  have rep : ∀ n, DdAll (bs X) F H (List.replicate n ps).flatten (List.replicate n xs).flatten := by
    intro n
    induction n with
    | zero => exact .nil
    | succ n ih =>
      rw [List.replicate_succ, List.replicate_succ, List.flatten_cons, List.flatten_cons]
      exact rp.append ih
  refine ⟨p, j, ps, rfl, rfl, hp.sq, fun e => hn ?_, h1, h2, by rw [rp.length]; exact hz, fun e1 => ?_, fun e1 t o ho ht => ?_⟩
  · subst e
    cases rp
    rfl
  · subst e1
    refine k _ F H (Ext.refl hd) ?_
    have : (List.replicate (1 : Int).toNat xs).flatten = xs := by simp
    rw [this]
    exact gx
  · have x := Ext.of hd (Ex.new (o := .frz o (.tup (List.replicate j.toNat ps).flatten)) ht)
    exact k _ F _ x (.tup (.new ho) ((rep _).ext x))) ha hb
/-- the def at f keeps its promise -/
def FA (X : Cx) (xa : Xc → Addr) (f : Addr) (Φ : Fn) : Prop := ∃ k fd ps, FnOk X.prog X.w X.K X.mg X.base (L2N.CX X.prog X.w) k f fd ps (spF (bs X) xa Φ) ∧ Room k X.A ∧ PySem.W.keepIn X.K (.ref f) = true ∧ Binds X.K fd ps []
inductive NmOk (X : Cx) (xa : Xc → Addr) : List Expr → List Fn → Prop
  | nil : NmOk X xa [] []
  | cons {x : Str} {p : Pos} {Φ : Fn} {es : List Expr} {Φs : List Fn} : Fok X xa x Φ → Gl X x → NmOk X xa es Φs → NmOk X xa (.Name x p :: es) (Φ :: Φs)
theorem nm_pa {es : List Expr} {Φs : List Fn} (h : NmOk X xa es Φs) : ∃ fs : List Addr, PA X es (fun _ H Q => Q (fs.map V.ref) H) ∧ Paired (FA X xa) fs Φs := by
  induction h with
  | nil => exact ⟨[], impA pa_nil fun _ _ _ q => q, .nil⟩
  | @cons x p Φ es Φs h hg t ih =>
    obtain ⟨fs, ih, pr⟩ := ih
    obtain ⟨⟨k, f, fd, ps, ok, hr, hm, hk, hb⟩, hdb⟩ := h
    rw [bs_none hr.hd] at ok
    refine ⟨f :: fs, impA (pa_cons (pe_glob (v := .ref f) hg hm rfl hdb) ih (by rfl)) fun _ _ _ q => q, .cons ⟨k, fd, ps, ok, hr, hk, hb⟩ pr⟩
def sCallIx (Φs : List Fn) (f : Ef) (r : Afn) : Sf := fun env => match f env with
  | some (.ok (.int i)) => if 0 ≤ i then (match Φs[i.toNat]? with
    | some Φ => match r env with
      | some (.ok ds) => match Φ ds with
        | some (.ok _) => some (.nx env)
        | some (.error c) => some (.xc c)
        | none => none
      | _ => none
    | none => none) else none
  | _ => none
theorem paired_at {α β : Type} {R : α → β → Prop} : ∀ {xs : List α} {ys : List β} {i : Nat} {y : β}, Paired R xs ys → ys[i]? = some y → ∃ x, xs[i]? = some x ∧ R x y
  | _, _, _, _, .nil, h => by simp at h
  | _, _, 0, _, .cons a _, h => by cases h; exact ⟨_, rfl, a⟩
  | _, _, i + 1, _, .cons _ t, h => by
    obtain ⟨x, h1, h2⟩ := paired_at t (i := i) (by simpa using h)
    exact ⟨x, by simpa using h1, h2⟩
theorem paired_len {α β : Type} {R : α → β → Prop} : ∀ {xs : List α} {ys : List β}, Paired R xs ys → xs.length = ys.length
  | _, _, .nil => rfl
  | _, _, .cons _ t => by rw [List.length_cons, List.length_cons, paired_len t]
theorem psd_callIx {es : List Expr} {nms : List Expr} {ie : Expr} {Φs : List Fn} {r : Afn} {spos : Pos} (tk : L2N.Takes X W) (hn : NmOk X xa nms Φs) (h30 : Φs.length ≤ 30) (hi : PD X W xa .e ie f) (ha : PAD X W xa .e (e :: es) r)
    (hcall : eval (.Call (.Subscript (.List nms p3) ie p2) (e :: es) [] pos) X.env = (do callWith pos (← eval (.Subscript (.List nms p3) ie p2) X.env) [] (backTo pos (starEach (e :: es) X.env)) (backToKw pos (keywordEach [] X.env))) := by rfl)
    (hpx : PlainIx ie := by exact fun _ _ => rfl)
    (he : starEach (e :: es) X.env = (false, eval e X.env) :: starEach es X.env := by rfl) (hpl : (backTo pos (starEach es X.env)).any (·.1) = false := by rfl)
    (hs : swapsWith (.Call (.Subscript (.List nms p3) ie p2) (e :: es) [] pos) none spos.line X.env = pure false := by rfl) :
    PSD X W xa (.Expr (.Call (.Subscript (.List nms p3) ie p2) (e :: es) [] pos) spos) (sCallIx Φs f r) := by
  obtain ⟨fs, pa, pr⟩ := nm_pa hn
  have pe : PE X (.Call (.Subscript (.List nms p3) ie p2) (e :: es) [] pos) (fun σ H Q => ∃ D F env i Φ ds rr, Stt (bs X) D F H σ env ∧ f env = some (.ok (.int i)) ∧ 0 ≤ i ∧ Φs[i.toNat]? = some Φ ∧ r env = some (.ok ds) ∧ Φ ds = some rr ∧ (match rr with
      | .ok _ => ∀ v F' H', Ext F H F' H' → Q v H'
      | .error c => ∀ H', Ex H H' → W (.ref (xa c)) none σ H')) := by
    refine ⟨fun pins s σ H Q I h => ?_⟩
    obtain ⟨D, F, env, i, Φ, ds, rr, S, hf, h0, hΦ, hr, hrr, q⟩ := h
    obtain ⟨fa, hfa, k, fd, ps, ok, hro, hk, hb⟩ := paired_at pr hΦ
    have hlen : fs.length ≤ 30 := by rw [paired_len pr]; exact h30
    have sub := pe_ix (pos := p2) ix_list (pe_lst (pos := p3) pa) hi hpx
    refine Call_ (thn (sub.run pins s σ H (fun x H1 => x = .ref fa ∧ ∃ F1, Ext F H F1 H1) I ?_) fun fv s1 ⟨x, H1, I1, rx, e1, F1, x1⟩ => ?_) hcall
    · refine ⟨by rw [List.length_map]; exact le30 hlen, fun p hp => ?_⟩
      have x0 := Ext.of S.dom (Ex.new (o := .lst (fs.map V.ref)) hp)
      refine ⟨D, F, env, .ok (.int i), S.ext x0, hf, fun v F' H' x2 g2 => ?_⟩
      cases Dd.int_ g2
      refine ⟨p, fs.map V.ref, i, .ref fa, rfl, rfl, .of (x2.ex _ _ upd_same), ?_, rfl, F', x0.trans x2⟩
      have hlt : i.toNat < fs.length := (List.getElem?_eq_some_iff.mp hfa).1
      have hi' : i = (i.toNat : Nat) := by omega
      rw [hi']
      exact atI_nat (by rw [List.getElem?_map, hfa]; rfl)
    · subst e1
      cases rx
      refine PySem.W.callWith_K (h₀ := X.base) I.ok.mod.kin hk (thn (ha.run pos pins s1 σ H1 (fun vs H2 => spF (bs X) xa Φ vs H2 Q (WE W σ)) I1 ⟨D, F1, env, .ok ds, S.ext x1, hr, fun vs F2 H2 x2 g2 => ?_⟩) fun us s2 ⟨vs, H2, I2, r2, q2⟩ => ⟨I2.kIn, ?_⟩) he hpl
      · refine ⟨F2, ds, rr, x2.dom, g2, hrr, ?_⟩
        cases rr with
        | error c => exact fun H' e' => q H' ((x1.trans x2).ex.trans e')
        | ok od =>
          obtain ⟨o, d⟩ := od
          exact fun v F' H' x3 _ => q v F' H' ((x1.trans x2).trans x3)
      · exact run_fnS ok hro hb (L2N.passAt tk σ) I2 r2 q2
  refine impS (ps_expr pe hs) fun E σ H h => ?_
  obtain ⟨D, F, env, out, S, e0, q⟩ := h
  unfold sCallIx at e0
  split at e0
  · rename_i i hf
    simp only [Option.ite_none_right_eq_some] at e0
    obtain ⟨h0, e0⟩ := e0
    split at e0
    · rename_i Φ hΦ
      split at e0
      · rename_i ds hr
        cases hrr : Φ ds with
        | none => rw [hrr] at e0; cases e0
        | some rr =>
          rw [hrr] at e0
          refine ⟨D, F, env, i, Φ, ds, rr, S, hf, h0, hΦ, hr, hrr, ?_⟩
          cases rr with
          | error c =>
            cases e0
            exact fun H' ex => q σ H' (S.pro.trans ex)
          | ok od =>
            cases e0
            exact fun v F' H' x => q σ F' H' x.kp (S.ext x)
      · cases e0
    · cases e0
  · cases e0
/-- is, of a bool and a bool -/
def dIsB (neg : Bool) (x y : PyData) : Option PyData := match x, y with
  | .bool a, .bool b => some (.bool (if neg then !decide (a = b) else decide (a = b)))
  | _, _ => none
theorem op_isB : OpR X (compareOp .Is) (fun x y H Q => ∃ a b, x = .bl a ∧ y = .bl b ∧ Q (.bl (decide (a = b))) H) := by
  intro pins s σ H x y v u Q I rx ry h
  obtain ⟨a, b, rfl, rfl, q⟩ := h
  cases rx
  cases ry
  by_cases e : a = b
  · subst e
    exact wpAny_is_self rfl ⟨.bl true, H, I, rfl, by simpa using q⟩
  · exact wpAny_is_other rfl (fun z => e (Value.bool.inj z)) ⟨.bl false, H, I, rfl, by simpa [e] using q⟩
theorem op2_isB : Op2 (bs X) .e .e .e (dIsB false) (fun x y H Q => ∃ a b, x = .bl a ∧ y = .bl b ∧ Q (.bl (decide (a = b))) H) := by
  intro x y z v u H1 H2 F H Q e gx gy hd k
  cases x <;> first | (simp [dIsB] at e; done) | skip
  cases y <;> first | (simp [dIsB] at e; done) | skip
  simp only [dIsB, Option.some.injEq] at e
  subst e
  exact ⟨_, _, Dd.bl_ gx, Dd.bl_ gy, k _ F H (Ext.refl hd) (.bl _)⟩
theorem pd_isB (ha : PD X W xa .e a f) (hb : PD X W xa .e b g) : PD X W xa .e (.Compare a [.Is] [b] pos) (lift2 (dIsB false) f g) := pd_cmp (by simp) op_isB op2_isB ha hb (nomark _)
theorem pt_isB (ha : PD X W xa .e a f) (hb : PD X W xa .e b g) : PTD X W xa (.Compare a [.Is] [b] pos) (lift2 (dIsB false) f g) := pt_op (by simp) op_isB op2_isB ha hb (nomark _)
@[simp] theorem dIsB_b {a b : Bool} : dIsB false (.bool a) (.bool b) = some (.bool (decide (a = b))) := rfl
end
end DS
namespace DS
open PySem PySem.Spec PyProof.Rows L2 PySem.Calls
/-- all but what stands at y stands -/
def ExB (y : Addr) (H H' : Hp) : Prop := ∀ a u, a ≠ y → H a = some u → H' a = some u
theorem ExB.keep {F : Fz} {H H' : Hp} {y : Addr} (e : ExB y H H') (hF : ¬ F y) (hy : ∀ o u, H y ≠ some (.frz o u)) : Keep F H H' := by
  refine ⟨fun a xs ⟨o, d, h⟩ => ⟨o, d, e a _ (fun z => hy _ _ (z ▸ h)) h⟩, fun a u f h => e a _ (fun z => hF (z ▸ f)) h, fun a o φ h => e a _ (fun z => hy _ _ (z ▸ h)) h, fun a o xs h => e a _ (fun z => hy _ _ (z ▸ h)) h⟩
theorem ExB.refl {H : Hp} {y : Addr} : ExB y H H := fun _ _ _ h => h
theorem ExB.trans {H H1 H2 : Hp} {y : Addr} (a : ExB y H H1) (b : ExB y H1 H2) : ExB y H H2 := fun x u n h => b x u n (a x u n h)
theorem ExB.of {H H1 : Hp} {y : Addr} (a : Ex H H1) : ExB y H H1 := fun x u _ h => a x u h
theorem ExB.upd {H : Hp} {y : Addr} {o : HO} : ExB y H (upd H y o) := fun x u n h => by rw [upd_ne n]; exact h
theorem ExB.free {H H' : Hp} {y p : Addr} (e : ExB y H H') (n : p ≠ y) (h : H' p = none) : H p = none := by
  cases h1 : H p with
  | none => rfl
  | some o => rw [e p o n h1] at h; cases h
abbrev yFs (r c : Addr) (sv av : V) : List (Str × V) := [("rooms", .ref r), ("courses", .ref c), ("spots", sv), ("ahead", av)]
theorem put_y1 {r : V} : putF "rooms" r [] = [(("rooms" : Str), r)] := rfl
theorem put_y2 {r c : V} : putF "courses" c [(("rooms" : Str), r)] = [(("rooms" : Str), r), ("courses", c)] := by
  simp only [putF]
  rw [if_neg (by decide +kernel)]
theorem put_y3 {r c s : V} : putF "spots" s [(("rooms" : Str), r), ("courses", c)] = [(("rooms" : Str), r), ("courses", c), ("spots", s)] := by
  simp only [putF]
  rw [if_neg (by decide +kernel), if_neg (by decide +kernel)]
theorem put_y4 {r c s a : V} : putF "ahead" a [(("rooms" : Str), r), ("courses", c), ("spots", s)] = [(("rooms" : Str), r), ("courses", c), ("spots", s), ("ahead", a)] := by
  simp only [putF]
  rw [if_neg (by decide +kernel), if_neg (by decide +kernel), if_neg (by decide +kernel)]
/-- what Yard.__init__ promises; Φ: need_stand -/
def spYI (B : Bs) (xa : Xc → Addr) (C : Addr) (Φ : Fn) : Sp := fun vs H Q E => ∃ (F : Fz) (y dx : Addr) (lv wv sv : V) (ld wd sd : PyData), vs = [.ref y, lv, wv, sv] ∧ H y = some (.ins C dx []) ∧ ¬ F y ∧ Dom F H ∧ Dd B F H lv ld ∧ Dd B F H wv wd ∧ Dd B F H sv sd ∧
  ((∃ c, Φ [ld, wd, sd] = some (.error c) ∧ ∀ H', ExB y H H' → E (.ref (xa c)) none H') ∨
  (∃ xs ys d, ld = .list xs ∧ wd = .list ys ∧ Φ [ld, wd, sd] = some (.ok (false, d)) ∧ ∀ (H' : Hp) (r c : Addr) (sv' : V) (us ws : List V) (F1 : Fz), H' y = some (.ins C dx (yFs r c sv' .non)) → H' r = some (.lst us) → H' c = some (.lst ws) → us.length ≤ sizeLine → ws.length ≤ sizeLine → DdAll B F1 H' us xs → DdAll B F1 H' ws ys → Dd B F1 H' sv' sd →
    H r = none → H c = none → r ≠ c → r ≠ y → c ≠ y → ¬ F1 y → Dom F1 H' → (∀ a, F a → F1 a) → ExB y H H' → Q .non H'))
abbrev gYI (Φ : Fn) : Sf := sDrop (eCall Φ false (aC (eV 1) (aC (eV 2) (aC (eV 3) aN))))
abbrev tYI (X : Cx) (W : WX) (xa : Xc → Addr) (Φ : Fn) : TS :=
  tSeq (tS (bs X) W xa (gYI Φ)) (tSeq (sFld X.K (tVar 0) (tM (bs X) W xa .o (lift1 dLst1 (eV 1))) "rooms") (tSeq (sFld X.K (tVar 0) (tM (bs X) W xa .o (lift1 dLst1 (eV 2))) "courses")
    (tSeq (sFld X.K (tVar 0) (tM (bs X) W xa .e (eV 3)) "spots") (sFld X.K (tVar 0) (tM (bs X) W xa .e (eC .none)) "ahead"))))
/-- what the class of yards has -/
structure YdC (K : PySem.W.Frag) (C : Addr) : Prop where
  cl : Cls K C
  n1 : NoAttr K C "rooms"
  n2 : NoAttr K C "courses"
  n3 : NoAttr K C "spots"
  n4 : NoAttr K C "ahead"
/-- list(x) of a frozen list -/
theorem lst1_run {B : Bs} {W : WX} {xa : Xc → Addr} {F : Fz} {H : Hp} {σ : DS.St} {D : Bd} {env : DS.Env} {i : Nat} {xs : List PyData} {Q : VK} (S : Stt B D F H σ env) (he : env[i]? = some (some (false, .list xs)))
    (q : ∀ r us F' H', H r = none → H' r = some (.lst us) → us.length ≤ sizeLine → Ext F H F' H' → ¬ F' r → DdAll B F' H' us xs → Q (.ref r) H') : tM B W xa .o (lift1 dLst1 (eV i)) σ H Q := by
  refine ⟨D, F, env, .ok (.list xs), S, by simp [lift1, bindR, eV, he, dLst1], fun v F' H' x g => ?_⟩
  obtain ⟨r, rfl, h1, h2, h3⟩ := (show ∃ a, v = .ref a ∧ ¬ F' a ∧ H a = none ∧ Own B F' H' a (.list xs) from g)
  cases h3 with
  | lst g1 g2 g3 => exact q r _ F' H' h2 g1 g2 x h1 g3
/-- the state described anew: nothing is protected, nothing own -/
abbrev D0 : Bd := ⟨fun _ => none, fun _ => False, fun _ => False⟩
theorem Stt.re {B : Bs} {D : Bd} {F : Fz} {H H' : Hp} {σ : DS.St} {env : DS.Env} (S : Stt B D F H σ env) (hn : ∀ (i : Nat) d, env[i]? ≠ some (some (true, d))) (k : Keep F H H') (hd : Dom F H') : Stt B D0 F H' σ env := by
  refine ⟨fun _ _ h => ?_, fun _ h => h.elim, fun _ h => h.elim, fun _ _ => .inr id, hd, S.len, fun i d e => ?_, fun i d e => (hn i d e).elim, fun i j d d' a e _ _ _ => (hn i d e).elim⟩
  · cases h
  · obtain ⟨v, h1, h2⟩ := S.slot i d e
    exact ⟨v, h1, h2.mono (fun _ x => x) k⟩
theorem ExB.dom {F : Fz} {H H' : Hp} {y : Addr} (e : ExB y H H') (hd : Dom F H) (hF : ¬ F y) : Dom F H' := fun a f z => by
  by_cases h : a = y
  · subst h; exact hF f
  · exact hd a f (e.free h z)
theorem Dd.adr_ {B : Bs} {F : Fz} {H : Hp} {v : V} {a : Addr} (g : Dd B F H v (adrD a)) : v = .ref a := by
  generalize hd : adrD a = d at g
  cases g <;> first | (cases hd; done) | skip
  · rename_i a o xs kvs h z pp
    cases hd
    exact (DdPairs.nn pp).elim
  · cases hd
    rfl
/-- self.f = value -/
theorem fld_run {B : Bs} {W : WX} {xa : Xc → Addr} {F : Fz} {H : Hp} {σ : DS.St} {env : DS.Env} {E : Ends} {y C dx : Addr} {fs : List (Str × V)} {m : Md} {fe : Ef} {d : PyData} {nm : Str} (S : Stt B D0 F H σ env) (he0 : env[0]? = some (some (false, adrD y)))
    (hy : H y = some (.ins C dx fs)) (hFy : ¬ F y) (cl : Cls B.K C) (na : NoAttr B.K C nm) (hl : fs.length < 1000) (hf : fe env = some (.ok d))
    (q : ∀ v H1, Ex H H1 → (∃ F1, Ext F H F1 H1 ∧ Got B m H F1 H1 v d) → E.nx σ (upd H1 y (.ins C dx (putF nm v fs)))) : sFld B.K (tVar 0) (tM B W xa m fe) nm E σ H := by
  refine ⟨D0, F, env, .ok d, S, hf, fun v F1 H1 x g => ?_⟩
  obtain ⟨v0, h0, g0⟩ := S.slot 0 _ he0
  cases Dd.adr_ g0
  exact ⟨.ref y, h0, y, C, dx, fs, rfl, x.ex _ _ hy, cl, na, hl, q v H1 x.ex ⟨F1, x, g⟩⟩
theorem init_run {X : Cx} {W : WX} {xa : Xc → Addr} {C : Addr} {Φ : Fn} {σ : DS.St} {H : Hp} {E : Ends} {F : Fz} {y dx : Addr} {lv wv sv : V} {ld wd sd : PyData} (Y : YdC X.K C)
    (hσ : σ = [some (.ref y), some lv, some wv, some sv]) (hy : H y = some (.ins C dx [])) (hFy : ¬ F y) (hd : Dom F H) (d1 : Dd (bs X) F H lv ld) (d2 : Dd (bs X) F H wv wd) (d3 : Dd (bs X) F H sv sd)
    (h : (∃ c, Φ [ld, wd, sd] = some (.error c) ∧ ∀ σ H', ExB y H H' → W (.ref (xa c)) none σ H') ∨
      (∃ xs ys d, ld = .list xs ∧ wd = .list ys ∧ Φ [ld, wd, sd] = some (.ok (false, d)) ∧ ∀ σ (H' : Hp) (r c : Addr) (sv' : V) (us ws : List V) (F1 : Fz), H' y = some (.ins C dx (yFs r c sv' .non)) → H' r = some (.lst us) → H' c = some (.lst ws) → us.length ≤ sizeLine → ws.length ≤ sizeLine → DdAll (bs X) F1 H' us xs → DdAll (bs X) F1 H' ws ys → Dd (bs X) F1 H' sv' sd →
        H r = none → H c = none → r ≠ c → r ≠ y → c ≠ y → ¬ F1 y → Dom F1 H' → (∀ a, F a → F1 a) → ExB y H H' → E.nx σ H')) : tYI X W xa Φ E σ H := by
  subst hσ
  have hFy' : ¬ F y := hFy
  have S : Stt (bs X) ⟨H, fun a => H a ≠ none, F⟩ F H [some (.ref y), some lv, some wv, some sv] [some (false, adrD y), some (false, ld), some (false, wd), some (false, sd)] := by
    refine ⟨Ex.refl H, fun _ h => h, fun _ h => h, fun _ h => .inl h, hd, rfl, fun i d e => ?_, fun i d e => ?_, fun i j d d' a e _ _ _ => ?_⟩
    · rcases i with _ | _ | _ | _ | i
      · cases e; exact ⟨_, rfl, .adr y⟩
      · cases e; exact ⟨lv, rfl, d1⟩
      · cases e; exact ⟨wv, rfl, d2⟩
      · cases e; exact ⟨sv, rfl, d3⟩
      · simp at e
    · rcases i with _ | _ | _ | _ | i <;> first | (cases e; done) | (simp at e; done)
    · rcases i with _ | _ | _ | _ | i <;> first | (cases e; done) | (simp at e; done)
  have no : ∀ (ld wd : PyData) (i : Nat) d, ([some (false, adrD y), some (false, ld), some (false, wd), some (false, sd)] : DS.Env)[i]? ≠ some (some (true, d)) := fun ld wd i d e => by
    rcases i with _ | _ | _ | _ | i <;> first | (cases e; done) | (simp at e; done)
  have nfr : ∀ {H1 : Hp} {fs : List (Str × V)}, H1 y = some (.ins C dx fs) → ∀ o u, H1 y ≠ some (.frz o u) := fun h o u z => by rw [h] at z; cases z
  rcases h with ⟨c, hc, q⟩ | ⟨xs, ys, d, rfl, rfl, hc, q⟩
  · exact ⟨_, F, _, .xc c, S, by simp [hc], fun σ' H' e => q σ' H' (.of e)⟩
  · refine ⟨_, F, _, .nx [some (false, adrD y), some (false, .list xs), some (false, .list ys), some (false, sd)], S, by simp [hc], fun σ1 F1 H1 k1 S1 => ?_⟩
    have ex1 : Ex H H1 := S1.pro
    have y1 : H1 y = some (.ins C dx []) := ex1 _ _ hy
    have nF1 : ¬ F1 y := fun z => (S1.new y z).elim hFy fun n => n (by show H y ≠ none; rw [hy]; simp)
    have S1' := S1.re (no _ _) (Ex.refl H1).keep S1.dom
    have b0 : (bs X).K = X.K := rfl
    refine fld_run S1' rfl y1 nF1 Y.cl Y.n1 (by simp) (d := .list xs) (by simp [dLst1]) fun v H2 ex2 ⟨F2, x2, g2⟩ => ?_
    obtain ⟨r, rfl, nr, hr0, o2⟩ := (show ∃ a, v = .ref a ∧ ¬ F2 a ∧ H1 a = none ∧ Own (bs X) F2 H2 a (.list xs) from g2)
    cases o2 with
    | @lst us _ hr2 hz2 al2 =>
    have y2 : H2 y = some (.ins C dx []) := ex2 _ _ y1
    have nF2 : ¬ F2 y := fun z => (x2.new y z).elim nF1 fun n => by rw [y1] at n; cases n
    have ry : r ≠ y := fun z => by subst z; rw [y1] at hr0; cases hr0
    have kp2 : Keep F2 H2 (upd H2 y (.ins C dx (putF "rooms" (.ref r) []))) := Keep.upd nF2 y2 (fun o u z => by cases z)
    have dm2 : Dom F2 (upd H2 y (.ins C dx (putF "rooms" (.ref r) []))) := ExB.upd.dom x2.dom nF2
    have S2 := (S1'.ext x2).re (no _ _) kp2 dm2
    have al2' := al2.mono (fun _ x => x) kp2
    have hr3 : upd H2 y (.ins C dx (putF "rooms" (.ref r) [])) r = some (.lst us) := by rw [upd_ne ry]; exact hr2
    have y3 : upd H2 y (.ins C dx (putF "rooms" (.ref r) [])) y = some (.ins C dx [(("rooms" : Str), .ref r)]) := upd_same
    have eb3 : ExB y H (upd H2 y (.ins C dx (putF "rooms" (.ref r) []))) := (ExB.of (ex1.trans ex2)).trans .upd
    generalize upd H2 y (.ins C dx (putF "rooms" (.ref r) [])) = H3 at *
    refine fld_run S2 rfl y3 nF2 Y.cl Y.n2 (by simp) (d := .list ys) (by simp [dLst1]) fun v H4 ex4 ⟨F4, x4, g4⟩ => ?_
    obtain ⟨c, rfl, nc, hc0, o4⟩ := (show ∃ a, v = .ref a ∧ ¬ F4 a ∧ H3 a = none ∧ Own (bs X) F4 H4 a (.list ys) from g4)
    cases o4 with
    | @lst ws _ hc4 hz4 al4 =>
    have y4 : H4 y = some (.ins C dx [(("rooms" : Str), .ref r)]) := ex4 _ _ y3
    have nF4 : ¬ F4 y := fun z => (x4.new y z).elim nF2 fun n => by rw [y3] at n; cases n
    have cy : c ≠ y := fun z => by subst z; rw [y3] at hc0; cases hc0
    have rc : r ≠ c := fun z => by subst z; rw [hr3] at hc0; cases hc0
    have kp4 : Keep F4 H4 (upd H4 y (.ins C dx (putF "courses" (.ref c) [(("rooms" : Str), .ref r)]))) := Keep.upd nF4 y4 (fun o u z => by cases z)
    have dm4 : Dom F4 (upd H4 y (.ins C dx (putF "courses" (.ref c) [(("rooms" : Str), .ref r)]))) := ExB.upd.dom x4.dom nF4
    have S4 := (S2.ext x4).re (no _ _) kp4 dm4
    have al4' := al4.mono (fun _ x => x) kp4
    have al2'' := (al2'.ext x4).mono (fun _ x => x) kp4
    have hc5 : upd H4 y (.ins C dx (putF "courses" (.ref c) [(("rooms" : Str), .ref r)])) c = some (.lst ws) := by rw [upd_ne cy]; exact hc4
    have hr5 : upd H4 y (.ins C dx (putF "courses" (.ref c) [(("rooms" : Str), .ref r)])) r = some (.lst us) := by rw [upd_ne ry]; exact ex4 _ _ hr3
    have y5 : upd H4 y (.ins C dx (putF "courses" (.ref c) [(("rooms" : Str), .ref r)])) y = some (.ins C dx [(("rooms" : Str), .ref r), ("courses", .ref c)]) := by rw [upd_same, put_y2]
    have eb5 : ExB y H (upd H4 y (.ins C dx (putF "courses" (.ref c) [(("rooms" : Str), .ref r)]))) := eb3.trans ((ExB.of ex4).trans .upd)
    have cH : H c = none := eb3.free cy hc0
    generalize upd H4 y (.ins C dx (putF "courses" (.ref c) [(("rooms" : Str), .ref r)])) = H5 at *
    refine fld_run S4 rfl y5 nF4 Y.cl Y.n3 (by simp) (m := .e) (d := sd) (by simp) fun v H6 ex6 ⟨F6, x6, g6⟩ => ?_
    have y6 := ex6 _ _ y5
    have nF6 : ¬ F6 y := fun z => (x6.new y z).elim nF4 fun n => by rw [y5] at n; cases n
    have kp6 : Keep F6 H6 (upd H6 y (.ins C dx (putF "spots" v [(("rooms" : Str), .ref r), ("courses", .ref c)]))) := Keep.upd nF6 y6 (fun o u z => by cases z)
    have dm6 : Dom F6 (upd H6 y (.ins C dx (putF "spots" v [(("rooms" : Str), .ref r), ("courses", .ref c)]))) := ExB.upd.dom x6.dom nF6
    have S6 := (S4.ext x6).re (no _ _) kp6 dm6
    have a4 := (al4'.ext x6).mono (fun _ x => x) kp6
    have a2 := (al2''.ext x6).mono (fun _ x => x) kp6
    have a6 := Dd.mono (fun _ x => x) kp6 g6
    have hc7 : upd H6 y (.ins C dx (putF "spots" v [(("rooms" : Str), .ref r), ("courses", .ref c)])) c = some (.lst ws) := by rw [upd_ne cy]; exact ex6 _ _ hc5
    have hr7 : upd H6 y (.ins C dx (putF "spots" v [(("rooms" : Str), .ref r), ("courses", .ref c)])) r = some (.lst us) := by rw [upd_ne ry]; exact ex6 _ _ hr5
    have y7 : upd H6 y (.ins C dx (putF "spots" v [(("rooms" : Str), .ref r), ("courses", .ref c)])) y = some (.ins C dx [(("rooms" : Str), .ref r), ("courses", .ref c), ("spots", v)]) := by rw [upd_same, put_y3]
    have eb7 : ExB y H (upd H6 y (.ins C dx (putF "spots" v [(("rooms" : Str), .ref r), ("courses", .ref c)]))) := eb5.trans ((ExB.of ex6).trans .upd)
    generalize upd H6 y (.ins C dx (putF "spots" v [(("rooms" : Str), .ref r), ("courses", .ref c)])) = H7 at *
    refine fld_run S6 rfl y7 nF6 Y.cl Y.n4 (by simp) (m := .e) (d := .none) (by simp) fun v8 H8 ex8 ⟨F8, x8, g8⟩ => ?_
    cases Dd.non_ (show Dd (bs X) F8 H8 v8 .none from g8)
    have y8 := ex8 _ _ y7
    have nF8 : ¬ F8 y := fun z => (x8.new y z).elim nF6 fun n => by rw [y7] at n; cases n
    have kp8 : Keep F8 H8 (upd H8 y (.ins C dx (putF "ahead" .non [(("rooms" : Str), .ref r), ("courses", .ref c), ("spots", v)]))) := Keep.upd nF8 y8 (fun o u z => by cases z)
    refine q σ1 _ r c v us ws F8 (by rw [upd_same, put_y4]) (by rw [upd_ne ry]; exact ex8 _ _ hr7) (by rw [upd_ne cy]; exact ex8 _ _ hc7) hz2 hz4 ((a2.ext x8).mono (fun _ x => x) kp8) ((a4.ext x8).mono (fun _ x => x) kp8) (Dd.mono (fun _ x => x) kp8 (Dd.ext a6 x8)) (ex1.free hr0) cH rc ry cy nF8 (ExB.upd.dom x8.dom nF8) (fun a f => x8.sub a (x6.sub a (x4.sub a (x2.sub a (k1.sub a f))))) (eb7.trans ((ExB.of ex8).trans .upd))
section
variable {P : Program} {w : World} {K : PySem.W.Frag} {mg : Str → Option Value} {base : Heap}
theorem init_fn {f : Addr} {fd : FuncData} {N ps : List Str} {k : Nat} {nm ql : Str} {params : Arguments} {body : List Stmt} {scope : Scope} {xa : Xc → Addr} {C : Addr} {Φ : Fn} (Y : YdC K C)
    (Fd : FunD K nm ql params body scope [] [] f fd) (Sc : FnScope N ps scope) (hN : N.length = 4) (hps : ps.length = 4)
    (hb : ∀ (cdv : Value) (A : Around) (outer : List PySem.Env) (s : Shared) (H : Hp) (E : XK), Room k (A.deeper (envOfC ql scope s.heap.objs.size f cdv)) →
      PSs (cxOf (L2N.CX P w) P w K mg base N ql scope f cdv A outer s H E) body (tYI (cxOf (L2N.CX P w) P w K mg base N ql scope f cdv A outer s H E) (fun c d _ H' => E c d H') xa Φ)) :
    FnOk P w K mg base (L2N.CX P w) (k + 1) f fd ps (spYI ⟨P, w, K, none⟩ xa C Φ) := by
  refine Fd.ok Sc (fun vs H Q E ⟨F, y, dx, lv, wv, sv, ld, wd, sd, e, _⟩ => by rw [e, hps]; rfl) fun cdv A outer s H vs Q E hr hsp => ?_
  rw [show (⟨P, w, K, none⟩ : Bs) = bs (cxOf (L2N.CX P w) P w K mg base N ql scope f cdv A outer s H E) from bs_none (X := cxOf (L2N.CX P w) P w K mg base N ql scope f cdv A outer s H E) hr.hd] at hsp
  obtain ⟨F, y, dx, lv, wv, sv, ld, wd, sd, rfl, hy, hFy, hd, d1, d2, d3, h⟩ := hsp
  refine ⟨_, hb cdv A outer s H E hr, ?_⟩
  refine init_run (X := cxOf (L2N.CX P w) P w K mg base N ql scope f cdv A outer s H E) Y (by unfold L2.start; rw [hN]; rfl) hy hFy hd d1 d2 d3 ?_
  rcases h with ⟨c, hc, q⟩ | ⟨xs, ys, d, e1, e2, hc, q⟩
  · exact .inl ⟨c, hc, fun _ H' e => q H' e⟩
  · exact .inr ⟨xs, ys, d, e1, e2, hc, fun _ H' r c sv' us ws F1 => q H' r c sv' us ws F1⟩
end
section
variable {X : Cx} {CX : CXT} {k : Nat} {f C : Addr} {fd : FuncData} {ps : List Str} {sp : Sp} {E : DS.St → XK} {x : Str} {e : Expr} {es : List Expr} {t : TA} {p pos : Pos}
theorem run_makeS {pins : List (Addr × Obj)} {σ : DS.St} {H : Hp} {s : Shared} {Q : VK} {us : List Value} {vs : List V} (M : Mk X.K C f) (F : FnOk X.prog X.w X.K X.mg X.base CX k f fd ps sp) (hr : Room (k + 1) X.A) (hb : Binds X.K fd ps [])
    (hx : PassesAt CX X σ (E σ)) (I : Inv X pins σ H s) (r : Vals vs us)
    (h : ∀ x dx, H x = none → H dx = none → dx ≠ x → sp (.ref x :: vs) (upd (upd H dx (.own x)) x (.ins C dx [])) (fun v H2 => v = .non ∧ Q (.ref x) H2) (E σ)) :
    wpAny (model X.prog X.w) X.A (call (.ref C) us) (EP X pins σ Q) X.xe s := by
  have hq := h (s.heap.objs.size + 1) s.heap.objs.size (I.hok.fresh (Nat.le_succ _)) (I.hok.fresh (Nat.le_refl _)) (Nat.ne_of_lt (Nat.lt_succ_self _))
  have I2 := Inv.made (C := C) I
  have r2 : Vals (V.ref (s.heap.objs.size + 1) :: vs) (Value.ref (s.heap.objs.size + 1) :: us) := .cons rfl r
  have hl : ((Value.ref (s.heap.objs.size + 1) :: us) ++ []).length = ps.length := by
    have e := r2.length
    rw [F.len _ _ _ _ hq] at e
    rw [List.append_nil]
    exact e.symm
  have b2 := hb _ (Value.ref (s.heap.objs.size + 1) :: us) I2.kIn hl
  rw [List.append_nil] at b2
  refine wpAny_call (make_map (f := f) I.kIn M.makes M.init (beq_iff_eq.mp M.fn) (codeAny_mono (F.run _ X.stack _ _ ⟨Value.ref (s.heap.objs.size + 1) :: us, []⟩ (Value.ref (s.heap.objs.size + 1) :: us) _ _ (E σ) (hr.make C us [])
    (I2.env0.make C us []) b2 r2 hq) fun r s' hq' => ?_))
  cases r with
  | error e => exact hx pins _ _ e s' I2 hq'
  | ok fl =>
    cases fl with
    | ret u =>
      obtain ⟨v, H', I3, rv, ev, q3⟩ := I2.after hq'
      subst ev
      exact ⟨rv, ⟨V.ref (s.heap.objs.size + 1), H', I3, rfl, q3⟩⟩
    | next => exact False.elim hq'
    | brk => exact False.elim hq'
    | cont => exact False.elim hq'
/-- Yard, callable around A -/
structure YokC (P : Program) (w : World) (K : PySem.W.Frag) (mg : Str → Option Value) (base : Heap) (xa : Xc → Addr) (k : Nat) (x : Str) (C : Addr) (Φ : Fn) : Prop where
  maker : ∃ f fd ps, Mk K C f ∧ FnOk P w K mg base (L2N.CX P w) k f fd ps (spYI ⟨P, w, K, none⟩ xa C Φ) ∧ Binds K fd ps []
  mg : mg x = some (.ref C)
  dbg : (x == ("__debug__" : Str)) = false
/-- Yard(..) as a value: a new yard at y -/
def tYd (B : Bs) (W : WX) (xa : Xc → Addr) (C : Addr) (Φ : Fn) (r : Afn) : TE := fun σ H Q => ∃ D F env ld wd sd, Stt B D F H σ env ∧ r env = some (.ok [ld, wd, sd]) ∧
  ((∃ c, Φ [ld, wd, sd] = some (.error c) ∧ ∀ H', Ex H H' → W (.ref (xa c)) none σ H') ∨
  (∃ xs ys d, ld = .list xs ∧ wd = .list ys ∧ Φ [ld, wd, sd] = some (.ok (false, d)) ∧ ∀ (H' : Hp) (y dx r c : Addr) (sv' : V) (us ws : List V) (F1 : Fz), Ex H H' → H y = none → H' y = some (.ins C dx (yFs r c sv' .non)) → H' r = some (.lst us) → H' c = some (.lst ws) → us.length ≤ sizeLine → ws.length ≤ sizeLine → DdAll B F1 H' us xs → DdAll B F1 H' ws ys → Dd B F1 H' sv' sd →
    H r = none → H c = none → r ≠ c → r ≠ y → c ≠ y → ¬ F1 y → Dom F1 H' → (∀ a, F a → F1 a) → Q (.ref y) H'))
theorem pe_yard {W : WX} {xa : Xc → Addr} {Φ : Fn} {r : Afn} (G : YokC X.prog X.w X.K X.mg X.base xa k x C Φ) (hr : Room (k + 1) X.A) (tk : L2N.Takes X W) (hg : Gl X x) (ha : PAD X W xa .e (e :: es) r)
    (he : starEach (e :: es) X.env = (false, eval e X.env) :: starEach es X.env := by rfl) (hpl : (backTo pos (starEach es X.env)).any (·.1) = false := by rfl) : PE X (.Call (.Name x p) (e :: es) [] pos) (tYd (bs X) W xa C Φ r) := by
  obtain ⟨⟨f, fd, ps, M, F, hb⟩, hm, hdb⟩ := G
  rw [bs_none hr.hd] at F
  refine ⟨fun pins s σ H Q I h => ?_⟩
  obtain ⟨D, F0, env, ld, wd, sd, S, hre, h⟩ := h
  refine wpAny_Call_Name_kw (ld_glob I hg hm ?_ hdb)
  refine PySem.W.callWith_K (h₀ := X.base) I.ok.mod.kin M.kp (thn (ha.run pos pins s σ H (fun vs H1 => ∃ F1, Ext F0 H F1 H1 ∧ DdAll (bs X) F1 H1 vs [ld, wd, sd]) I ⟨D, F0, env, _, S, hre, fun vs F1 H1 x1 g1 => ⟨F1, x1, g1⟩⟩) fun us s1 ⟨vs, H1, I1, rv, F1, x1, g1⟩ => ⟨I1.kIn, ?_⟩) he hpl
  cases g1 with
  | cons d1 g1 =>
  cases g1 with
  | cons d2 g1 =>
  cases g1 with
  | cons d3 g1 =>
  cases g1
  refine run_makeS (E := WE W) M F hr hb (L2N.passAt tk σ) I1 rv fun y dx hy hdx hne => ?_
  have exM : Ex H1 (upd (upd H1 dx (.own y)) y (.ins C dx [])) := (Ex.new hdx).trans (Ex.new (by rw [upd_ne (Ne.symm hne)]; exact hy))
  have dmM : Dom F1 (upd (upd H1 dx (.own y)) y (.ins C dx [])) := fun a f z => x1.dom a f (exM.free z)
  refine ⟨F1, y, dx, _, _, _, ld, wd, sd, rfl, upd_same, fun f => x1.dom y f hy, dmM, d1.ex exM, d2.ex exM, d3.ex exM, ?_⟩
  have exB : ∀ {H'}, ExB y (upd (upd H1 dx (.own y)) y (.ins C dx [])) H' → Ex H H' := fun {H'} e a u ha => e a u (fun z => by subst z; rw [x1.ex _ _ ha] at hy; cases hy) (exM _ _ (x1.ex _ _ ha))
  rcases h with ⟨c, hc, q⟩ | ⟨xs, ys, d, e1, e2, hc, q⟩
  · exact .inl ⟨c, hc, fun H' e => q H' (exB e)⟩
  · refine .inr ⟨xs, ys, d, e1, e2, hc, fun H' r c sv' us ws F2 f1 f2 f3 f4 f5 f6 f7 f8 f9 f10 f11 f12 f13 f14 f15 f16 f17 => ⟨rfl, q H' y dx r c sv' us ws F2 (exB f17) (x1.ex.free hy) f1 f2 f3 f4 f5 f6 f7 f8 (x1.ex.free (exM.free f9)) (x1.ex.free (exM.free f10)) f11 f12 f13 f14 f15 (fun a z => f16 a (x1.sub a z))⟩⟩
/-- Yard(..) as a statement -/
def sYard (Φ : Fn) (r : Afn) : Sf := fun env => match r env with
  | some (.ok [.list xs, .list ys, sd]) => (match Φ [.list xs, .list ys, sd] with
    | some (.ok (false, _)) => some (.nx env)
    | some (.error c) => some (.xc c)
    | _ => none)
  | some (.ok [ld, wd, sd]) => (match Φ [ld, wd, sd] with
    | some (.error c) => some (.xc c)
    | _ => none)
  | _ => none
theorem psd_yard {W : WX} {xa : Xc → Addr} {Φ : Fn} {r : Afn} {spos : Pos} (G : YokC X.prog X.w X.K X.mg X.base xa k x C Φ) (hr : Room (k + 1) X.A) (tk : L2N.Takes X W) (hg : Gl X x) (ha : PAD X W xa .e (e :: es) r)
    (he : starEach (e :: es) X.env = (false, eval e X.env) :: starEach es X.env := by rfl) (hpl : (backTo pos (starEach es X.env)).any (·.1) = false := by rfl) (hs : swapsWith (.Call (.Name x p) (e :: es) [] pos) none spos.line X.env = pure false := by rfl) :
    PSD X W xa (.Expr (.Call (.Name x p) (e :: es) [] pos) spos) (sYard Φ r) := impS (ps_expr (pe_yard G hr tk hg ha he hpl) hs) fun E σ H h => by
  obtain ⟨D, F, env, out, S, e0, q⟩ := h
  unfold sYard at e0
  have err : ∀ {ld wd sd : PyData}, r env = some (.ok [ld, wd, sd]) → ∀ c, Φ [ld, wd, sd] = some (.error c) → out = .xc c → tYd (bs X) W xa C Φ r σ H (fun _ H' => E.nx σ H') := by
    intro ld wd sd hr c hc ho
    subst ho
    exact ⟨D, F, env, ld, wd, sd, S, hr, .inl ⟨c, hc, fun H' ex => q σ H' (S.pro.trans ex)⟩⟩
  split at e0
  · rename_i xs ys sd hr
    split at e0
    · rename_i d hc
      cases e0
      exact ⟨D, F, env, _, _, sd, S, hr, .inr ⟨xs, ys, d, rfl, rfl, hc, fun H' y dx r c sv' us ws F1 ex _ _ _ _ _ _ _ _ _ _ _ _ _ _ _ _ _ => q σ F H' (Ext.of S.dom ex).kp (S.ext (Ext.of S.dom ex))⟩⟩
    · rename_i c hc
      cases e0
      exact err hr c hc rfl
    · cases e0
  · rename_i ld wd sd hn hr
    split at e0
    · rename_i c hc
      cases e0
      exact err hr c hc rfl
    · cases e0
  · cases e0
end
theorem Dok.alias {P : Program} {w : World} {K : PySem.W.Frag} {mg : Str → Option Value} {base : Heap} {xa : Xc → Addr} {k : Nat} {x y : Str} {Φ : Fn} (D : Dok P w K mg base xa k x Φ) (e : mg y = mg x) (hd : (y == ("__debug__" : Str)) = false) : Dok P w K mg base xa k y Φ :=
  ⟨let ⟨f, fd, ps, a, b, c⟩ := D.ok; ⟨f, fd, ps, a, e.trans b, c⟩, hd⟩
end DS
namespace DS
open PySem PySem.Spec PyProof.Rows L2
def b1__wall : Sf := sNx
def w2__wall : Ef := (eC (.bool true))
def g__wall : Sf := (sWhile w2__wall b1__wall 1000)
def P__wall : Fn := runFn 1 1 g__wall
def g_is_among : Sf := (sRet false (fAnd (lift1 (dIs .int) (eV 0)) (fAnd (fNot (lift1 (dIs .bool) (eV 0))) (lChain dLe dLe (eV 1) (eV 0) (eV 2)))))
def P_is_among : Fn := runFn 3 3 g_is_among
def c1_need_lane : Ef := (eLC (sLst (eV 0)) (bName 1) tYesE (eCall P_is_among false (aC (eV 1) (aC (eC (.int 0)) (aC (eC (.int 4)) aN)))) [1])
def g_need_lane : Sf := (sSeq (sIf (fOr (fNot (lift1 (dIs .list) (eV 0))) (fNot (lChain dLe dLe (eC (.int 1)) (lift1 dLen (eV 0)) (eC (.int 8))))) (sRaise .lane) sNx)
  (sSeq (sIf (fNot (lift1 dAll c1_need_lane)) (sRaise .lane) sNx)
  (sRet false (eC (.bool true)))))
def P_need_lane : Fn := runFn 2 1 g_need_lane
def c1_need_ways : Ef := (eLC (sLst (eV 0)) (bName 1) tYesE (fAnd (lift1 (dIs .str) (eV 1)) (lift2 (dIn false) (eV 1) (liftA dTup (aC (eC (.str "right")) (aC (eC (.str "left")) aN))))) [1])
def g_need_ways : Sf := (sSeq (sIf (fOr (fNot (lift1 (dIs .list) (eV 0))) (fNot (lChain dLe dLe (eC (.int 1)) (lift1 dLen (eV 0)) (eC (.int 6))))) (sRaise .ways) sNx)
  (sSeq (sIf (fNot (lift1 dAll c1_need_ways)) (sRaise .ways) sNx)
  (sRet false (eC (.bool true)))))
def P_need_ways : Fn := runFn 2 1 g_need_ways
def g_is_spot : Sf := (sSeq (sIf (fOr (fNot (lift1 (dIs .tuple) (eV 0))) (fOr (lift2 (dEq false) (lift1 dLen (eV 0)) (eC (.int 0))) (fNot (lift1 (dIs .str) (lift2 dIx (eV 0) (eC (.int 0))))))) (sRet false (eC (.bool false))) sNx)
  (sSeq (sIf (lift2 (dEq false) (lift2 dIx (eV 0) (eC (.int 0))) (eC (.str "out"))) (sRet false (lift2 (dEq false) (lift1 dLen (eV 0)) (eC (.int 1)))) sNx)
  (sRet false (fAnd (lift2 (dIn false) (lift2 dIx (eV 0) (eC (.int 0))) (liftA dTup (aC (eC (.str "lane")) (aC (eC (.str "side")) aN)))) (fAnd (lift2 (dEq false) (lift1 dLen (eV 0)) (eC (.int 2))) (eCall P_is_among false (aC (lift2 dIx (eV 0) (eC (.int 1))) (aC (eC (.int 0)) (aC (lift2 iSub (lift1 dLen (eV 1)) (eC (.int 1))) aN)))))))))
def P_is_spot : Fn := runFn 2 2 g_is_spot
def b1_has_room : Sf := (sIf (fOr (lift2 dGt (liftM okTup dCnt (eV 1) (liftA dTup (aC (eC (.str "lane")) (aC (eV 2) aN)))) (eC (.int 1))) (lift2 dGt (liftM okTup dCnt (eV 1) (liftA dTup (aC (eC (.str "side")) (aC (eV 2) aN)))) (lift2 dIx (eV 0) (eV 2)))) (sRet false (eC (.bool false))) sNx)
def g_has_room : Sf := (sSeq (sFor (sRng (lift1 dLen (eV 0))) (bName 2) b1_has_room)
  (sRet false (eC (.bool true))))
def P_has_room : Fn := runFn 3 2 g_has_room
def c1_need_stand : Ef := (eLC (sTup (eV 2)) (bName 3) tYesE (eCall P_is_spot false (aC (eV 3) (aC (eV 0) aN))) [3])
def g_need_stand : Sf := (sSeq (sDrop (eCall P_need_lane false (aC (eV 0) aN)))
  (sSeq (sDrop (eCall P_need_ways false (aC (eV 1) aN)))
  (sSeq (sIf (fOr (fNot (lift1 (dIs .tuple) (eV 2))) (lift2 (dEq true) (lift1 dLen (eV 2)) (lift1 dLen (eV 1)))) (sRaise .stand) sNx)
  (sSeq (sIf (fOr (fNot (lift1 dAll c1_need_stand)) (fNot (eCall P_has_room false (aC (eV 0) (aC (eV 2) aN))))) (sRaise .stand) sNx)
  (sRet false (eC (.bool true)))))))
def P_need_stand : Fn := runFn 4 3 g_need_stand
def g_way_left : Sf := (sSeq (sIf (lift2 (dEq false) (lift2 dIx (eV 2) (eC (.int 0))) (eC (.str "out"))) (sRet false (eC (.int 0))) sNx)
  (sSeq (sIf (lift2 (dEq false) (eV 1) (eC (.str "right"))) (sRet false (lift2 iSub (lift1 dLen (eV 0)) (lift2 dIx (eV 2) (eC (.int 1))))) sNx)
  (sRet false (lift2 iAdd (lift2 dIx (eV 2) (eC (.int 1))) (eC (.int 1))))))
def P_way_left : Fn := runFn 3 3 g_way_left
def c1_left_of : Ef := (eLC (sZip (eV 1) (eV 2)) (bTup [3, 4]) tYesE (eCall P_way_left false (aC (eV 0) (aC (eV 3) (aC (eV 4) aN)))) [3, 4])
def g_left_of : Sf := (sRet false (lift1 dSum c1_left_of))
def P_left_of : Fn := runFn 5 3 g_left_of
def g_next_spot : Sf := (sSeq (sAsg (bName 3) (lift2 iAdd (eV 2) (eC (.int 1))))
  (sSeq (sIf (lift2 (dEq false) (eV 1) (eC (.str "left"))) (sAsg (bName 3) (lift2 iSub (eV 2) (eC (.int 1)))) sNx)
  (sSeq (sIf (lChain dLe dLt (eC (.int 0)) (eV 3) (lift1 dLen (eV 0))) (sRet false (liftA dTup (aC (eC (.str "lane")) (aC (eV 3) aN)))) sNx)
  (sRet false (liftA dTup (aC (eC (.str "out")) aN))))))
def P_next_spot : Fn := runFn 4 3 g_next_spot
def g_goal_of : Sf := (sSeq (sAsg (bTup [6, 7]) (eV 3))
  (sSeq (sAsg (bName 4) (lift2 dIx (eV 2) (eV 7)))
  (sSeq (sIf (lift2 (dEq false) (eV 6) (eC (.str "aside"))) (sSeq (sIf (fAnd (lift2 (dEq false) (lift2 dIx (eV 4) (eC (.int 0))) (eC (.str "lane"))) (lift2 dLt (liftM okTup dCnt (eV 2) (liftA dTup (aC (eC (.str "side")) (aC (lift2 dIx (eV 4) (eC (.int 1))) aN)))) (lift2 dIx (eV 0) (lift2 dIx (eV 4) (eC (.int 1)))))) (sRet false (liftA dTup (aC (eC (.str "side")) (aC (lift2 dIx (eV 4) (eC (.int 1))) aN)))) sNx)
  (sRet false (eC .none))) sNx)
  (sSeq (sIf (lift2 (dEq true) (lift2 dIx (eV 4) (eC (.int 0))) (fIf (lift2 (dEq false) (eV 6) (eC (.str "go"))) (eC (.str "lane")) (eC (.str "side")))) (sRet false (eC .none)) sNx)
  (sSeq (sAsg (bName 5) (eCall P_next_spot false (aC (eV 0) (aC (lift2 dIx (eV 1) (eV 7)) (aC (lift2 dIx (eV 4) (eC (.int 1))) aN)))))
  (sSeq (sIf (fAnd (lift2 (dEq false) (lift2 dIx (eV 5) (eC (.int 0))) (eC (.str "lane"))) (lift2 (dIn false) (eV 5) (eV 2))) (sRet false (eC .none)) sNx)
  (sRet false (eV 5))))))))
def P_goal_of : Fn := runFn 8 4 g_goal_of
def g_moved : Sf := (sRet false (lift2 iAdd (lift2 iAdd (lift3 dSl (eV 0) oN (oS (eV 1))) (liftA dTup (aC (eV 2) aN))) (lift3 dSl (eV 0) (oS (lift2 iAdd (eV 1) (eC (.int 1)))) oN)))
def P_moved : Fn := runFn 3 3 g_moved
def b1_moves_of : Sf := (sSeq (sAsg (bName 6) (eCall P_goal_of false (aC (eV 0) (aC (eV 1) (aC (eV 2) (aC (liftA dTup (aC (eV 5) (aC (eV 4) aN))) aN))))))
  (sIf (lift2 (dIsN true) (eV 6) (eC .none)) (sApp 3 (liftA dTup (aC (liftA dTup (aC (eV 5) (aC (eV 4) aN))) (aC (eCall P_moved false (aC (eV 2) (aC (eV 4) (aC (eV 6) aN)))) aN)))) sNx))
def b2_moves_of : Sf := (sFor (sTup (liftA dTup (aC (eC (.str "go")) (aC (eC (.str "aside")) (aC (eC (.str "on")) aN))))) (bName 5) b1_moves_of)
def g_moves_of : Sf := (sSeq (sOwn 3 (liftA dLst aN))
  (sSeq (sFor (sRng (lift1 dLen (eV 1))) (bName 4) b2_moves_of)
  (sRetV 3)))
def P_moves_of : Fn := runFn 7 3 g_moves_of
def g_left_to_go : Sf := (sSeq (sDrop (eCall P_need_stand false (aC (eV 0) (aC (eV 1) (aC (eV 2) aN)))))
  (sRet false (eCall P_left_of false (aC (eV 0) (aC (eV 1) (aC (eV 2) aN))))))
def P_left_to_go : Fn := runFn 3 3 g_left_to_go
def c1_allowed : Ef := (eLC (sLst (eCall P_moves_of true (aC (eV 0) (aC (eV 1) (aC (eV 2) aN))))) (bTup [3, 4]) tYesE (eV 3) [3, 4])
def g_allowed : Sf := (sSeq (sDrop (eCall P_need_stand false (aC (eV 0) (aC (eV 1) (aC (eV 2) aN)))))
  (sRet true c1_allowed))
def P_allowed : Fn := runFn 5 3 g_allowed
def b1_behind : Sf := (sIf (lift2 (dEq false) (eV 4) (eV 3)) (sRet false (eV 5)) sNx)
def g_behind : Sf := (sSeq (sDrop (eCall P_need_stand false (aC (eV 0) (aC (eV 1) (aC (eV 2) aN)))))
  (sSeq (sIf (fAnd (lift1 (dIs .tuple) (eV 3)) (fAnd (lift2 (dEq false) (lift1 dLen (eV 3)) (eC (.int 2))) (eCall P_is_among false (aC (lift2 dIx (eV 3) (eC (.int 1))) (aC (eC (.int 0)) (aC (lift2 iSub (lift1 dLen (eV 1)) (eC (.int 1))) aN)))))) (sFor (sLst (noD (eCall P_moves_of true (aC (eV 0) (aC (eV 1) (aC (eV 2) aN)))))) (bTup [4, 5]) b1_behind) sNx)
  (sRaise .move)))
def P_behind : Fn := runFn 6 4 g_behind
def c1_all_reached : Ef := (eLC (sLst (eCall P_moves_of true (aC (eV 0) (aC (eV 1) (aC (eV 5) aN))))) (bTup [6, 7]) tYesE (eV 7) [6, 7])
def b2_all_reached : Sf := (sSeq (sPop 5 4)
  (sSeq (sIf (lift2 (dIn false) (eV 5) (rV 3)) sCt sNx)
  (sSeq (sPut 3 (eV 5) c1_all_reached)
  (sExt 4 (lift2 dIx (rV 3) (eV 5))))))
def w3_all_reached : Ef := (lift2 dGt (lift1 dLen (rV 4)) (eC (.int 0)))
def g_all_reached : Sf := (sSeq (sOwn 3 (eC (.dict [])))
  (sSeq (sOwn 4 (liftA dLst (aC (eV 2) aN)))
  (sSeq (sWhile w3_all_reached b2_all_reached 10000000)
  (sRetV 3))))
def P_all_reached : Fn := runFn 8 3 g_all_reached
def c1_rank : Ef := (eLC (sTup (eV 2)) (bName 3) (lift2 (dEq false) (lift2 dIx (eV 3) (eC (.int 0))) (eC (.str "side"))) (eV 3) [3])
def g_rank : Sf := (sRet false (lift2 iSub (lift2 iMul (eC (.int 2)) (eCall P_left_of false (aC (eV 0) (aC (eV 1) (aC (eV 2) aN))))) (lift1 dLen c1_rank)))
def P_rank : Fn := runFn 4 3 g_rank
def c1_all_prices : Ef := (eLC (sDic (eV 3)) (bName 8) tYesE (liftA dTup (aC (eCall P_rank false (aC (eV 0) (aC (eV 1) (aC (eV 8) aN)))) (aC (eV 8) aN))) [8])
def c2_all_prices : Ef := (eLC (sLst (lift2 dIx (eV 3) (eV 6))) (bName 9) (lift2 (dIsN true) (lift2 dIx (rV 4) (eV 9)) (eC .none)) (lift2 iAdd (lift2 dIx (rV 4) (eV 9)) (eC (.int 1))) [9])
def b3_all_prices : Sf := (sIf (lift2 (dEq false) (eCall P_left_of false (aC (eV 0) (aC (eV 1) (aC (eV 6) aN)))) (eC (.int 0))) (sPut 4 (eV 6) (eC (.int 0))) (sSeq (sOwn 7 c2_all_prices)
  (sPut 4 (eV 6) (lift1 dMinN (rV 7)))))
def g_all_prices : Sf := (sSeq (sOwn 3 (eCall P_all_reached true (aC (eV 0) (aC (eV 1) (aC (eV 2) aN)))))
  (sSeq (sOwn 4 (eC (.dict [])))
  (sFrz 3 (sSeq (sFor (sLst (lift1 dSort c1_all_prices)) (bTup [5, 6]) b3_all_prices)
  (sRetV 4)))))
def P_all_prices : Fn := runFn 10 3 g_all_prices
def g_reached : Sf := (sSeq (sDrop (eCall P_need_stand false (aC (eV 0) (aC (eV 1) (aC (eV 2) aN)))))
  (sRet true (lift1 dLstD (eCall P_all_reached true (aC (eV 0) (aC (eV 1) (aC (eV 2) aN)))))))
def P_reached : Fn := runFn 3 3 g_reached
def g_prices : Sf := (sSeq (sDrop (eCall P_need_stand false (aC (eV 0) (aC (eV 1) (aC (eV 2) aN)))))
  (sRet true (lift1 dItems (eCall P_all_prices true (aC (eV 0) (aC (eV 1) (aC (eV 2) aN)))))))
def P_prices : Fn := runFn 3 3 g_prices
def b1_least_row : Sf := (sIf (lift2 (dEq false) (lift2 dIx (rV 3) (eV 7)) (lift2 iSub (lift2 dIx (rV 3) (eV 5)) (eC (.int 1)))) (sSeq (sApp 4 (eV 6))
  (sSeq (sAsg (bName 5) (eV 7))
  sBk)) sNx)
def b2_least_row : Sf := (sFor (sLst (noD (eCall P_moves_of true (aC (eV 0) (aC (eV 1) (aC (eV 5) aN)))))) (bTup [6, 7]) b1_least_row)
def w3_least_row : Ef := (lift2 dGt (lift2 dIx (rV 3) (eV 5)) (eC (.int 0)))
def g_least_row : Sf := (sSeq (sDrop (eCall P_need_stand false (aC (eV 0) (aC (eV 1) (aC (eV 2) aN)))))
  (sSeq (sOwn 3 (eCall P_all_prices true (aC (eV 0) (aC (eV 1) (aC (eV 2) aN)))))
  (sSeq (sIf (lift2 (dIsN false) (lift2 dIx (rV 3) (eV 2)) (eC .none)) (sRet false (eC .none)) sNx)
  (sSeq (sOwn 4 (liftA dLst aN))
  (sSeq (sAsg (bName 5) (eV 2))
  (sSeq (sWhile w3_least_row b2_least_row 1000)
  (sRetV 4)))))))
def P_least_row : Fn := runFn 8 3 g_least_row
def g_closed : Sf := (sSeq (sDrop (eCall P_need_stand false (aC (eV 0) (aC (eV 1) (aC (eV 2) aN)))))
  (sSeq (sOwn 3 (eCall P_all_prices true (aC (eV 0) (aC (eV 1) (aC (eV 2) aN)))))
  (sSeq (sIf (lift2 (dIsN true) (lift2 dIx (rV 3) (eV 2)) (eC .none)) (sRet false (eC .none)) sNx)
  (sRet true (lift1 dLstD (rV 3))))))
def P_closed : Fn := runFn 4 3 g_closed
def g_turned_lane : Sf := (sSeq (sDrop (eCall P_need_lane false (aC (eV 0) aN)))
  (sRet true (lift1 dRevL (eV 0))))
def P_turned_lane : Fn := runFn 1 1 g_turned_lane
def c1_turned_ways : Ef := (eLC (sLst (eV 0)) (bName 1) tYesE (fIf (lift2 (dEq false) (eV 1) (eC (.str "right"))) (eC (.str "left")) (eC (.str "right"))) [1])
def g_turned_ways : Sf := (sSeq (sDrop (eCall P_need_ways false (aC (eV 0) aN)))
  (sRet true c1_turned_ways))
def P_turned_ways : Fn := runFn 2 1 g_turned_ways
def g_turned_spot : Sf := (sSeq (sIf (lift2 (dEq false) (lift2 dIx (eV 1) (eC (.int 0))) (eC (.str "out"))) (sRet false (eV 1)) sNx)
  (sRet false (liftA dTup (aC (lift2 dIx (eV 1) (eC (.int 0))) (aC (lift2 iSub (lift2 iSub (lift1 dLen (eV 0)) (eC (.int 1))) (lift2 dIx (eV 1) (eC (.int 1)))) aN)))))
def P_turned_spot : Fn := runFn 2 2 g_turned_spot
def c1_turned_stand : Ef := (eLC (sTup (eV 1)) (bName 2) tYesE (eCall P_turned_spot false (aC (eV 0) (aC (eV 2) aN))) [2])
def g_turned_stand : Sf := (sSeq (sDrop (eCall P_need_lane false (aC (eV 0) aN)))
  (sRet false (lift1 dTup1 c1_turned_stand)))
def P_turned_stand : Fn := runFn 3 2 g_turned_stand
def g_l_cell_at : Sf := (sSeq (sIf (lift2 dLt (eV 1) (lift1 dLen (eV 0))) (sRet false (lift2 dIx (eV 0) (eV 1))) sNx)
  (sRet false (eC (.int 0))))
def P_l_cell_at : Fn := runFn 2 2 g_l_cell_at
def g_l_mixed : Sf := (sSeq (sAsg (bName 2) (lift2 iAdd (eCall P_l_cell_at false (aC (eV 0) (aC (eC (.int 0)) aN))) (lift2 iMul (eC (.int 3)) (eCall P_l_cell_at false (aC (eV 0) (aC (eC (.int 1)) aN))))))
  (sRet false (lift2 iDiv (lift2 iMod (lift2 iMul (lift2 iMod (lift2 iAdd (lift2 iAdd (eCall P_l_cell_at false (aC (eV 0) (aC (eV 1) aN))) (lift2 iMul (eV 2) (lift2 iAdd (eV 1) (eC (.int 1))))) (lift2 iMul (eC (.int 104729)) (eV 1))) (eC (.int 1000000007))) (eC (.int 48271))) (eC (.int 2147483647))) (eC (.int 3)))))
def P_l_mixed : Fn := runFn 3 2 g_l_mixed
def c1_l_spot : Ef := (eLC (sRng (lift1 dLen (eV 0))) (bName 6) tYesE (liftA dTup (aC (eC (.str "lane")) (aC (eV 6) aN))) [6])
def c2_l_spot : Ef := (eLC (sRng (lift1 dLen (eV 0))) (bName 6) tYesE (liftA dTup (aC (eC (.str "side")) (aC (eV 6) aN))) [6])
def b3_l_spot : Sf := (sSeq (sAsg (bName 5) (lift2 dIx (eV 3) (lift2 iMod (lift2 iAdd (eV 2) (eV 4)) (lift1 dLen (eV 3)))))
  (sIf (fOr (fAnd (lift2 (dEq false) (lift2 dIx (eV 5) (eC (.int 0))) (eC (.str "lane"))) (lift2 (dIn true) (eV 5) (eV 1))) (fAnd (lift2 (dEq false) (lift2 dIx (eV 5) (eC (.int 0))) (eC (.str "side"))) (lift2 dLt (liftM okLst dCntL (eV 1) (eV 5)) (lift2 dIx (eV 0) (lift2 dIx (eV 5) (eC (.int 1))))))) (sRet false (eV 5)) sNx))
def g_l_spot : Sf := (sSeq (sAsg (bName 3) (lift2 iCat c1_l_spot c2_l_spot))
  (sSeq (sIf (lift2 (dEq false) (lift2 iMod (lift2 iDiv (eV 2) (eC (.int 16))) (eC (.int 9))) (eC (.int 1))) (sRet false (liftA dTup (aC (eC (.str "out")) aN))) sNx)
  (sSeq (sFor (sRng (lift1 dLen (eV 3))) (bName 4) b3_l_spot)
  (sRet false (liftA dTup (aC (eC (.str "out")) aN))))))
def P_l_spot : Fn := runFn 7 3 g_l_spot
def c1_l_built : Ef := (eLC (sRng (eV 3)) (bName 9) tYesE (lift2 dIx (eV 5) (lift2 iMod (eCall P_l_mixed false (aC (eV 0) (aC (lift2 iAdd (eC (.int 2)) (eV 9)) aN))) (eC (.int 8)))) [9])
def b2_l_built : Sf := (sSeq (sAsg (bName 10) (eCall P_l_mixed false (aC (eV 0) (aC (lift2 iAdd (eC (.int 10)) (eV 9)) aN))))
  (sSeq (sApp 7 (lift2 dIx (liftA dLst (aC (eC (.str "right")) (aC (eC (.str "left")) aN))) (lift2 iMod (eV 10) (eC (.int 2)))))
  (sApp 8 (eCallR P_l_spot (aC (noD (rV 6)) (aC (noD (rV 8)) (aC (lift2 iDiv (eV 10) (eC (.int 2))) aN)))))))
def g_l_built : Sf := (sSeq (sAsg (bName 1) (eCall P_l_cell_at false (aC (eV 0) (aC (eC (.int 0)) aN))))
  (sSeq (sAsg (bName 2) (eCall P_l_cell_at false (aC (eV 0) (aC (eC (.int 1)) aN))))
  (sSeq (sAsg (bName 3) (lift2 iAdd (eC (.int 1)) (lift2 iMod (eV 1) (eC (.int 4)))))
  (sSeq (sAsg (bName 4) (lift2 iAdd (eC (.int 1)) (lift2 iMod (eV 2) (eC (.int 3)))))
  (sSeq (sIf (lift2 (dEq false) (lift2 iMod (lift2 iDiv (eV 1) (eC (.int 4))) (eC (.int 8))) (eC (.int 1))) (sSeq (sAsg (bName 3) (lift2 iAdd (eC (.int 5)) (lift2 iMod (lift2 iDiv (eV 1) (eC (.int 32))) (eC (.int 4)))))
  (sAsg (bName 4) (lift2 iAdd (eC (.int 1)) (lift2 iMod (eV 2) (eC (.int 2)))))) sNx)
  (sSeq (sIf (lift2 (dEq false) (lift2 iMod (lift2 iDiv (eV 1) (eC (.int 4))) (eC (.int 8))) (eC (.int 2))) (sSeq (sAsg (bName 3) (lift2 iAdd (eC (.int 1)) (lift2 iMod (lift2 iDiv (eV 1) (eC (.int 32))) (eC (.int 3)))))
  (sAsg (bName 4) (lift2 iAdd (eC (.int 4)) (lift2 iMod (eV 2) (eC (.int 3)))))) sNx)
  (sSeq (sAsg (bName 5) (lift2 dIx (liftA dLst (aC (liftA dLst (aC (eC (.int 0)) (aC (eC (.int 1)) (aC (eC (.int 0)) (aC (eC (.int 2)) (aC (eC (.int 1)) (aC (eC (.int 0)) (aC (eC (.int 3)) (aC (eC (.int 4)) aN))))))))) (aC (liftA dLst (aC (eC (.int 0)) (aC (eC (.int 0)) (aC (eC (.int 0)) (aC (eC (.int 0)) (aC (eC (.int 1)) (aC (eC (.int 0)) (aC (eC (.int 0)) (aC (eC (.int 0)) aN))))))))) aN))) (lift1 dInt (lift2 dGt (lift2 iMod (lift2 iDiv (eV 2) (eC (.int 3))) (eC (.int 3))) (eC (.int 0))))))
  (sSeq (sOwn 6 c1_l_built)
  (sSeq (sOwn 7 (liftA dLst aN))
  (sSeq (sOwn 8 (liftA dLst aN))
  (sSeq (sFor (sRng (eV 4)) (bName 9) b2_l_built)
  (sFrz 6 (sFrz 7 (sRet false (liftA dTup (aC (eV 6) (aC (eV 7) (aC (lift1 dTup1 (rV 8)) aN))))))))))))))))))
def P_l_built : Fn := runFn 11 1 g_l_built
def c1_l_kind : Ef := (eLC (sLst (eV 1)) (bTup [2, 3]) (eV 3) (eV 2) [2, 3])
def g_l_kind (c : Xc) : Sf := (sSeq (sAsg (bName 1) (liftA dLst (aC (liftA dTup (aC (eC (.str "lane")) (aC (lift1 (dIsX (decide (c = .lane))) (eV 0)) aN))) (aC (liftA dTup (aC (eC (.str "ways")) (aC (lift1 (dIsX (decide (c = .ways))) (eV 0)) aN))) (aC (liftA dTup (aC (eC (.str "stand")) (aC (lift1 (dIsX (decide (c = .stand))) (eV 0)) aN))) aN)))))
  (sSeq (sAsg (bName 1) (lift2 iCat (eV 1) (liftA dLst (aC (liftA dTup (aC (eC (.str "move")) (aC (lift1 (dIsX (decide (c = .move))) (eV 0)) aN))) (aC (liftA dTup (aC (eC (.str "place")) (aC (lift1 (dIsX (decide (c = .place))) (eV 0)) aN))) aN)))))
  (sRet true (lift2 iCat c1_l_kind (lift2 iRep (liftA dLst (aC (eC (.str "value")) aN)) (lift1 dInt (lift1 (dIsX true) (eV 0))))))))
def g_l_number : Sf := (sSeq (sAsg (bName 1) (lift2 iMod (lift2 iDiv (eV 0) (eC (.int 8))) (lift2 iPow (eC (.int 10)) (eC (.int 20)))))
  (sRet false (lift2 dIx (liftA dLst (aC (lift1 dNeg (eC (.int 1))) (aC (eC (.int 5)) (aC (lift2 iAdd (eC (.int 5)) (eV 1)) (aC (lift2 iSub (lift1 dNeg (eC (.int 1))) (eV 1)) (aC (eC (.bool true)) (aC (eC .none) (aC (eC (.str "1")) (aC (liftA dLst (aC (eC (.int 1)) aN)) aN))))))))) (lift2 iMod (eV 0) (eC (.int 8))))))
def P_l_number : Fn := runFn 2 1 g_l_number
def g_l_bad_lane : Sf := (sSeq (sAsg (bName 2) (lift2 iMod (lift2 iDiv (eV 1) (eC (.int 5))) (lift1 dLen (eV 0))))
  (sSeq (sIf (lift2 dLt (lift2 iMod (eV 1) (eC (.int 5))) (eC (.int 3))) (sRet false (lift2 iCat (lift2 iCat (lift3 dSlL (eV 0) oN (oS (eV 2))) (liftA dLst (aC (eCall P_l_number false (aC (lift2 iDiv (eV 1) (eC (.int 40))) aN)) aN))) (lift3 dSlL (eV 0) (oS (lift2 iAdd (eV 2) (eC (.int 1)))) oN))) sNx)
  (sSeq (sIf (lift2 (dEq false) (lift2 iMod (eV 1) (eC (.int 5))) (eC (.int 3))) (sRet false (lift2 dIx (liftA dLst (aC (liftA dLst aN) (aC (lift2 iCat (eV 0) (lift2 iRep (liftA dLst (aC (eC (.int 0)) aN)) (lift2 iSub (eC (.int 9)) (lift1 dLen (eV 0))))) (aC (lift2 iCat (eV 0) (lift2 iRep (liftA dLst (aC (eC (.int 0)) aN)) (eC (.int 9)))) aN)))) (lift2 iMod (lift2 iDiv (eV 1) (eC (.int 5))) (eC (.int 3))))) sNx)
  (sRet false (lift2 dIx (liftA dLst (aC (lift1 dTup1 (eV 0)) (aC (eC .none) (aC (eC (.str "00")) (aC (eC (.int 3)) (aC (eC (dkD [.inl 0] [.int 1])) aN)))))) (lift2 iMod (lift2 iDiv (eV 1) (eC (.int 5))) (eC (.int 5))))))))
def P_l_bad_lane : Fn := runFn 3 2 g_l_bad_lane
def g_l_bad_ways : Sf := (sSeq (sAsg (bName 2) (lift2 iMod (lift2 iDiv (eV 1) (eC (.int 5))) (lift1 dLen (eV 0))))
  (sSeq (sIf (lift2 dLt (lift2 iMod (eV 1) (eC (.int 5))) (eC (.int 3))) (sSeq (sAsg (bName 3) (lift2 dIx (liftA dLst (aC (eC (.str "Right")) (aC (eC (.str "up")) (aC (eC (.str "")) (aC (eC (.str "right ")) (aC (eC (.bool true)) (aC (eC .none) (aC (eC (.int 1)) (aC (liftA dLst (aC (eC (.str "left")) aN)) (aC (eC (.str "lef")) aN)))))))))) (lift2 iMod (lift2 iDiv (eV 1) (eC (.int 30))) (eC (.int 9)))))
  (sRet false (lift2 iCat (lift2 iCat (lift3 dSlL (eV 0) oN (oS (eV 2))) (liftA dLst (aC (eV 3) aN))) (lift3 dSlL (eV 0) (oS (lift2 iAdd (eV 2) (eC (.int 1)))) oN)))) sNx)
  (sSeq (sIf (lift2 (dEq false) (lift2 iMod (eV 1) (eC (.int 5))) (eC (.int 3))) (sRet false (lift2 dIx (liftA dLst (aC (liftA dLst aN) (aC (lift2 iCat (eV 0) (lift2 iRep (liftA dLst (aC (eC (.str "left")) aN)) (lift2 iSub (eC (.int 7)) (lift1 dLen (eV 0))))) aN))) (lift2 iMod (lift2 iDiv (eV 1) (eC (.int 5))) (eC (.int 2))))) sNx)
  (sRet false (lift2 dIx (liftA dLst (aC (lift1 dTup1 (eV 0)) (aC (eC .none) (aC (eC (.str "right")) (aC (eC (.int 3)) (aC (eC (dkD [.inr "right"] [.int 1])) aN)))))) (lift2 iMod (lift2 iDiv (eV 1) (eC (.int 5))) (eC (.int 5))))))))
def P_l_bad_ways : Fn := runFn 4 2 g_l_bad_ways
def g_l_bad_spots : Sf := (sSeq (sAsg (bName 2) (liftA dLst (aC (liftA dTup (aC (eC (.str "lane")) (aC (lift1 dLen (eV 0)) aN))) (aC (liftA dTup (aC (eC (.str "side")) (aC (lift1 dNeg (eC (.int 1))) aN))) (aC (liftA dTup (aC (eC (.str "lane")) (aC (eC (.bool true)) aN))) (aC (liftA dTup (aC (eC (.str "lane")) (aC (eC .none) aN))) (aC (liftA dTup (aC (eC (.str "out")) (aC (eC (.int 0)) aN))) (aC (liftA dTup (aC (eC (.str "lane")) aN)) aN))))))))
  (sSeq (sAsg (bName 2) (lift2 iCat (eV 2) (liftA dLst (aC (liftA dLst (aC (eC (.str "lane")) (aC (eC (.int 0)) aN))) (aC (liftA dTup (aC (eC (.str "Lane")) (aC (eC (.int 0)) aN))) (aC (liftA dTup (aC (eC (.str "lane")) (aC (eC (.str "0")) aN))) (aC (eC .none) (aC (liftA dTup aN) (aC (eC (.str "out")) (aC (liftA dTup (aC (eC (.str "side")) (aC (lift2 iAdd (lift1 dLen (eV 0)) (eV 1)) aN))) aN))))))))))
  (sSeq (sAsg (bName 2) (lift2 iCat (eV 2) (liftA dLst (aC (liftA dTup (aC (eC (.int 0)) (aC (eC (.str "lane")) aN))) (aC (liftA dTup (aC (eC (.str "on")) (aC (eC (.int 0)) aN))) aN)))))
  (sRet false (lift2 iCat (eV 2) (liftA dLst (aC (liftA dTup (aC (eC (.str "lane")) (aC (lift2 iSub (lift1 dNeg (eC (.int 1))) (eV 1)) aN))) (aC (liftA dTup (aC (eC (.str "lane")) (aC (eC (.int 0)) (aC (eC (.int 0)) aN)))) (aC (liftA dTup (aC (liftA dLst (aC (eC (.str "lane")) aN)) (aC (eC (.int 0)) aN))) (aC (liftA dTup (aC (eC (.str "side")) (aC (eC (.bool false)) aN))) (aC (liftA dTup (aC (eC (.str "lane")) (aC (liftA dLst (aC (eC (.int 0)) aN)) aN))) aN)))))))))))
def P_l_bad_spots : Fn := runFn 3 2 g_l_bad_spots
def b1_l_crowded : Sf := (sIf (lift2 dLt (lift2 dIx (eV 0) (eV 3)) (lift1 dLen (eV 1))) (sRet false (lift2 iRepT (liftA dTup (aC (liftA dTup (aC (eC (.str "side")) (aC (eV 3) aN))) aN)) (lift1 dLen (eV 1)))) sNx)
def g_l_crowded : Sf := (sSeq (sFor (sRng (lift1 dLen (eV 0))) (bName 3) b1_l_crowded)
  (sRet false (lift2 iAdd (lift2 iAdd (lift3 dSl (eV 1) oN (oS (eV 2))) (liftA dTup (aC (liftA dTup (aC (eC (.str "lane")) (aC (eC (.int 9)) aN))) aN))) (lift3 dSl (eV 1) (oS (lift2 iAdd (eV 2) (eC (.int 1)))) oN))))
def P_l_crowded : Fn := runFn 4 3 g_l_crowded
def g_l_bad_stand : Sf := (sSeq (sAsg (bName 4) (lift2 iMod (lift2 iDiv (eV 3) (eC (.int 6))) (lift1 dLen (eV 2))))
  (sSeq (sAsg (bName 5) (lift2 iMod (lift2 iDiv (eV 3) (eC (.int 36))) (lift2 iPow (eC (.int 10)) (eC (.int 20)))))
  (sSeq (sIf (lift2 dLt (lift2 iMod (eV 3) (eC (.int 6))) (eC (.int 3))) (sRet false (lift2 iAdd (lift2 iAdd (lift3 dSl (eV 2) oN (oS (eV 4))) (liftA dTup (aC (lift2 dIx (eCall P_l_bad_spots false (aC (eV 0) (aC (eV 5) aN))) (lift2 iMod (eV 5) (eC (.int 20)))) aN))) (lift3 dSl (eV 2) (oS (lift2 iAdd (eV 4) (eC (.int 1)))) oN))) sNx)
  (sSeq (sIf (lift2 (dEq false) (lift2 iMod (eV 3) (eC (.int 6))) (eC (.int 3))) (sRet false (lift2 dIx (liftA dLst (aC (lift3 dSl (eV 2) (oS (eC (.int 1))) oN) (aC (lift2 iAdd (eV 2) (liftA dTup (aC (liftA dTup (aC (eC (.str "out")) aN)) aN))) (aC (liftA dTup aN) (aC (lift2 iAdd (eV 2) (eV 2)) aN))))) (lift2 iMod (eV 5) (eC (.int 4))))) sNx)
  (sSeq (sIf (lift2 (dEq false) (lift2 iMod (eV 3) (eC (.int 6))) (eC (.int 4))) (sRet false (lift2 dIx (liftA dLst (aC (lift1 dLst1 (eV 2)) (aC (eC .none) (aC (eC (.str "out")) (aC (eC (.int 5)) (aC (eC (dkD [] [])) aN)))))) (lift2 iMod (eV 5) (eC (.int 5))))) sNx)
  (sSeq (sIf (fAnd (lift2 dGt (lift1 dLen (eV 2)) (eC (.int 1))) (lift2 (dEq false) (lift2 iMod (eV 5) (eC (.int 2))) (eC (.int 0)))) (sSeq (sAsg (bName 6) (liftA dTup (aC (eC (.str "lane")) (aC (lift2 iMod (lift2 iDiv (eV 5) (eC (.int 2))) (lift1 dLen (eV 0))) aN))))
  (sRet false (lift2 iAdd (lift2 iAdd (liftA dTup (aC (eV 6) aN)) (lift3 dSl (eV 2) (oS (eC (.int 1))) (oS (lift1 dNeg (eC (.int 1)))))) (liftA dTup (aC (eV 6) aN))))) sNx)
  (sRet false (eCall P_l_crowded false (aC (eV 0) (aC (eV 2) (aC (eV 4) aN)))))))))))
def P_l_bad_stand : Fn := runFn 7 4 g_l_bad_stand
def t1_l_asked : Sf := (sIf (lift2 dLt (eV 0) (eC (.int 5))) (sCallIx [P_need_stand, P_left_to_go, P_allowed, P_reached, P_prices] (eV 0) (aC (eV 1) (aC (eV 2) (aC (eV 3) aN)))) (sIf (lift2 dLt (eV 0) (eC (.int 7))) (sCallIx [P_least_row, P_closed] (lift2 iSub (eV 0) (eC (.int 5))) (aC (eV 1) (aC (eV 2) (aC (eV 3) aN)))) (sIf (lift2 (dEq false) (eV 0) (eC (.int 7))) (sYard P_need_stand (aC (eV 1) (aC (eV 2) (aC (eV 3) aN)))) (sDrop (eCall P_behind false (aC (eV 1) (aC (eV 2) (aC (eV 3) (aC (eC .none) aN)))))))))
def k2_l_asked : Xc → Sf := fun c => (sRet true (eKind (kindD c) (eV 4)))
def g_l_asked : Sf := (sSeq (sTry 5 4 t1_l_asked k2_l_asked)
  (sRet true (liftA dLst aN)))
def P_l_asked : Fn := runFn 5 4 g_l_asked
def t1_l_alone : Sf := (sIf (lift2 (dEq false) (eV 0) (eC (.int 4))) (sDrop (eCall P_turned_stand false (aC (eV 1) (aC (liftA dTup (aC (liftA dTup (aC (eC (.str "lane")) (aC (eC (.int 0)) aN))) aN)) aN)))) (sIf (lift2 dLt (eV 0) (eC (.int 2))) (sCallIx [P_need_lane, P_turned_lane] (eV 0) (aC (eV 1) aN)) (sCallIx [P_need_ways, P_turned_ways] (lift2 iSub (eV 0) (eC (.int 2))) (aC (eV 1) aN))))
def k2_l_alone : Xc → Sf := fun c => (sRet true (eKind (kindD c) (eV 2)))
def g_l_alone : Sf := (sSeq (sTry 3 2 t1_l_alone k2_l_alone)
  (sRet true (liftA dLst aN)))
def P_l_alone : Fn := runFn 3 2 g_l_alone
def b1_law01 : Sf := (sSeq (sIf (lift2 (dEq true) (eCall P_l_alone true (aC (eV 7) (aC (lift2 dIx (eV 4) (eC (.int 0))) aN))) (lift2 dIx (liftA dLst (aC (liftA dLst aN) (aC (liftA dLst (aC (eC (.str "lane")) (aC (eC (.str "value")) aN))) aN))) (lift1 dInt (lift2 (dEq false) (eV 2) (liftA dLst (aC (eC (.str "lane")) (aC (eC (.str "value")) aN))))))) (sRet false (eC (.bool false))) sNx)
  (sIf (lift2 (dEq true) (eCall P_l_alone true (aC (lift2 iAdd (eC (.int 2)) (eV 7)) (aC (lift2 dIx (eV 4) (eC (.int 1))) aN))) (lift2 dIx (liftA dLst (aC (liftA dLst aN) (aC (liftA dLst (aC (eC (.str "ways")) (aC (eC (.str "value")) aN))) aN))) (lift1 dInt (eV 3)))) (sRet false (eC (.bool false))) sNx))
def b2_law01 : Sf := (sIf (lift2 (dEq true) (eCall P_l_asked true (aC (eC (.int 0)) (aC (eV 10) (aC (eV 11) (aC (lift2 iAdd (lift2 iAdd (lift3 dSl (eV 12) oN (oS (eV 8))) (liftA dTup (aC (eV 9) aN))) (lift3 dSl (eV 12) (oS (lift2 iAdd (eV 8) (eC (.int 1)))) oN)) aN))))) (liftA dLst (aC (eC (.str "stand")) (aC (eC (.str "value")) aN)))) (sRet false (eC (.bool false))) sNx)
def g_law01 : Sf := (sSeq (sAsg (bTup [10, 11, 12]) (eCall P_l_built false (aC (eV 0) aN)))
  (sSeq (sAsg (bName 1) (eCall P_l_cell_at false (aC (eV 0) (aC (eC (.int 16)) aN))))
  (sSeq (sAsg (bName 2) (liftA dLst aN))
  (sSeq (sIf (lift2 (dEq false) (lift2 iMod (lift2 iDiv (eV 1) (eC (.int 3))) (eC (.int 3))) (eC (.int 1))) (sSeq (sAsg (bName 12) (eCall P_l_bad_stand false (aC (eV 10) (aC (eV 11) (aC (eV 12) (aC (eCall P_l_cell_at false (aC (eV 0) (aC (eC (.int 17)) aN))) aN))))))
  (sAsg (bName 2) (liftA dLst (aC (eC (.str "stand")) (aC (eC (.str "value")) aN))))) sNx)
  (sSeq (sIf (lift2 (dEq false) (lift2 iMod (lift2 iDiv (eV 1) (eC (.int 9))) (eC (.int 3))) (eC (.int 1))) (sSeq (sAsg (bName 11) (eCall P_l_bad_ways false (aC (eV 11) (aC (eCall P_l_cell_at false (aC (eV 0) (aC (eC (.int 18)) aN))) aN))))
  (sAsg (bName 2) (liftA dLst (aC (eC (.str "ways")) (aC (eC (.str "value")) aN))))) sNx)
  (sSeq (sAsg (bName 3) (lift2 (dEq false) (eV 2) (liftA dLst (aC (eC (.str "ways")) (aC (eC (.str "value")) aN)))))
  (sSeq (sIf (lift2 (dEq false) (lift2 iMod (lift2 iDiv (eV 1) (eC (.int 27))) (eC (.int 3))) (eC (.int 1))) (sSeq (sAsg (bName 10) (eCall P_l_bad_lane false (aC (eV 10) (aC (eCall P_l_cell_at false (aC (eV 0) (aC (eC (.int 19)) aN))) aN))))
  (sAsg (bName 2) (liftA dLst (aC (eC (.str "lane")) (aC (eC (.str "value")) aN))))) sNx)
  (sSeq (sAsg (bName 4) (liftA dLst (aC (fIf (lift1 (dIs .list) (eV 10)) (lift1 dLst1 (eV 10)) (eV 10)) (aC (fIf (lift1 (dIs .list) (eV 11)) (lift1 dLst1 (eV 11)) (eV 11)) aN))))
  (sSeq (sAsg (bName 5) (lift2 iMod (lift2 iDiv (eV 1) (eC (.int 81))) (eC (.int 9))))
  (sSeq (sAsg (bName 6) (fIf (fAnd (lift2 (dEq false) (eV 2) (liftA dLst aN)) (lift2 (dEq false) (eV 5) (eC (.int 8)))) (liftA dLst (aC (eC (.str "move")) (aC (eC (.str "value")) aN))) (eV 2)))
  (sSeq (sIf (fOr (lift2 (dEq true) (eCall P_l_asked true (aC (eV 5) (aC (lift2 dIx (eV 4) (eC (.int 0))) (aC (lift2 dIx (eV 4) (eC (.int 1))) (aC (eV 12) aN))))) (eV 6)) (lift2 dNeS (eV 4) (liftA dLst (aC (eV 10) (aC (eV 11) aN))))) (sRet false (eC (.bool false))) sNx)
  (sSeq (sFor (sRng (eC (.int 2))) (bName 7) b1_law01)
  (sSeq (sIf (lift2 (dEq true) (eCall P_l_alone true (aC (eC (.int 4)) (aC (lift2 dIx (eV 4) (eC (.int 0))) aN))) (lift2 dIx (liftA dLst (aC (liftA dLst aN) (aC (liftA dLst (aC (eC (.str "lane")) (aC (eC (.str "value")) aN))) aN))) (lift1 dInt (lift2 (dEq false) (eV 2) (liftA dLst (aC (eC (.str "lane")) (aC (eC (.str "value")) aN))))))) (sRet false (eC (.bool false))) sNx)
  (sSeq (sIf (lift2 (dEq true) (eV 2) (liftA dLst aN)) (sRet false (eC (.bool true))) sNx)
  (sSeq (sAsg (bName 8) (lift2 iMod (eCall P_l_cell_at false (aC (eV 0) (aC (eC (.int 17)) aN))) (lift1 dLen (eV 12))))
  (sSeq (sFor (sLst (eCall P_l_bad_spots false (aC (eV 10) (aC (lift2 iMod (eCall P_l_cell_at false (aC (eV 0) (aC (eC (.int 18)) aN))) (lift2 iPow (eC (.int 10)) (eC (.int 20)))) aN)))) (bName 9) b2_law01)
  (sRet false (fAnd (lift2 (dIsB false) (eCall P_need_lane false (aC (eV 10) aN)) (eC (.bool true))) (fAnd (lift2 (dIsB false) (eCall P_need_ways false (aC (eV 11) aN)) (eC (.bool true))) (lift2 (dIsB false) (eCall P_need_stand false (aC (eV 10) (aC (eV 11) (aC (eV 12) aN)))) (eC (.bool true))))))))))))))))))))))
def P_law01 : Fn := runFn 13 1 g_law01
def g_l_whole : Sf := (sRet false (fAnd (lift1 (dIs .int) (eV 0)) (fNot (lift1 (dIs .bool) (eV 0)))))
def P_l_whole : Fn := runFn 1 1 g_l_whole
def g_l_on : Sf := (sSeq (sAsg (bName 3) (lift2 iAdd (eV 2) (lift2 dIx (liftA dLst (aC (lift1 dNeg (eC (.int 1))) (aC (eC (.int 1)) aN))) (lift1 dInt (lift2 (dEq false) (eV 1) (eC (.str "right")))))))
  (sSeq (sIf (lift2 dInR (eV 3) (lift1 dLen (eV 0))) (sRet false (liftA dTup (aC (eC (.str "lane")) (aC (eV 3) aN)))) sNx)
  (sRet false (liftA dTup (aC (eC (.str "out")) aN)))))
def P_l_on : Fn := runFn 4 3 g_l_on
def c1_l_moves : Ef := (eLC (sTup (eV 2)) (bName 10) (lift2 (dEq false) (eV 10) (eV 7)) (eV 10) [10])
def b2_l_moves : Sf := (sApp 3 (liftA dTup (aC (liftA dTup (aC (eV 8) (aC (eV 4) aN))) (aC (lift2 iAdd (lift2 iAdd (lift3 dSl (eV 2) oN (oS (eV 4))) (liftA dTup (aC (eV 9) aN))) (lift3 dSl (eV 2) (oS (lift2 iAdd (eV 4) (eC (.int 1)))) oN)) aN))))
def b3_l_moves : Sf := (sSeq (sIf (lift2 (dEq false) (lift2 dIx (lift2 dIx (eV 2) (eV 4)) (eC (.int 0))) (eC (.str "out"))) sCt sNx)
  (sSeq (sAsg (bName 5) (eCall P_l_on false (aC (eV 0) (aC (lift2 dIx (eV 1) (eV 4)) (aC (lift2 dIx (lift2 dIx (eV 2) (eV 4)) (eC (.int 1))) aN)))))
  (sSeq (sOwn 6 (liftA dLst aN))
  (sSeq (sIf (fOr (lift2 (dIn true) (eV 5) (eV 2)) (lift2 (dEq false) (lift2 dIx (eV 5) (eC (.int 0))) (eC (.str "out")))) (sApp 6 (liftA dTup (aC (lift1 (dPick "lane" "go" "side" "on") (lift2 dIx (lift2 dIx (eV 2) (eV 4)) (eC (.int 0)))) (aC (eV 5) aN)))) sNx)
  (sSeq (sAsg (bName 7) (liftA dTup (aC (eC (.str "side")) (aC (lift2 dIx (lift2 dIx (eV 2) (eV 4)) (eC (.int 1))) aN))))
  (sSeq (sIf (fAnd (lift2 (dEq false) (lift2 dIx (lift2 dIx (eV 2) (eV 4)) (eC (.int 0))) (eC (.str "lane"))) (lift2 dLt (lift1 dLen c1_l_moves) (lift2 dIx (eV 0) (lift2 dIx (eV 7) (eC (.int 1)))))) (sApp 6 (liftA dTup (aC (eC (.str "aside")) (aC (eV 7) aN)))) sNx)
  (sFrz 6 (sFor (sLst (eV 6)) (bTup [8, 9]) b2_l_moves))))))))
def g_l_moves : Sf := (sSeq (sOwn 3 (liftA dLst aN))
  (sSeq (sFor (sRng (lift1 dLen (eV 2))) (bName 4) b3_l_moves)
  (sRetV 3)))
def P_l_moves : Fn := runFn 11 3 g_l_moves
def t1_l_refused : Sf := (sDrop (eCall P_behind false (aC (eV 0) (aC (eV 1) (aC (eV 2) (aC (eV 3) aN))))))
def k2_l_refused : Xc → Sf := fun c => (sRet false (lift2 (dEq false) (eKind (kindD c) (eV 4)) (liftA dLst (aC (eC (.str "move")) (aC (eC (.str "value")) aN)))))
def g_l_refused : Sf := (sSeq (sTry 5 4 t1_l_refused k2_l_refused)
  (sRet false (eC (.bool false))))
def P_l_refused : Fn := runFn 5 4 g_l_refused
def c1_l_are_moves : Ef := (eLC (sLst (eV 0)) (bName 2) tYesE (fAnd (lift1 (dIs .tuple) (eV 2)) (fAnd (lift1 (dIs .str) (lift2 dIx (eV 2) (eC (.int 0)))) (eCall P_l_whole false (aC (lift2 dIx (eV 2) (eC (.int 1))) aN)))) [2])
def g_l_are_moves : Sf := (sSeq (sIf (fOr (fNot (lift1 (dIs .list) (eV 0))) (lift2 (dEq true) (eV 0) (eV 1))) (sRet false (eC (.bool false))) sNx)
  (sRet false (lift1 dAll c1_l_are_moves)))
def P_l_are_moves : Fn := runFn 3 2 g_l_are_moves
def g_l_odd : Sf := (sSeq (sAsg (bName 2) (lift2 iAdd (eV 1) (lift2 iMod (lift2 iDiv (eV 0) (eC (.int 20))) (lift2 iPow (eC (.int 10)) (eC (.int 20))))))
  (sSeq (sAsg (bName 3) (liftA dLst (aC (liftA dTup (aC (eC (.str "go")) (aC (eV 1) aN))) (aC (liftA dTup (aC (eC (.str "aside")) (aC (lift1 dNeg (eC (.int 1))) aN))) (aC (liftA dTup (aC (eC (.str "on")) (aC (eV 2) aN))) (aC (liftA dTup (aC (eC (.str "go")) (aC (eC (.bool true)) aN))) (aC (liftA dTup (aC (eC (.str "on")) (aC (eC (.bool false)) aN))) (aC (liftA dTup (aC (eC (.str "go")) (aC (eC .none) aN))) (aC (liftA dTup (aC (eC (.str "go")) (aC (eC (.str "0")) aN))) aN)))))))))
  (sSeq (sAsg (bName 3) (lift2 iCat (eV 3) (liftA dLst (aC (liftA dTup (aC (eC (.str "go")) aN)) (aC (liftA dTup (aC (eC (.str "go")) (aC (eC (.int 0)) (aC (eC (.int 0)) aN)))) (aC (liftA dLst (aC (eC (.str "go")) (aC (eC (.int 0)) aN))) (aC (liftA dTup (aC (eC (.str "Go")) (aC (eC (.int 0)) aN))) (aC (liftA dTup (aC (eC (.str "back")) (aC (eC (.int 0)) aN))) (aC (eC .none) (aC (eC (.str "go")) (aC (eC (.int 0)) (aC (liftA dTup aN) (aC (liftA dTup (aC (eC (.str "out")) (aC (eC (.int 0)) aN))) aN)))))))))))))
  (sSeq (sAsg (bName 3) (lift2 iCat (eV 3) (liftA dLst (aC (liftA dTup (aC (liftA dLst (aC (eC (.str "go")) aN)) (aC (eC (.int 0)) aN))) (aC (liftA dTup (aC (eC (.int 0)) (aC (eC (.str "go")) aN))) aN)))))
  (sRet false (lift2 dIx (lift2 iCat (eV 3) (liftA dLst (aC (liftA dTup (aC (eC (.str "aside")) (aC (liftA dLst (aC (eC (.int 0)) aN)) aN))) aN))) (lift2 iMod (eV 0) (eC (.int 20)))))))))
def P_l_odd : Fn := runFn 4 2 g_l_odd
def c1_law02 : Ef := (eLC (sLst (eV 1)) (bTup [10, 11]) tYesE (eV 10) [10, 11])
def c2_law02 : Ef := (eLC (sTup (eV 12)) (bName 14) tYesE (lift1 (dIs .tuple) (eV 14)) [14])
def b3_law02 : Sf := (sSeq (sAsg (bName 12) (eCall P_behind false (aC (lift2 dIx (eV 3) (eC (.int 0))) (aC (lift2 dIx (eV 3) (eC (.int 1))) (aC (eV 9) (aC (eV 10) aN))))))
  (sIf (fOr (fNot (lift1 (dIs .tuple) (eV 12))) (fOr (lift2 (dEq true) (eV 12) (eV 11)) (fNot (lift1 dAll c2_law02)))) (sRet false (eC (.bool false))) sNx))
def b4_law02 : Sf := (sIf (fAnd (lift2 (dIn true) (liftA dTup (aC (eV 5) (aC (eV 13) aN))) (rV 2)) (fNot (eCall P_l_refused false (aC (lift2 dIx (eV 3) (eC (.int 0))) (aC (lift2 dIx (eV 3) (eC (.int 1))) (aC (eV 9) (aC (liftA dTup (aC (eV 5) (aC (eV 13) aN))) aN))))))) (sRet false (eC (.bool false))) sNx)
def b5_law02 : Sf := (sFor (sRng (lift1 dLen (eV 8))) (bName 13) b4_law02)
def g_law02 : Sf := (sSeq (sAsg (bTup [7, 8, 9]) (eCall P_l_built false (aC (eV 0) aN)))
  (sSeq (sAsg (bName 1) (noD (eCall P_l_moves true (aC (eV 7) (aC (eV 8) (aC (eV 9) aN))))))
  (sSeq (sOwn 2 c1_law02)
  (sSeq (sAsg (bName 3) (liftA dLst (aC (lift1 dLst1 (eV 7)) (aC (lift1 dLst1 (eV 8)) aN))))
  (sSeq (sOwn 4 (eCall P_allowed true (aC (lift2 dIx (eV 3) (eC (.int 0))) (aC (lift2 dIx (eV 3) (eC (.int 1))) (aC (eV 9) aN)))))
  (sSeq (sIf (fOr (fNot (eCallR P_l_are_moves (aC (noD (rV 4)) (aC (noD (rV 2)) aN)))) (lift2 (dEq true) (eV 3) (liftA dLst (aC (eV 7) (aC (eV 8) aN))))) (sRet false (eC (.bool false))) sNx)
  (sSeq (sApp 4 (liftA dTup (aC (eC (.str "go")) (aC (eC (.int 0)) aN))))
  (sSeq (sFor (sLst (eV 1)) (bTup [10, 11]) b3_law02)
  (sSeq (sFor (sTup (liftA dTup (aC (eC (.str "go")) (aC (eC (.str "aside")) (aC (eC (.str "on")) aN))))) (bName 5) b5_law02)
  (sSeq (sIf (fNot (eCall P_l_refused false (aC (lift2 dIx (eV 3) (eC (.int 0))) (aC (lift2 dIx (eV 3) (eC (.int 1))) (aC (eV 9) (aC (eCall P_l_odd false (aC (eCall P_l_cell_at false (aC (eV 0) (aC (eC (.int 16)) aN))) (aC (lift1 dLen (eV 8)) aN))) aN)))))) (sRet false (eC (.bool false))) sNx)
  (sSeq (sAsg (bName 6) (noD (eCall P_allowed true (aC (lift2 dIx (eV 3) (eC (.int 0))) (aC (lift2 dIx (eV 3) (eC (.int 1))) (aC (eV 9) aN))))))
  (sRet false (fAnd (eCallR P_l_are_moves (aC (eV 6) (aC (noD (rV 2)) aN))) (fAnd (lift2 (dEq false) (lift1 dLen (rV 4)) (lift2 iAdd (lift1 dLen (rV 2)) (eC (.int 1)))) (lift2 (dEq false) (eV 3) (liftA dLst (aC (eV 7) (aC (eV 8) aN))))))))))))))))))
def P_law02 : Fn := runFn 15 1 g_law02
def b1_l_left : Sf := (sIf (lift2 (dEq true) (lift2 dIx (lift2 dIx (eV 2) (eV 4)) (eC (.int 0))) (eC (.str "out"))) (sAsg (bName 3) (lift2 iAdd (eV 3) (lift2 dIx (liftA dLst (aC (lift2 iAdd (lift2 dIx (lift2 dIx (eV 2) (eV 4)) (eC (.int 1))) (eC (.int 1))) (aC (lift2 iSub (lift1 dLen (eV 0)) (lift2 dIx (lift2 dIx (eV 2) (eV 4)) (eC (.int 1)))) aN))) (lift1 dInt (lift2 (dEq false) (lift2 dIx (eV 1) (eV 4)) (eC (.str "right"))))))) sNx)
def g_l_left : Sf := (sSeq (sAsg (bName 3) (eC (.int 0)))
  (sSeq (sFor (sRng (lift1 dLen (eV 2))) (bName 4) b1_l_left)
  (sRet false (eV 3))))
def P_l_left : Fn := runFn 5 3 g_l_left
def b1_l_stuck : Sf := (sSeq (sIf (lift2 (dEq false) (lift2 dIx (lift2 dIx (eV 2) (eV 3)) (eC (.int 0))) (eC (.str "out"))) sCt sNx)
  (sSeq (sAsg (bName 4) (lift2 iAdd (lift2 dIx (lift2 dIx (eV 2) (eV 3)) (eC (.int 1))) (lift2 dIx (liftA dLst (aC (lift1 dNeg (eC (.int 1))) (aC (eC (.int 1)) aN))) (lift1 dInt (lift2 (dEq false) (lift2 dIx (eV 1) (eV 3)) (eC (.str "right")))))))
  (sSeq (sIf (lift2 (dIn true) (liftA dTup (aC (eC (.str "lane")) (aC (eV 4) aN))) (eV 2)) (sRet false (eC (.bool false))) sNx)
  (sIf (fAnd (lift2 (dEq false) (lift2 dIx (lift2 dIx (eV 2) (eV 3)) (eC (.int 0))) (eC (.str "lane"))) (lift2 dLt (liftM okTup dCnt (eV 2) (liftA dTup (aC (eC (.str "side")) (aC (lift2 dIx (lift2 dIx (eV 2) (eV 3)) (eC (.int 1))) aN)))) (lift2 dIx (eV 0) (lift2 dIx (lift2 dIx (eV 2) (eV 3)) (eC (.int 1)))))) (sRet false (eC (.bool false))) sNx))))
def g_l_stuck : Sf := (sSeq (sFor (sRng (lift1 dLen (eV 2))) (bName 3) b1_l_stuck)
  (sRet false (eC (.bool true))))
def P_l_stuck : Fn := runFn 5 3 g_l_stuck
def b1_law03 : Sf := (sSeq (sAsg (bName 9) (lift2 dIx (eV 5) (lift2 iMod (lift2 iAdd (eCall P_l_cell_at false (aC (eV 0) (aC (lift2 iAdd (eC (.int 16)) (lift2 iMod (eV 4) (eC (.int 9)))) aN))) (lift2 iMul (eC (.int 3)) (eV 4))) (lift1 dLen (eV 5)))))
  (sSeq (sAsg (bName 8) (eCall P_behind false (aC (eV 6) (aC (eV 7) (aC (eV 8) (aC (eV 9) aN))))))
  (sSeq (sAsg (bName 4) (lift2 iAdd (eV 4) (eC (.int 1))))
  (sSeq (sAsg (bName 1) (lift2 iSub (eV 1) (lift1 dInt (lift2 (dEq true) (lift2 dIx (eV 9) (eC (.int 0))) (eC (.str "aside"))))))
  (sSeq (sAsg (bName 3) (lift2 iAdd (eV 3) (lift1 dInt (lift2 (dEq false) (lift2 dIx (eV 9) (eC (.int 0))) (eC (.str "aside"))))))
  (sSeq (sIf (fOr (lift2 (dEq true) (eCall P_left_to_go false (aC (eV 6) (aC (eV 7) (aC (eV 8) aN)))) (eV 1)) (lift2 (dEq true) (eCall P_l_left false (aC (eV 6) (aC (eV 7) (aC (eV 8) aN)))) (eV 1))) (sRet false (eC (.bool false))) sNx)
  (sAsg (bName 5) (noD (eCall P_allowed true (aC (eV 6) (aC (eV 7) (aC (eV 8) aN))))))))))))
def w2_law03 : Ef := (fAnd (lift2 (dEq true) (eV 5) (liftA dLst aN)) (lift2 dLt (eV 4) (eC (.int 200))))
def g_law03 : Sf := (sSeq (sAsg (bTup [6, 7, 8]) (eCall P_l_built false (aC (eV 0) aN)))
  (sSeq (sAsg (bName 1) (eCall P_l_left false (aC (eV 6) (aC (eV 7) (aC (eV 8) aN)))))
  (sSeq (sAsg (bName 2) (eV 1))
  (sSeq (sAsg (bName 3) (eC (.int 0)))
  (sSeq (sAsg (bName 4) (eC (.int 0)))
  (sSeq (sIf (fOr (fNot (eCall P_l_whole false (aC (eCall P_left_to_go false (aC (eV 6) (aC (eV 7) (aC (eV 8) aN)))) aN))) (lift2 (dEq true) (eCall P_left_to_go false (aC (eV 6) (aC (eV 7) (aC (eV 8) aN)))) (eV 1))) (sRet false (eC (.bool false))) sNx)
  (sSeq (sAsg (bName 5) (noD (eCall P_allowed true (aC (eV 6) (aC (eV 7) (aC (eV 8) aN))))))
  (sSeq (sWhile w2_law03 b1_law03 1000)
  (sRet false (fAnd (lift2 (dEq false) (eV 4) (lift2 iAdd (lift2 iSub (eV 2) (eV 1)) (eV 3))) (fAnd (lift2 (dEq false) (eV 5) (liftA dLst aN)) (eCall P_l_stuck false (aC (eV 6) (aC (eV 7) (aC (eV 8) aN)))))))))))))))
def P_law03 : Fn := runFn 10 1 g_law03
def c1_l_come_to : Ef := (eLC (sLst (eCall P_l_moves true (aC (eV 0) (aC (eV 1) (aC (eV 5) aN))))) (bTup [6, 7]) tYesE (eV 7) [6, 7])
def b2_l_come_to : Sf := (sSeq (sPop 5 4)
  (sIf (lift2 (dIn true) (eV 5) (rV 3)) (sSeq (sPut 3 (eV 5) (eC (.bool true)))
  (sOwn 4 (lift2 iCat (rV 4) c1_l_come_to))) sNx))
def w3_l_come_to : Ef := (lift2 (dEq true) (rV 4) (liftA dLst aN))
def g_l_come_to : Sf := (sSeq (sOwn 3 (eC (.dict [])))
  (sSeq (sOwn 4 (liftA dLst (aC (eV 2) aN)))
  (sSeq (sWhile w3_l_come_to b2_l_come_to 10000000)
  (sRetV 3))))
def P_l_come_to : Fn := runFn 8 3 g_l_come_to
def c1_l_right : Ef := (eLC (sLst (eV 0)) (bName 2) tYesE (lift1 (dIs .tuple) (eV 2)) [2])
def g_l_right : Sf := (sSeq (sIf (fOr (fNot (lift1 (dIs .list) (eV 0))) (fNot (lift1 dAll c1_l_right))) (sRet false (eC (.bool false))) sNx)
  (sRet false (fAnd (lift2 (dEq false) (lift1 dLen (eV 0)) (lift1 dLen (eV 1))) (lift2 (dEq false) (lift1 dSort (eV 0)) (lift1 dSort (eV 1))))))
def P_l_right : Fn := runFn 3 2 g_l_right
def g_law04 : Sf := (sSeq (sAsg (bTup [6, 7, 8]) (eCall P_l_built false (aC (eV 0) aN)))
  (sSeq (sOwn 1 (eCall P_l_come_to true (aC (eV 6) (aC (eV 7) (aC (eV 8) aN)))))
  (sSeq (sAsg (bName 2) (liftA dLst (aC (lift1 dLst1 (eV 6)) (aC (lift1 dLst1 (eV 7)) aN))))
  (sSeq (sOwn 3 (eCall P_reached true (aC (lift2 dIx (eV 2) (eC (.int 0))) (aC (lift2 dIx (eV 2) (eC (.int 1))) (aC (eV 8) aN)))))
  (sFrz 1 (sSeq (sIf (fOr (fNot (eCallR P_l_right (aC (noD (rV 3)) (aC (eV 1) aN)))) (lift2 (dEq true) (eV 2) (liftA dLst (aC (eV 6) (aC (eV 7) aN))))) (sRet false (eC (.bool false))) sNx)
  (sSeq (sAsg (bName 4) (lift1 dLst1 (rV 3)))
  (sSeq (sApp 3 (liftA dTup aN))
  (sSeq (sAsg (bName 5) (noD (eCall P_reached true (aC (lift2 dIx (eV 2) (eC (.int 0))) (aC (lift2 dIx (eV 2) (eC (.int 1))) (aC (eV 8) aN))))))
  (sRet false (fAnd (eCall P_l_right false (aC (eV 5) (aC (eV 1) aN))) (fAnd (lift2 (dEq false) (rV 3) (lift2 iCat (eV 4) (liftA dLst (aC (liftA dTup aN) aN)))) (lift2 (dEq false) (eV 2) (liftA dLst (aC (eV 6) (aC (eV 7) aN))))))))))))))))
def P_law04 : Fn := runFn 9 1 g_law04
def b1_l_are_pairs : Sf := (sSeq (sIf (fOr (fNot (lift1 (dIs .tuple) (eV 1))) (fOr (lift2 (dEq true) (lift1 dLen (eV 1)) (eC (.int 2))) (fNot (lift1 (dIs .tuple) (lift2 dIx (eV 1) (eC (.int 0))))))) (sRet false (eC (.bool false))) sNx)
  (sIf (fAnd (lift2 (dIsN true) (lift2 dIx (eV 1) (eC (.int 1))) (eC .none)) (fNot (eCall P_l_whole false (aC (lift2 dIx (eV 1) (eC (.int 1))) aN)))) (sRet false (eC (.bool false))) sNx))
def g_l_are_pairs : Sf := (sSeq (sIf (fNot (lift1 (dIs .list) (eV 0))) (sRet false (eC (.bool false))) sNx)
  (sSeq (sFor (sLst (eV 0)) (bName 1) b1_l_are_pairs)
  (sRet false (lift2 (dEq false) (lift1 dLen (lift1 dDict (eV 0))) (lift1 dLen (eV 0))))))
def P_l_are_pairs : Fn := runFn 2 1 g_l_are_pairs
def c1_l_walked : Ef := (eLC (sTup (eV 3)) (bName 7) (lift2 (dEq true) (lift2 dIx (eV 7) (eC (.int 0))) (eC (.str "out"))) (eV 7) [7])
def c2_l_walked : Ef := (eLC (sLst (eCall P_l_moves true (aC (eV 0) (aC (eV 1) (aC (eV 3) aN))))) (bTup [8, 6]) tYesE (eV 6) [8, 6])
def c3_l_walked : Ef := (eLC (sLst (rV 4)) (bName 6) (lift2 (dIn true) (eV 6) (eV 2)) (eV 6) [6])
def c4_l_walked : Ef := (eLC (sLst (rV 4)) (bName 6) (lift2 (dIsN true) (lift2 dIx (eV 2) (eV 6)) (eC .none)) (lift2 dIx (eV 2) (eV 6)) [6])
def b5_l_walked : Sf := (sSeq (sIf (lift2 (dEq false) c1_l_walked (liftA dLst aN)) (sSeq (sIf (lift2 (dEq true) (lift2 dIx (eV 2) (eV 3)) (eC (.int 0))) (sRet false (eC (.bool false))) sNx)
  sCt) sNx)
  (sSeq (sOwn 4 c2_l_walked)
  (sSeq (sIf (lift2 (dEq true) c3_l_walked (liftA dLst aN)) (sRet false (eC (.bool false))) sNx)
  (sSeq (sOwn 5 c4_l_walked)
  (sIf (fOr (fAnd (lift2 (dEq false) (rV 5) (liftA dLst aN)) (lift2 (dIsN true) (lift2 dIx (eV 2) (eV 3)) (eC .none))) (fAnd (lift2 (dEq true) (rV 5) (liftA dLst aN)) (lift2 (dEq true) (lift2 dIx (eV 2) (eV 3)) (lift2 iAdd (lift1 dMin (rV 5)) (eC (.int 1)))))) (sRet false (eC (.bool false))) sNx)))))
def g_l_walked : Sf := (sSeq (sFor (sDic (eV 2)) (bName 3) b5_l_walked)
  (sRet false (eC (.bool true))))
def P_l_walked : Fn := runFn 9 3 g_l_walked
def g_law05 : Sf := (sSeq (sAsg (bTup [5, 6, 7]) (eCall P_l_built false (aC (eV 0) aN)))
  (sSeq (sAsg (bName 1) (liftA dLst (aC (lift1 dLst1 (eV 5)) (aC (lift1 dLst1 (eV 6)) aN))))
  (sSeq (sOwn 2 (eCall P_prices true (aC (lift2 dIx (eV 1) (eC (.int 0))) (aC (lift2 dIx (eV 1) (eC (.int 1))) (aC (eV 7) aN)))))
  (sSeq (sIf (fOr (fNot (eCallR P_l_are_pairs (aC (noD (rV 2)) aN))) (lift2 (dEq true) (eV 1) (liftA dLst (aC (eV 5) (aC (eV 6) aN))))) (sRet false (eC (.bool false))) sNx)
  (sSeq (sOwn 3 (lift1 dDict (rV 2)))
  (sFrz 3 (sSeq (sIf (fOr (lift2 (dIn true) (eV 7) (eV 3)) (fNot (eCall P_l_walked false (aC (eV 5) (aC (eV 6) (aC (eV 3) aN)))))) (sRet false (eC (.bool false))) sNx)
  (sSeq (sClr 2)
  (sSeq (sAsg (bName 4) (noD (eCall P_prices true (aC (lift2 dIx (eV 1) (eC (.int 0))) (aC (lift2 dIx (eV 1) (eC (.int 1))) (aC (eV 7) aN))))))
  (sRet false (fAnd (eCall P_l_are_pairs false (aC (eV 4) aN)) (fAnd (lift2 dEqK (lift1 dDict (eV 4)) (eV 3)) (fAnd (lift2 (dEq false) (rV 2) (liftA dLst aN)) (lift2 (dEq false) (eV 1) (liftA dLst (aC (eV 5) (aC (eV 6) aN)))))))))))))))))
def P_law05 : Fn := runFn 8 1 g_law05
def b1_l_is_row : Sf := (sSeq (sIf (fOr (fNot (lift1 (dIs .tuple) (eV 7))) (fOr (lift2 (dEq true) (lift1 dLen (eV 7)) (eC (.int 2))) (lift1 (dIs .bool) (lift2 dIx (eV 7) (eC (.int 1)))))) (sRet false (eC (.bool false))) sNx)
  (sSeq (sOwn 8 (lift1 dDict (eCall P_l_moves true (aC (eV 0) (aC (eV 1) (aC (eV 6) aN))))))
  (sSeq (sIf (lift2 (dIn true) (eV 7) (rV 8)) (sRet false (eC (.bool false))) sNx)
  (sSeq (sAsg (bName 6) (lift2 dIx (rV 8) (eV 7)))
  (sAsg (bName 5) (lift2 iAdd (eV 5) (lift1 dInt (lift2 (dEq false) (lift2 dIx (eV 7) (eC (.int 0))) (eC (.str "aside"))))))))))
def c2_l_is_row : Ef := (eLC (sTup (eV 6)) (bName 9) (lift2 (dEq true) (lift2 dIx (eV 9) (eC (.int 0))) (eC (.str "out"))) (eV 9) [9])
def g_l_is_row : Sf := (sSeq (sIf (fOr (fNot (lift1 (dIs .list) (eV 3))) (lift2 (dEq true) (lift1 dLen (eV 3)) (eV 4))) (sRet false (eC (.bool false))) sNx)
  (sSeq (sAsg (bName 5) (eC (.int 0)))
  (sSeq (sAsg (bName 6) (eV 2))
  (sSeq (sFor (sLst (eV 3)) (bName 7) b1_l_is_row)
  (sSeq (sIf (lift2 (dEq true) c2_l_is_row (liftA dLst aN)) (sRet false (eC (.bool false))) sNx)
  (sRet false (lift2 (dEq false) (eV 4) (lift2 iAdd (eCall P_l_left false (aC (eV 0) (aC (eV 1) (aC (eV 2) aN)))) (eV 5)))))))))
def P_l_is_row : Fn := runFn 10 5 g_l_is_row
def g_law06 : Sf := (sSeq (sAsg (bTup [6, 7, 8]) (eCall P_l_built false (aC (eV 0) aN)))
  (sSeq (sAsg (bName 1) (liftA dLst (aC (lift1 dLst1 (eV 6)) (aC (lift1 dLst1 (eV 7)) aN))))
  (sSeq (sAsg (bName 2) (lift2 dIx (lift1 dDict (eCall P_prices true (aC (eV 6) (aC (eV 7) (aC (eV 8) aN))))) (eV 8)))
  (sSeq (sAsgM 3 P_least_row (aC (lift2 dIx (eV 1) (eC (.int 0))) (aC (lift2 dIx (eV 1) (eC (.int 1))) (aC (eV 8) aN))))
  (sSeq (sIf (fOr (lift2 (dEq true) (eV 1) (liftA dLst (aC (eV 6) (aC (eV 7) aN)))) (lift2 (dIsN false) (eV 2) (eC .none))) (sRet false (fAnd (lift2 (dIsN false) (eV 2) (eC .none)) (fAnd (lift2 (dIsN false) (rV 3) (eC .none)) (lift2 (dEq false) (eV 1) (liftA dLst (aC (eV 6) (aC (eV 7) aN))))))) sNx)
  (sSeq (sIf (fNot (eCallR P_l_is_row (aC (eV 6) (aC (eV 7) (aC (eV 8) (aC (noD (rV 3)) (aC (eV 2) aN))))))) (sRet false (eC (.bool false))) sNx)
  (sSeq (sAsg (bName 4) (lift1 dLst1 (rV 3)))
  (sSeq (sApp 3 (liftA dTup (aC (eC (.str "go")) (aC (eC (.int 0)) aN))))
  (sSeq (sAsgM 5 P_least_row (aC (lift2 dIx (eV 1) (eC (.int 0))) (aC (lift2 dIx (eV 1) (eC (.int 1))) (aC (eV 8) aN))))
  (sRet false (fAnd (eCallR P_l_is_row (aC (eV 6) (aC (eV 7) (aC (eV 8) (aC (noD (rV 5)) (aC (eV 2) aN)))))) (fAnd (lift2 (dEq false) (rV 3) (lift2 iCat (eV 4) (liftA dLst (aC (liftA dTup (aC (eC (.str "go")) (aC (eC (.int 0)) aN))) aN)))) (lift2 (dEq false) (eV 1) (liftA dLst (aC (eV 6) (aC (eV 7) aN))))))))))))))))
def P_law06 : Fn := runFn 9 1 g_law06
def b1_l_is_through : Sf := (sSeq (sOwn 6 (lift1 dDict (eCall P_l_moves true (aC (eV 0) (aC (eV 1) (aC (eV 4) aN))))))
  (sSeq (sIf (lift2 (dIn true) (eV 5) (rV 6)) (sRet false (eC (.bool false))) sNx)
  (sAsg (bName 4) (lift2 dIx (rV 6) (eV 5)))))
def c2_l_is_through : Ef := (eLC (sTup (eV 4)) (bName 7) (lift2 (dEq true) (lift2 dIx (eV 7) (eC (.int 0))) (eC (.str "out"))) (eV 7) [7])
def g_l_is_through : Sf := (sSeq (sIf (fNot (lift1 (dIs .list) (eV 3))) (sRet false (eC (.bool false))) sNx)
  (sSeq (sAsg (bName 4) (eV 2))
  (sSeq (sFor (sLst (eV 3)) (bName 5) b1_l_is_through)
  (sRet false (lift2 (dEq false) c2_l_is_through (liftA dLst aN))))))
def P_l_is_through : Fn := runFn 8 4 g_l_is_through
def c1_l_is_closed : Ef := (eLC (sLst (eV 3)) (bName 8) tYesE (lift1 (dIs .tuple) (eV 8)) [8])
def c2_l_is_closed : Ef := (eLC (sLst (eV 3)) (bName 8) tYesE (liftA dTup (aC (eV 8) (aC (eC (.bool true)) aN))) [8])
def c3_l_is_closed : Ef := (eLC (sTup (eV 5)) (bName 9) (lift2 (dEq true) (lift2 dIx (eV 9) (eC (.int 0))) (eC (.str "out"))) (eV 9) [9])
def b4_l_is_closed : Sf := (sIf (lift2 (dIn true) (eV 7) (eV 4)) (sRet false (eC (.bool false))) sNx)
def b5_l_is_closed : Sf := (sSeq (sIf (lift2 (dEq false) c3_l_is_closed (liftA dLst aN)) (sRet false (eC (.bool false))) sNx)
  (sFor (sLst (noD (eCall P_l_moves true (aC (eV 0) (aC (eV 1) (aC (eV 5) aN)))))) (bTup [6, 7]) b4_l_is_closed))
def g_l_is_closed : Sf := (sSeq (sIf (fOr (fNot (lift1 (dIs .list) (eV 3))) (fNot (lift1 dAll c1_l_is_closed))) (sRet false (eC (.bool false))) sNx)
  (sSeq (sOwn 4 (lift1 dDict c2_l_is_closed))
  (sSeq (sIf (lift2 (dIn true) (eV 2) (rV 4)) (sRet false (eC (.bool false))) sNx)
  (sFrz 4 (sSeq (sFor (sDic (eV 4)) (bName 5) b5_l_is_closed)
  (sRet false (eC (.bool true))))))))
def P_l_is_closed : Fn := runFn 10 4 g_l_is_closed
def b1_l_further : Sf := (sSeq (sAsg (bName 5) (noD (eCall P_l_moves true (aC (eV 1) (aC (eV 2) (aC (eV 3) aN))))))
  (sIf (lift2 (dEq true) (eV 5) (liftA dLst aN)) (sAsg (bName 3) (lift2 dIx (lift2 dIx (eV 5) (lift2 iMod (lift2 iAdd (eCall P_l_cell_at false (aC (eV 0) (aC (lift2 iAdd (eC (.int 17)) (lift2 iMod (eV 4) (eC (.int 4)))) aN))) (lift2 iMul (eC (.int 5)) (eV 4))) (lift1 dLen (eV 5)))) (eC (.int 1)))) sNx))
def g_l_further : Sf := (sSeq (sFor (sRng (lift2 iMod (eCall P_l_cell_at false (aC (eV 0) (aC (eC (.int 16)) aN))) (eC (.int 5)))) (bName 4) b1_l_further)
  (sRet false (eV 3)))
def P_l_further : Fn := runFn 6 4 g_l_further
def g_law07 : Sf := (sSeq (sAsg (bTup [6, 7, 1]) (eCall P_l_built false (aC (eV 0) aN)))
  (sSeq (sAsg (bName 1) (eCall P_l_further false (aC (eV 0) (aC (eV 6) (aC (eV 7) (aC (eV 1) aN))))))
  (sSeq (sAsg (bName 2) (liftA dLst (aC (lift1 dLst1 (eV 6)) (aC (lift1 dLst1 (eV 7)) aN))))
  (sSeq (sAsgM 3 P_least_row (aC (lift2 dIx (eV 2) (eC (.int 0))) (aC (lift2 dIx (eV 2) (eC (.int 1))) (aC (eV 1) aN))))
  (sSeq (sAsgM 4 P_closed (aC (lift2 dIx (eV 2) (eC (.int 0))) (aC (lift2 dIx (eV 2) (eC (.int 1))) (aC (eV 1) aN))))
  (sSeq (sIf (fOr (lift2 (dEq false) (lift2 (dIsN false) (rV 3) (eC .none)) (lift2 (dIsN false) (rV 4) (eC .none))) (lift2 (dEq true) (eV 2) (liftA dLst (aC (eV 6) (aC (eV 7) aN))))) (sRet false (eC (.bool false))) sNx)
  (sSeq (sIf (lift2 (dIsN true) (rV 3) (eC .none)) (sRet false (eCallR P_l_is_through (aC (eV 6) (aC (eV 7) (aC (eV 1) (aC (noD (rV 3)) aN)))))) sNx)
  (sSeq (sIf (fNot (eCallR P_l_is_closed (aC (eV 6) (aC (eV 7) (aC (eV 1) (aC (noD (rV 4)) aN)))))) (sRet false (eC (.bool false))) sNx)
  (sSeq (sClr 4)
  (sSeq (sAsgM 5 P_closed (aC (lift2 dIx (eV 2) (eC (.int 0))) (aC (lift2 dIx (eV 2) (eC (.int 1))) (aC (eV 1) aN))))
  (sRet false (fAnd (eCallR P_l_is_closed (aC (eV 6) (aC (eV 7) (aC (eV 1) (aC (noD (rV 5)) aN))))) (lift2 (dEq false) (rV 4) (liftA dLst aN))))))))))))))
def P_law07 : Fn := runFn 8 1 g_law07
def c1_l_turned : Ef := (eLC (sTup (lift3 dSl (eV 2) (oS (eC (.int 1))) oN)) (bName 3) tYesE (lift2 iSub (lift2 iSub (lift1 dLen (eV 0)) (eC (.int 1))) (eV 3)) [3])
def c2_l_turned : Ef := (eLC (sTup (eV 1)) (bName 2) tYesE (lift2 iAdd (lift3 dSl (eV 2) oN (oS (eC (.int 1)))) (lift1 dTup1 c1_l_turned)) [2])
def g_l_turned : Sf := (sRet false (lift1 dTup1 c2_l_turned))
def P_l_turned : Fn := runFn 4 2 g_l_turned
def c1_law08 : Ef := (eLC (sLst (eV 9)) (bName 11) tYesE (lift2 dIx (liftA dLst (aC (eC (.str "right")) (aC (eC (.str "left")) aN))) (lift1 dInt (lift2 (dEq false) (eV 11) (eC (.str "right"))))) [11])
def b2_law08 : Sf := (sIf (fOr (lift2 (dIn true) (eCall P_l_turned false (aC (eV 8) (aC (eV 7) aN))) (rV 6)) (lift2 (dEq true) (lift2 dIx (rV 6) (eCall P_l_turned false (aC (eV 8) (aC (eV 7) aN)))) (lift2 dIx (eV 5) (eV 7)))) (sRet false (eC (.bool false))) sNx)
def g_law08 : Sf := (sSeq (sAsg (bTup [8, 9, 10]) (eCall P_l_built false (aC (eV 0) aN)))
  (sSeq (sAsg (bName 1) (liftA dLst (aC (lift1 dLst1 (eV 8)) (aC (lift1 dLst1 (eV 9)) aN))))
  (sSeq (sOwn 2 (eCall P_turned_lane true (aC (lift2 dIx (eV 1) (eC (.int 0))) aN)))
  (sSeq (sOwn 3 (eCall P_turned_ways true (aC (lift2 dIx (eV 1) (eC (.int 1))) aN)))
  (sSeq (sAsg (bName 4) (eCall P_turned_stand false (aC (lift2 dIx (eV 1) (eC (.int 0))) (aC (eV 10) aN))))
  (sSeq (sIf (fOr (fNot (lift1 (dIs .list) (rV 2))) (fOr (fNot (lift1 (dIs .list) (rV 3))) (fNot (lift1 (dIs .tuple) (eV 4))))) (sRet false (eC (.bool false))) sNx)
  (sSeq (sIf (fOr (lift2 (dEq true) (rV 2) (lift1 dRevL (eV 8))) (lift2 (dEq true) (rV 3) c1_law08)) (sRet false (eC (.bool false))) sNx)
  (sSeq (sIf (fOr (lift2 (dEq true) (eV 4) (eCall P_l_turned false (aC (eV 8) (aC (eV 10) aN)))) (lift2 (dEq true) (eV 1) (liftA dLst (aC (eV 8) (aC (eV 9) aN))))) (sRet false (eC (.bool false))) sNx)
  (sSeq (sIf (fOr (lift2 (dEq true) (eCallO P_turned_lane (aC (noD (rV 2)) aN)) (eV 8)) (fOr (lift2 (dEq true) (eCallO P_turned_ways (aC (noD (rV 3)) aN)) (eV 9)) (lift2 (dEq true) (eCallR P_turned_stand (aC (noD (rV 2)) (aC (eV 4) aN))) (eV 10)))) (sRet false (eC (.bool false))) sNx)
  (sSeq (sIf (lift2 (dEq true) (eCallO P_allowed (aC (noD (rV 2)) (aC (noD (rV 3)) (aC (eV 4) aN)))) (eCall P_allowed true (aC (eV 8) (aC (eV 9) (aC (eV 10) aN))))) (sRet false (eC (.bool false))) sNx)
  (sSeq (sIf (lift2 (dEq true) (eCallR P_left_to_go (aC (noD (rV 2)) (aC (noD (rV 3)) (aC (eV 4) aN)))) (eCall P_left_to_go false (aC (eV 8) (aC (eV 9) (aC (eV 10) aN))))) (sRet false (eC (.bool false))) sNx)
  (sSeq (sOwn 5 (lift1 dDict (eCall P_prices true (aC (eV 8) (aC (eV 9) (aC (eV 10) aN))))))
  (sSeq (sOwn 6 (lift1 dDict (eCallO P_prices (aC (noD (rV 2)) (aC (noD (rV 3)) (aC (eV 4) aN))))))
  (sSeq (sIf (lift2 (dEq true) (lift1 dLen (rV 5)) (lift1 dLen (rV 6))) (sRet false (eC (.bool false))) sNx)
  (sFrz 5 (sSeq (sFor (sDic (eV 5)) (bName 7) b2_law08)
  (sSeq (sApp 2 (eC (.int 0)))
  (sSeq (sClr 3)
  (sRet false (fAnd (lift2 (dEq false) (eCall P_turned_lane true (aC (lift2 dIx (eV 1) (eC (.int 0))) aN)) (lift1 dRevL (eV 8))) (fAnd (lift2 (dEq false) (lift1 dLen (eCall P_turned_ways true (aC (lift2 dIx (eV 1) (eC (.int 1))) aN))) (lift1 dLen (eV 9))) (lift2 (dEq false) (eV 1) (liftA dLst (aC (eV 8) (aC (eV 9) aN)))))))))))))))))))))))))
def P_law08 : Fn := runFn 12 1 g_law08
end DS
namespace DS
open PySem PySem.Spec PyProof.Rows L2
def eL (L : List Int) : PyData := .list (L.map .int)
def wD (b : Bool) : PyData := .str (if b = true then "right" else "left")
def eW (ws : List Bool) : PyData := .list (ws.map wD)
def eS (s : List Spot) : PyData := .tuple (s.map En.d)
@[simp] theorem enS (a : Spot) : (En.d a : PyData) = a.d := rfl
@[simp] theorem eL_len {L} : dLen (eL L) = some (.int L.length) := by simp [eL]
@[simp] theorem eW_len {L} : dLen (eW L) = some (.int L.length) := by simp [eW]
@[simp] theorem eS_len {L} : dLen (eS L) = some (.int L.length) := by simp [eS]
@[simp] theorem eL_ix {L} {i : Int} : dIx (eL L) (.int i) = atI (L.map PyData.int) i := rfl
@[simp] theorem eW_ix {L} {i : Int} : dIx (eW L) (.int i) = atI (L.map wD) i := rfl
@[simp] theorem eS_ix {L} {i : Int} : dIx (eS L) (.int i) = atI (L.map Spot.d) i := rfl
@[simp] theorem eS_ok {L} : okTup (eS L) = true := rfl
@[simp] theorem eL_is {L} : dIs .list (eL L) = some (.bool true) := rfl
@[simp] theorem eW_is {L} : dIs .list (eW L) = some (.bool true) := rfl
@[simp] theorem eS_is {L} : dIs .tuple (eS L) = some (.bool true) := rfl
@[simp] theorem dAll_rep {n : Nat} : dAll (.list (List.replicate n (.bool true))) = some (.bool true) := by
  have e : List.replicate n (PyData.bool true) = (List.replicate n true).map PyData.bool := by rw [List.map_replicate]
  rw [e, dAll_b]
  simp
@[simp] theorem noDi_eL {L} : noDi (eL L) = true := rfl
@[simp] theorem noDi_eW {L} : noDi (eW L) = true := rfl
@[simp] theorem noDi_eS {L} : noDi (eS L) = true := rfl
def inR (n : Nat) : Spot → Bool
  | .out => true
  | .lane p => decide (0 ≤ p) && decide (p < n)
  | .side p => decide (0 ≤ p) && decide (p < n)
def room (L : List Int) (p : Int) : Int := L.getD p.toNat 0
structure Valid (L : List Int) (ws : List Bool) (s : List Spot) : Prop where
  n1 : 1 ≤ L.length
  n8 : L.length ≤ 8
  rm : ∀ r ∈ L, 0 ≤ r ∧ r ≤ 4
  w1 : 1 ≤ ws.length
  w6 : ws.length ≤ 6
  len : s.length = ws.length
  inr : ∀ x ∈ s, inR L.length x = true
  one : ∀ i : Nat, i < L.length → s.count (.lane i) ≤ 1
  fit : ∀ i : Nat, i < L.length → ((s.count (.side i) : Nat) : Int) ≤ room L i
theorem is_among_t {x a b : Int} (h1 : a ≤ x) (h2 : x ≤ b) : P_is_among [.int x, .int a, .int b] = some (.ok (false, .bool true)) := by
  simp [P_is_among, runFn, g_is_among, startE, dIs, h1, h2]
theorem need_lane_t {L : List Int} (n1 : 1 ≤ L.length) (n8 : L.length ≤ 8) (rm : ∀ r ∈ L, 0 ≤ r ∧ r ≤ 4) : P_need_lane [eL L] = some (.ok (false, .bool true)) := by
  have h : c1_need_lane [some (false, eL L), none] = some (.ok (.list (List.replicate L.length (.bool true)))) := by
    refine eLC_of (ds := L.map .int) (sLst_of rfl) ?_
    rw [← List.map_const']
    refine lcGo_map fun x hx => step_yes rfl ?_
    have := rm x hx
    simp [is_among_t this.1 this.2]
  have h1 : (1 : Int) ≤ L.length := by omega
  have h8 : (L.length : Int) ≤ 8 := by omega
  simp only [P_need_lane, runFn, g_need_lane, startE]
  simp [h, h1, h8]
theorem need_ways_t {ws : List Bool} (n1 : 1 ≤ ws.length) (n8 : ws.length ≤ 6) : P_need_ways [eW ws] = some (.ok (false, .bool true)) := by
  have h : c1_need_ways [some (false, eW ws), none] = some (.ok (.list (List.replicate ws.length (.bool true)))) := by
    refine eLC_of (ds := ws.map wD) (sLst_of rfl) ?_
    rw [← List.map_const']
    refine lcGo_map fun x hx => step_yes rfl ?_
    cases x <;> simp [wD, dIs]
  have h1 : (1 : Int) ≤ ws.length := by omega
  have h8 : (ws.length : Int) ≤ 6 := by omega
  simp only [P_need_ways, runFn, g_need_ways, startE]
  simp [h, h1, h8]
theorem is_spot_t {L : List Int} {x : Spot} (h : inR L.length x = true) : P_is_spot [x.d, eL L] = some (.ok (false, .bool true)) := by
  simp only [P_is_spot, runFn, g_is_spot, startE]
  cases x with
  | out => simp [Spot.d, dIs]
  | lane p =>
    simp only [inR, Bool.and_eq_true, decide_eq_true_eq] at h
    have e := is_among_t (x := p) (a := 0) (b := L.length - 1) h.1 (by omega)
    simp [Spot.d, dIs, e]
  | side p =>
    simp only [inR, Bool.and_eq_true, decide_eq_true_eq] at h
    have e := is_among_t (x := p) (a := 0) (b := L.length - 1) h.1 (by omega)
    simp [Spot.d, dIs, e]
theorem atI_room {L : List Int} {p : Int} (h0 : 0 ≤ p) (h1 : p < L.length) : atI (L.map PyData.int) p = some (.int (room L p)) := by
  rw [atI_map h0 h1]
  unfold room
  rw [List.getD_eq_getElem?_getD, List.getElem?_eq_getElem (by omega)]
  rfl
theorem cnt_lane {s : List Spot} {p : Int} : dCnt (eS s) (.tuple [.str "lane", .int p]) = some (.int (s.count (.lane p) : Nat)) := dCnt_en s (.lane p)
theorem cnt_side {s : List Spot} {p : Int} : dCnt (eS s) (.tuple [.str "side", .int p]) = some (.int (s.count (.side p) : Nat)) := dCnt_en s (.side p)
theorem okTup_S {s : List Spot} : okTup (eS s) = true := rfl
theorem has_room_t {L : List Int} {s : List Spot} (one : ∀ i : Nat, i < L.length → s.count (.lane i) ≤ 1) (fit : ∀ i : Nat, i < L.length → ((s.count (.side i) : Nat) : Int) ≤ room L i) (hz : L.length ≤ 8) : P_has_room [eL L, eS s] = some (.ok (false, .bool true)) := by
  have hl : ∀ (is : List Nat), (∀ i ∈ is, i < L.length) → ∀ x : Option (Bool × PyData), ∃ y, forGo (bName 2) b1_has_room (is.map fun i => PyData.int ((i : Nat) : Int)) [some (false, eL L), some (false, eS s), x] = some (.nx [some (false, eL L), some (false, eS s), y]) := by
    intro is
    induction is with
    | nil => exact fun _ x => ⟨x, rfl⟩
    | cons i is ih =>
      intro h x
      have hi := h i List.mem_cons_self
      obtain ⟨y, hy⟩ := ih (fun j hj => h j (List.mem_cons_of_mem _ hj)) (some (false, .int i))
      refine ⟨y, ?_⟩
      have h1 := one i hi
      have h2 := fit i hi
      have e3 : ¬ ((1 : Int) < ((s.count (.lane (i : Int)) : Nat) : Int)) := by omega
      have e4 : ¬ (room L i < ((s.count (.side (i : Int)) : Nat) : Int)) := by omega
      have e := atI_room (L := L) (p := (i : Int)) (by omega) (by omega)
      rw [List.map_cons]
      refine (forGo_nx rfl ?_).trans hy
      simp [b1_has_room, cnt_lane, cnt_side, e, e3, e4]
  simp only [P_has_room, runFn, g_has_room, startE]
  obtain ⟨y, hy⟩ := hl (List.range L.length) (fun i hi => List.mem_range.mp hi) none
  have hs : sRng (lift1 dLen (eV 0)) [some (false, eL L), some (false, eS s), none] = some (.ok ((List.range L.length).map fun i => PyData.int ((i : Nat) : Int))) := sRng_of (by simp) (by omega)
  simp [sFor_of hs, hy]
theorem need_stand_t {L : List Int} {ws : List Bool} {s : List Spot} (v : Valid L ws s) : P_need_stand [eL L, eW ws, eS s] = some (.ok (false, .bool true)) := by
  have e1 := need_lane_t v.n1 v.n8 v.rm
  have e2 := need_ways_t v.w1 v.w6
  have e3 := has_room_t v.one v.fit v.n8
  have h : c1_need_stand [some (false, eL L), some (false, eW ws), some (false, eS s), none] = some (.ok (.list (List.replicate s.length (.bool true)))) := by
    refine eLC_of (ds := s.map Spot.d) (sTup_of rfl ?_) ?_
    · rw [List.length_map, v.len, sizeLine_eq]
      have := v.w6
      omega
    · rw [← List.map_const']
      refine lcGo_map fun x hx => step_yes rfl ?_
      simp [is_spot_t (v.inr x hx)]
  have hl : (s.length : Int) = ws.length := by rw [v.len]
  simp only [P_need_stand, runFn, g_need_stand, startE]
  simp [e1, e2, e3, h, hl]
def wayLeft (n : Nat) (b : Bool) : Spot → Int
  | .out => 0
  | .lane p => if b = true then n - p else p + 1
  | .side p => if b = true then n - p else p + 1
def leftOf (n : Nat) (ws : List Bool) (s : List Spot) : Int := ((ws.zip s).map fun q => wayLeft n q.1 q.2).sum
@[simp] theorem wD_right {b n : Bool} : dEq n (wD b) (.str "right") = some (.bool (if n then !b else b)) := by cases b <;> simp [wD]
@[simp] theorem wD_left {b n : Bool} : dEq n (wD b) (.str "left") = some (.bool (if n then b else !b)) := by cases b <;> simp [wD]
theorem way_left_t {L : List Int} {b : Bool} {x : Spot} : P_way_left [eL L, wD b, x.d] = some (.ok (false, .int (wayLeft L.length b x))) := by
  simp only [P_way_left, runFn, g_way_left, startE]
  cases x <;> cases b <;> simp [Spot.d, wayLeft]
theorem zipD_map {α β : Type} {f : α → PyData} {g : β → PyData} : ∀ {xs : List α} {ys : List β}, zipD (xs.map f) (ys.map g) = (xs.zip ys).map fun q => .tuple [f q.1, g q.2]
  | [], _ => by simp [zipD]
  | _ :: _, [] => by simp [zipD]
  | x :: xs, y :: ys => by simp only [List.map_cons, zipD, List.zip_cons_cons, zipD_map (xs := xs) (ys := ys)]
theorem left_of_t {L : List Int} {ws : List Bool} {s : List Spot} (hl : s.length = ws.length) : P_left_of [eL L, eW ws, eS s] = some (.ok (false, .int (leftOf L.length ws s))) := by
  have h : c1_left_of [some (false, eL L), some (false, eW ws), some (false, eS s), none, none] = some (.ok (.list ((((ws.zip s).map fun q => wayLeft L.length q.1 q.2)).map PyData.int))) := by
    refine eLC_of (ds := zipD (ws.map wD) (s.map Spot.d)) ?_ ?_
    · have e : eV 1 [some (false, eL L), some (false, eW ws), some (false, eS s), none, none] = some (.ok (.list (ws.map wD))) := rfl
      have e2 : eV 2 [some (false, eL L), some (false, eW ws), some (false, eS s), none, none] = some (.ok (.tuple (s.map Spot.d))) := rfl
      simp only [sZip, e, e2]
      rw [if_pos (by rw [List.length_map, List.length_map, hl])]
    · rw [zipD_map, List.map_map]
      refine lcGo_map fun x hx => step_yes rfl ?_
      simp [way_left_t]
  simp only [P_left_of, runFn, g_left_of, startE, leftOf]
  generalize (ws.zip s).map (fun q => wayLeft L.length q.1 q.2) = ns at h ⊢
  simp [h]
def nextSpot (n : Nat) (b : Bool) (p : Int) : Spot := if 0 ≤ (if b = true then p + 1 else p - 1) ∧ (if b = true then p + 1 else p - 1) < (n : Int) then .lane (if b = true then p + 1 else p - 1) else .out
theorem next_spot_t {L : List Int} {b : Bool} {p : Int} : P_next_spot [eL L, wD b, .int p] = some (.ok (false, (nextSpot L.length b p).d)) := by
  simp only [P_next_spot, runFn, g_next_spot, startE]
  unfold nextSpot
  cases b with
  | true =>
    by_cases h1 : 0 ≤ p + 1
    · by_cases h2 : p + 1 < L.length <;> simp [h1, h2, Spot.d]
    · simp [h1, Spot.d]
  | false =>
    by_cases h1 : 1 ≤ p
    · by_cases h2 : p - 1 < L.length <;> simp [h1, h2, Spot.d]
    · simp [h1, Spot.d]
inductive Mv where
  | go | aside | on
  deriving DecidableEq, Repr
def Mv.d : Mv → PyData
  | .go => .str "go"
  | .aside => .str "aside"
  | .on => .str "on"
/-- a step out of the siding or along the lane -/
def ahead (n : Nat) (b : Bool) (s : List Spot) (p : Int) : Option Spot := if nextSpot n b p ≠ .out ∧ nextSpot n b p ∈ s then none else some (nextSpot n b p)
def goalOf (L : List Int) (b : Bool) (s : List Spot) (x : Spot) : Mv → Option Spot
  | .aside => match x with
    | .lane p => if ((s.count (.side p) : Nat) : Int) < room L p then some (.side p) else none
    | _ => none
  | .go => match x with
    | .lane p => ahead L.length b s p
    | _ => none
  | .on => match x with
    | .side p => ahead L.length b s p
    | _ => none
def optD (x : Option Spot) : PyData := match x with | none => .none | some g => g.d
theorem atI_at {α : Type} {f : α → PyData} {xs : List α} {i : Nat} {x : α} (h : xs[i]? = some x) : atI (xs.map f) (i : Int) = some (f x) := by
  refine atI_nat ?_
  rw [List.getElem?_map, h]
  rfl
theorem nextSpot_ne_side {n : Nat} {b : Bool} {p q : Int} : nextSpot n b p ≠ .side q := by
  unfold nextSpot
  generalize (if b = true then p + 1 else p - 1) = g
  split <;> (intro h; cases h)
theorem spot_in {x : Spot} {s : List Spot} {n : Bool} : dIn n x.d (eS s) = some (.bool (if n then !decide (x ∈ s) else decide (x ∈ s))) := dIn_tupE x s
theorem goal_of_t {L : List Int} {ws : List Bool} {s : List Spot} {i : Nat} {b : Bool} {x : Spot} (m : Mv) (hb : ws[i]? = some b) (hx : s[i]? = some x) (hr : inR L.length x = true) :
    P_goal_of [eL L, eW ws, eS s, .tuple [m.d, .int i]] = some (.ok (false, optD (goalOf L b s x m))) := by
  have e1 := atI_at (f := Spot.d) hx
  have e2 := atI_at (f := wD) hb
  simp only [P_goal_of, runFn, g_goal_of, startE]
  cases x with
  | out => cases m <;> simp [Mv.d, e1, Spot.d, goalOf, optD]
  | lane p =>
    simp only [inR, Bool.and_eq_true, decide_eq_true_eq] at hr
    have e3 := atI_room hr.1 hr.2
    have e4 := next_spot_t (L := L) (b := b) (p := p)
    cases m with
    | aside =>
      by_cases h : ((s.count (.side p) : Nat) : Int) < room L p
      · simp [Mv.d, e1, Spot.d, goalOf, optD, e3, cnt_side, h]
      · simp [Mv.d, e1, Spot.d, goalOf, optD, e3, cnt_side, h]
    | go =>
      cases hn : nextSpot L.length b p with
      | side q => exact absurd hn nextSpot_ne_side
      | out => simp [Mv.d, e1, e2, Spot.d, goalOf, optD, ahead, e4, hn]
      | lane q =>
        rw [hn] at e4
        have e5 := spot_in (x := .lane q) (s := s) (n := false)
        by_cases h : Spot.lane q ∈ s
        · simp [Mv.d, e1, e2, Spot.d, goalOf, optD, ahead, hn, h]
          simp [Spot.d] at e4 e5
          simp [e4, e5, h]
        · simp [Mv.d, e1, e2, Spot.d, goalOf, optD, ahead, hn, h]
          simp [Spot.d] at e4 e5
          simp [e4, e5, h]
    | on => simp [Mv.d, e1, Spot.d, goalOf, optD]
  | side p =>
    have e4 := next_spot_t (L := L) (b := b) (p := p)
    cases m with
    | aside => simp [Mv.d, e1, Spot.d, goalOf, optD]
    | go => simp [Mv.d, e1, Spot.d, goalOf, optD]
    | on =>
      cases hn : nextSpot L.length b p with
      | side q => exact absurd hn nextSpot_ne_side
      | out => simp [Mv.d, e1, e2, Spot.d, goalOf, optD, ahead, e4, hn]
      | lane q =>
        rw [hn] at e4
        have e5 := spot_in (x := .lane q) (s := s) (n := false)
        by_cases h : Spot.lane q ∈ s
        · simp [Mv.d, e1, e2, Spot.d, goalOf, optD, ahead, hn, h]
          simp [Spot.d] at e4 e5
          simp [e4, e5, h]
        · simp [Mv.d, e1, e2, Spot.d, goalOf, optD, ahead, hn, h]
          simp [Spot.d] at e4 e5
          simp [e4, e5, h]
abbrev Move := Mv × Nat
def mvD (q : Move) : PyData := .tuple [q.1.d, .int q.2]
abbrev Step := Move × List Spot
def stepD (q : Step) : PyData := .tuple [mvD q.1, eS q.2]
theorem cut_to {xs : List PyData} {i : Nat} : cutD xs none (some (i : Int)) = xs.take i := by
  unfold cutD
  rw [HT.sIx_none, HT.sIx_nat, List.drop_zero, Nat.sub_zero]
  rw [Nat.min_comm, List.take_eq_take_iff]
  omega
theorem cut_from {xs : List PyData} {i : Nat} : cutD xs (some (i : Int)) none = xs.drop i := by
  unfold cutD
  rw [HT.sIx_none, HT.sIx_nat]
  by_cases h : i ≤ xs.length
  · rw [Nat.min_eq_left h, List.take_of_length_le (by rw [List.length_drop]; omega)]
  · rw [Nat.min_eq_right (by omega), List.drop_length, List.drop_eq_nil_of_le (by omega)]
    simp
theorem iAdd_t {xs ys : List PyData} (h : xs.length + ys.length ≤ sizeLine) : iAdd (.tuple xs) (.tuple ys) = some (.tuple (xs ++ ys)) := by
  unfold iAdd
  simp [h]
theorem moved_t {s : List Spot} {i : Nat} {g : Spot} (hi : i < s.length) (hz : s.length ≤ 1000) : P_moved [eS s, .int i, g.d] = some (.ok (false, eS (s.set i g))) := by
  simp only [P_moved, runFn, g_moved, startE]
  have e1 : cutD (s.map Spot.d) none (some (i : Int)) = (s.map Spot.d).take i := cut_to
  have e2 : cutD (s.map Spot.d) (some ((i : Int) + 1)) none = (s.map Spot.d).drop (i + 1) := cut_from (i := i + 1)
  have e3 : dSl (eS s) none (some (i : Int)) = some (.tuple ((s.map Spot.d).take i)) := congrArg (fun z => some (PyData.tuple z)) e1
  have e4 : dSl (eS s) (some ((i : Int) + 1)) none = some (.tuple ((s.map Spot.d).drop (i + 1))) := congrArg (fun z => some (PyData.tuple z)) e2
  have hz' := sizeLine_eq
  have e5 : iAdd (.tuple ((s.map Spot.d).take i)) (.tuple [g.d]) = some (.tuple ((s.map Spot.d).take i ++ [g.d])) := iAdd_t (by simp; omega)
  have e6 : iAdd (.tuple ((s.map Spot.d).take i ++ [g.d])) (.tuple ((s.map Spot.d).drop (i + 1))) = some (.tuple (((s.map Spot.d).take i ++ [g.d]) ++ (s.map Spot.d).drop (i + 1))) := iAdd_t (by simp; omega)
  have e7 : eS (s.set i g) = .tuple (((s.map Spot.d).take i ++ [g.d]) ++ (s.map Spot.d).drop (i + 1)) := by
    unfold eS
    congr 1
    rw [List.map_set]
    show (s.map Spot.d).set i g.d = _
    rw [List.set_eq_take_append_cons_drop, if_pos (by simpa using hi), List.append_assoc]
    rfl
  rw [e7]
  simp [e3, e4, e5]
  simp [e6]
def movesAt (L : List Int) (ws : List Bool) (s : List Spot) (i : Nat) : List Step := match ws[i]?, s[i]? with
  | some b, some x => [Mv.go, .aside, .on].filterMap fun m => (goalOf L b s x m).map fun g => ((m, i), s.set i g)
  | _, _ => []
def movesOf (L : List Int) (ws : List Bool) (s : List Spot) : List Step := (List.range ws.length).flatMap (movesAt L ws s)
def oneD (L : List Int) (b : Bool) (s : List Spot) (x : Spot) (i : Nat) (m : Mv) : List PyData := (match goalOf L b s x m with | none => [] | some g => [stepD ((m, i), s.set i g)])
theorem goalOf_imp {L : List Int} {b : Bool} {s : List Spot} {x g : Spot} {m : Mv} : goalOf L b s x m = some g → True := fun _ => trivial
theorem b1_moves_t {L : List Int} {ws : List Bool} {s : List Spot} {i : Nat} {b : Bool} {x : Spot} (m : Mv) (hb : ws[i]? = some b) (hx : s[i]? = some x) (hr : inR L.length x = true) (hz : s.length ≤ 1000) (acc : List PyData) (ha : acc.length ≤ 1000) (g : Option (Bool × PyData)) :
    ∃ g', b1_moves_of [some (false, eL L), some (false, eW ws), some (false, eS s), some (true, .list acc), some (false, .int i), some (false, m.d), g] =
      some (.nx [some (false, eL L), some (false, eW ws), some (false, eS s), some (true, .list (acc ++ oneD L b s x i m)), some (false, .int i), some (false, m.d), g']) := by
  have e1 := goal_of_t m hb hx hr
  have hi : i < s.length := (List.getElem?_eq_some_iff.mp hx).1
  refine ⟨some (false, optD (goalOf L b s x m)), ?_⟩
  unfold b1_moves_of oneD
  cases hg : goalOf L b s x m with
  | none =>
    rw [hg] at e1
    simp [e1, optD]
  | some y =>
    rw [hg] at e1
    have e2 := moved_t (g := y) hi hz
    have e3 : dIsN true y.d .none = some (.bool true) := by cases y <;> rfl
    have hz' := sizeLine_eq
    simp [e1, optD, e3]
    refine sApp_of rfl ?_ (by omega)
    simp [stepD, mvD, e2]
theorem words_t {L : List Int} {ws : List Bool} {s : List Spot} {i : Nat} {b : Bool} {x : Spot} (hb : ws[i]? = some b) (hx : s[i]? = some x) (hr : inR L.length x = true) (hz : s.length ≤ 1000) (acc : List PyData) (ha : acc.length ≤ 900) (w g : Option (Bool × PyData)) :
    ∃ w' g', b2_moves_of [some (false, eL L), some (false, eW ws), some (false, eS s), some (true, .list acc), some (false, .int i), w, g] =
      some (.nx [some (false, eL L), some (false, eW ws), some (false, eS s), some (true, .list (acc ++ (movesAt L ws s i).map stepD)), some (false, .int i), w', g']) := by
  have l1 : ∀ m, (oneD L b s x i m).length ≤ 1 := fun m => by
    unfold oneD
    split <;> simp
  have l2 := l1 .go
  have l3 := l1 .aside
  obtain ⟨g1, h1⟩ := b1_moves_t .go hb hx hr hz acc (by omega) g
  obtain ⟨g2, h2⟩ := b1_moves_t .aside hb hx hr hz (acc ++ oneD L b s x i .go) (by rw [List.length_append]; omega) g1
  obtain ⟨g3, h3⟩ := b1_moves_t .on hb hx hr hz (acc ++ oneD L b s x i .go ++ oneD L b s x i .aside) (by rw [List.length_append, List.length_append]; omega) g2
  refine ⟨some (false, Mv.on.d), g3, ?_⟩
  unfold b2_moves_of
  have hs : sTup (liftA dTup (aC (eC (.str "go")) (aC (eC (.str "aside")) (aC (eC (.str "on")) aN)))) [some (false, eL L), some (false, eW ws), some (false, eS s), some (true, .list acc), some (false, .int i), w, g] = some (.ok [Mv.go.d, Mv.aside.d, Mv.on.d]) := sTup_of (by simp [Mv.d]) (by simp [sizeLine_eq])
  rw [sFor_of hs, forGo_nx rfl h1, forGo_nx rfl h2, forGo_nx rfl h3, forGo_0]
  have e : (movesAt L ws s i).map stepD = oneD L b s x i .go ++ oneD L b s x i .aside ++ oneD L b s x i .on := by
    unfold movesAt oneD
    rw [hb, hx]
    simp only [List.filterMap_cons, List.filterMap_nil]
    cases goalOf L b s x .go <;> cases goalOf L b s x .aside <;> cases goalOf L b s x .on <;> rfl
  rw [e]
  simp only [List.append_assoc]
theorem movesAt_len {L : List Int} {ws : List Bool} {s : List Spot} {i : Nat} : (movesAt L ws s i).length ≤ 3 := by
  unfold movesAt
  split
  · exact Nat.le_trans (List.length_filterMap_le _ _) (by simp)
  · simp
theorem moves_of_t {L : List Int} {ws : List Bool} {s : List Spot} (hl : s.length = ws.length) (hr : ∀ x ∈ s, inR L.length x = true) (hw : ws.length ≤ 100) : P_moves_of [eL L, eW ws, eS s] = some (.ok (true, .list ((movesOf L ws s).map stepD))) := by
  have go : ∀ (is : List Nat) (acc : List PyData), (∀ i ∈ is, i < ws.length) → acc.length + 3 * is.length ≤ 900 → ∀ n w g : Option (Bool × PyData), ∃ n' w' g', forGo (bName 4) b2_moves_of (is.map fun i => PyData.int ((i : Nat) : Int)) [some (false, eL L), some (false, eW ws), some (false, eS s), some (true, .list acc), n, w, g] =
      some (.nx [some (false, eL L), some (false, eW ws), some (false, eS s), some (true, .list (acc ++ (is.flatMap (movesAt L ws s)).map stepD)), n', w', g']) := by
    intro is
    induction is with
    | nil => exact fun acc _ _ n w g => ⟨n, w, g, by simp⟩
    | cons i is ih =>
      intro acc h hz n w g
      have hi := h i List.mem_cons_self
      have hb : ws[i]? = some ws[i] := List.getElem?_eq_getElem hi
      have hx : s[i]? = some (s[i]'(by omega)) := List.getElem?_eq_getElem (by omega)
      obtain ⟨w1, g1, h1⟩ := words_t hb hx (hr _ (List.getElem_mem _)) (by omega) acc (by rw [List.length_cons] at hz; omega) w g
      have hm := movesAt_len (L := L) (ws := ws) (s := s) (i := i)
      obtain ⟨n2, w2, g2, h2⟩ := ih (acc ++ (movesAt L ws s i).map stepD) (fun j hj => h j (List.mem_cons_of_mem _ hj)) (by rw [List.length_append, List.length_map]; rw [List.length_cons] at hz; omega) (some (false, .int i)) w1 g1
      refine ⟨n2, w2, g2, ?_⟩
      rw [List.map_cons, forGo_nx rfl h1, h2]
      simp
  simp only [P_moves_of, runFn, g_moves_of, startE]
  obtain ⟨n', w', g', h⟩ := go (List.range ws.length) [] (fun i hi => List.mem_range.mp hi) (by simp; omega) none none none
  have hs : sRng (lift1 dLen (eV 1)) [some (false, eL L), some (false, eW ws), some (false, eS s), some (true, .list []), none, none, none] = some (.ok ((List.range ws.length).map fun i => PyData.int ((i : Nat) : Int))) := sRng_of (by simp) (by omega)
  simp [sFor_of hs, h, movesOf]
theorem left_to_go_t {L : List Int} {ws : List Bool} {s : List Spot} (v : Valid L ws s) : P_left_to_go [eL L, eW ws, eS s] = some (.ok (false, .int (leftOf L.length ws s))) := by
  have e1 := need_stand_t v
  have e2 := left_of_t (L := L) v.len
  simp only [P_left_to_go, runFn, g_left_to_go, startE]
  simp [e1, e2]
theorem allowed_t {L : List Int} {ws : List Bool} {s : List Spot} (v : Valid L ws s) : P_allowed [eL L, eW ws, eS s] = some (.ok (true, .list (((movesOf L ws s).map (·.1)).map mvD))) := by
  have e1 := need_stand_t v
  have e2 := moves_of_t (L := L) v.len v.inr (by have := v.w6; omega)
  have h : c1_allowed [some (false, eL L), some (false, eW ws), some (false, eS s), none, none] = some (.ok (.list (((movesOf L ws s).map (·.1)).map mvD))) := by
    refine eLC_of (ds := (movesOf L ws s).map stepD) (sLst_of ?_) ?_
    · simp [e2]
    · rw [List.map_map]
      exact lcGo_map fun x hx => step_yes rfl rfl
  simp only [P_allowed, runFn, g_allowed, startE]
  simp [e1, h]
theorem Mv.eqv_d (a b : Mv) : PyData.eqv a.d b.d = decide (a = b) := by
  cases a <;> cases b <;> simp only [Mv.d, str_eqv] <;> decide +kernel
instance : En Mv where
  d := Mv.d
  eqv := Mv.eqv_d
  lay a := by cases a <;> simp [Mv.d, PyData.canLay0] <;> decide +kernel
  dep a := by cases a <;> simp [Mv.d, PyData.depth]
instance : En Move where
  d := mvD
  eqv a b := by
    have e : PyData.eqv (.int (a.2 : Int)) (.int (b.2 : Int)) = decide (a.2 = b.2) := by
      rw [int_eqv, beq_dec]
      exact decide_eq_decide.mpr (by omega)
    unfold mvD
    simp only [PyData.eqv, PyData.eqvAll, Mv.eqv_d, Bool.and_true]
    have e' : (((a.2 : Int)) == ((b.2 : Int))) = decide (a.2 = b.2) := by rw [← e, int_eqv]
    rw [e', ← Bool.decide_and]
    exact decide_eq_decide.mpr ⟨fun h => Prod.ext h.1 h.2, fun h => by rw [h]; exact ⟨rfl, rfl⟩⟩
  lay a := by
    unfold mvD
    simp only [PyData.canLay0, PyData.canLayAll0, Bool.and_true]
    exact En.lay a.1
  dep a := by
    unfold mvD
    have h := En.dep a.1
    rcases a with ⟨m, i⟩
    cases m <;> simp [Mv.d, PyData.depth, PyData.depthAll]
@[simp] theorem mvD_eq {a b : Move} {n : Bool} : dEq n (mvD a) (mvD b) = some (.bool (if n then !decide (a = b) else decide (a = b))) := dEq_en a b
def behindOf (L : List Int) (ws : List Bool) (s : List Spot) (m : Move) : Option (List Spot) := ((movesOf L ws s).find? fun q => decide (q.1 = m)).map (·.2)
theorem behind_go {L : List Int} {ws : List Bool} {s : List Spot} {m : Move} : ∀ (qs : List Step) (u v : Option (Bool × PyData)), (match (qs.find? fun q => decide (q.1 = m)).map (·.2) with
    | some f => forGo (bTup [4, 5]) b1_behind (qs.map stepD) [some (false, eL L), some (false, eW ws), some (false, eS s), some (false, mvD m), u, v] = some (.rt false (eS f))
    | none => ∃ u' v', forGo (bTup [4, 5]) b1_behind (qs.map stepD) [some (false, eL L), some (false, eW ws), some (false, eS s), some (false, mvD m), u, v] = some (.nx [some (false, eL L), some (false, eW ws), some (false, eS s), some (false, mvD m), u', v']))
  | [], u, v => ⟨u, v, rfl⟩
  | q :: qs, u, v => by
    by_cases h : q.1 = m
    · rw [List.find?_cons_of_pos (by simpa using h)]
      refine forGo_rt rfl ?_
      simp [b1_behind, h]
    · rw [List.find?_cons_of_neg (by simpa using h)]
      have ih := behind_go (L := L) (ws := ws) (s := s) (m := m) qs (some (false, mvD q.1)) (some (false, eS q.2))
      have e : forGo (bTup [4, 5]) b1_behind ((q :: qs).map stepD) [some (false, eL L), some (false, eW ws), some (false, eS s), some (false, mvD m), u, v] = forGo (bTup [4, 5]) b1_behind (qs.map stepD) [some (false, eL L), some (false, eW ws), some (false, eS s), some (false, mvD m), some (false, mvD q.1), some (false, eS q.2)] := by
        refine forGo_nx rfl ?_
        simp [b1_behind, h]
      rw [e]
      exact ih
theorem behind_t {L : List Int} {ws : List Bool} {s f : List Spot} {m : Move} (v : Valid L ws s) (hm : behindOf L ws s m = some f) : P_behind [eL L, eW ws, eS s, mvD m] = some (.ok (false, eS f)) := by
  have e1 := need_stand_t v
  have e2 := moves_of_t (L := L) v.len v.inr (by have := v.w6; omega)
  have hi : m.2 < ws.length := by
    unfold behindOf at hm
    obtain ⟨q, hq, rfl⟩ := Option.map_eq_some_iff.mp hm
    have h1 := List.mem_of_find?_eq_some hq
    have h2 := List.find?_some hq
    have h2' : q.1 = m := of_decide_eq_true h2
    obtain ⟨i, hi, hqi⟩ := List.mem_flatMap.mp h1
    have hi' := List.mem_range.mp hi
    unfold movesAt at hqi
    split at hqi
    · obtain ⟨mm, _, hmm⟩ := List.mem_filterMap.mp hqi
      obtain ⟨g, _, rfl⟩ := Option.map_eq_some_iff.mp hmm
      rw [← h2']
      exact hi'
    · cases hqi
  have e3 := is_among_t (x := (m.2 : Int)) (a := 0) (b := (ws.length : Int) - 1) (by omega) (by omega)
  have e4 := behind_go (L := L) (ws := ws) (s := s) (m := m) (movesOf L ws s) none none
  unfold behindOf at hm
  rw [hm] at e4
  have e4' : forGo (bTup [4, 5]) b1_behind ((movesOf L ws s).map stepD) [some (false, eL L), some (false, eW ws), some (false, eS s), some (false, mvD m), none, none] = some (.rt false (eS f)) := e4
  have hs : sLst (noD (eCall P_moves_of true (aC (eV 0) (aC (eV 1) (aC (eV 2) aN))))) [some (false, eL L), some (false, eW ws), some (false, eS s), some (false, mvD m), none, none] = some (.ok ((movesOf L ws s).map stepD)) := sLst_of (by simp [e2])
  simp only [P_behind, runFn, g_behind, startE]
  have e5 : dIs .tuple (mvD m) = some (.bool true) := rfl
  have e6 : dLen (mvD m) = some (.int 2) := rfl
  have e7 : dIx (mvD m) (.int 1) = some (.int m.2) := by simp [mvD]
  simp [e1, sFor_of hs, e4', e5, e6, e7, e3]
end DS
namespace DS
open PySem PySem.Spec PyProof.Rows L2
def cell (ns : List Int) (k : Nat) : Int := ns.getD k 0
theorem cell_at_t {ns : List Int} {k : Nat} : P_l_cell_at [scrD ns, .int k] = some (.ok (false, .int (cell ns k))) := by
  simp only [P_l_cell_at, runFn, g_l_cell_at, startE]
  unfold cell
  by_cases h : k < ns.length
  · have h' : (k : Int) < (ns.length : Int) := by omega
    have e : atI (ns.map PyData.int) (k : Int) = some (.int (ns.getD k 0)) := by
      rw [List.getD_eq_getElem?_getD, List.getElem?_eq_getElem h]
      exact atI_at (List.getElem?_eq_getElem h)
    rw [List.getD_eq_getElem?_getD] at e
    simp [h', e]
  · have h' : ¬ ((k : Int) < (ns.length : Int)) := by omega
    rw [List.getD_eq_getElem?_getD, List.getElem?_eq_none (by omega)]
    simp [h']
theorem cell_at_t' {ns : List Int} {i : Int} (h : 0 ≤ i) : P_l_cell_at [scrD ns, .int i] = some (.ok (false, .int (cell ns i.toNat))) := by
  have e := cell_at_t (ns := ns) (k := i.toNat)
  rw [Int.toNat_of_nonneg h] at e
  exact e
theorem mixed_t {ns : List Int} {k : Int} (h0 : 0 ≤ k) (h1 : k ≤ 1000) : ∃ m : Int, 0 ≤ m ∧ P_l_mixed [scrD ns, .int k] = some (.ok (false, .int m)) := by
  have a0 := cell_at_t' (ns := ns) (i := 0) (by omega)
  have a1 := cell_at_t' (ns := ns) (i := 1) (by omega)
  have ak := cell_at_t' (ns := ns) (i := k) h0
  generalize cell ns (0 : Int).toNat = x0 at a0
  generalize cell ns (1 : Int).toNat = x1 at a1
  generalize cell ns k.toNat = xk at ak
  refine ⟨(xk + (x0 + 3 * x1) * (k + 1) + 104729 * k) % 1000000007 * 48271 % 2147483647 / 3, by omega, ?_⟩
  have m1 : iMul (.int 3) (.int x1) = some (.int (3 * x1)) := iMul_l (by omega)
  have m2 : iMul (.int (x0 + 3 * x1)) (.int (k + 1)) = some (.int ((x0 + 3 * x1) * (k + 1))) := iMul_r (by omega)
  have m3 : iMul (.int 104729) (.int k) = some (.int (104729 * k)) := iMul_l (by omega)
  have m4 : ∀ z : Int, iMul (.int z) (.int 48271) = some (.int (z * 48271)) := fun z => iMul_r (by omega)
  simp only [P_l_mixed, runFn, g_l_mixed, startE]
  simp [a0, a1, ak, m1, m2, m3, m4]
theorem lcGo_ex {st : PyData → Option (Option PyData)} {α β : Type} {e : α → PyData} {k : β → PyData} {p : β → Prop} : ∀ {xs : List α}, (∀ x ∈ xs, ∃ y, p y ∧ st (e x) = some (some (k y))) → ∃ ys : List β, ys.length = xs.length ∧ (∀ y ∈ ys, p y) ∧ lcGo st (xs.map e) = some (ys.map k)
  | [], _ => ⟨[], rfl, (by intro y h; cases h), rfl⟩
  | x :: xs, h => by
    obtain ⟨y, h1, h2⟩ := h x List.mem_cons_self
    obtain ⟨ys, h3, h4, h5⟩ := lcGo_ex (xs := xs) fun z hz => h z (List.mem_cons_of_mem _ hz)
    refine ⟨y :: ys, by simp [h3], fun z hz => ?_, ?_⟩
    · rcases List.mem_cons.mp hz with rfl | hz
      · exact h1
      · exact h4 z hz
    · rw [List.map_cons, lcGo, h2]
      simp only [h5]
      rfl
/-- a spot that may be taken beside s -/
def Free (L : List Int) (s : List Spot) : Spot → Prop
  | .out => True
  | .lane p => 0 ≤ p ∧ p < L.length ∧ Spot.lane p ∉ s
  | .side p => 0 ≤ p ∧ p < L.length ∧ ((s.count (.side p) : Nat) : Int) < room L p
def allSpots (n : Nat) : List Spot := ((List.range n).map fun i => Spot.lane ((i : Nat) : Int)) ++ (List.range n).map fun i => Spot.side ((i : Nat) : Int)
theorem cntL_S {s : List Spot} {x : Spot} : dCntL (.list (s.map Spot.d)) x.d = some (.int (s.count x : Nat)) := dCntL_en s x
theorem inL_S {s : List Spot} {x : Spot} {n : Bool} : dIn n x.d (.list (s.map Spot.d)) = some (.bool (if n then !decide (x ∈ s) else decide (x ∈ s))) := dIn_lstE x s
theorem b3_spot_t {L : List Int} {s : List Spot} {c : Int} {k : Nat} (hn : 0 < L.length) (y z w : Option (Bool × PyData)) :
    (∃ x, Free L s x ∧ b3_l_spot [some (false, eL L), some (false, .list (s.map Spot.d)), some (false, .int c), some (false, .list ((allSpots L.length).map Spot.d)), some (false, .int k), y, z] = some (.rt false x.d)) ∨
    ∃ y', b3_l_spot [some (false, eL L), some (false, .list (s.map Spot.d)), some (false, .int c), some (false, .list ((allSpots L.length).map Spot.d)), some (false, .int k), y, z] = some (.nx [some (false, eL L), some (false, .list (s.map Spot.d)), some (false, .int c), some (false, .list ((allSpots L.length).map Spot.d)), some (false, .int k), y', z]) := by
  have hl : (allSpots L.length).length = 2 * L.length := by simp [allSpots]; omega
  have hp : (0 : Int) < ((allSpots L.length).length : Nat) := by omega
  have i0 := Int.emod_nonneg (c + k) (b := ((allSpots L.length).length : Nat)) (by omega)
  have i1 := Int.emod_lt_of_pos (c + k) hp
  have e := atI_map (f := Spot.d) (xs := allSpots L.length) i0 i1
  have hm : (allSpots L.length)[((c + k) % ((allSpots L.length).length : Nat)).toNat]'(by omega) ∈ allSpots L.length := List.getElem_mem _
  generalize (allSpots L.length)[((c + k) % ((allSpots L.length).length : Nat)).toNat]'(by omega) = x at e hm
  have hp' : 0 < (allSpots L.length).length := by omega
  unfold b3_l_spot
  have hx : (∃ p : Int, 0 ≤ p ∧ p < L.length ∧ x = .lane p) ∨ ∃ p : Int, 0 ≤ p ∧ p < L.length ∧ x = .side p := by
    unfold allSpots at hm
    rcases List.mem_append.mp hm with h | h
    · obtain ⟨i, hi, rfl⟩ := List.mem_map.mp h
      have := List.mem_range.mp hi
      exact .inl ⟨i, by omega, by omega, rfl⟩
    · obtain ⟨i, hi, rfl⟩ := List.mem_map.mp h
      have := List.mem_range.mp hi
      exact .inr ⟨i, by omega, by omega, rfl⟩
  rcases hx with ⟨p, h0, h1, rfl⟩ | ⟨p, h0, h1, rfl⟩
  · have e2 := inL_S (s := s) (x := .lane p) (n := true)
    by_cases h : Spot.lane p ∈ s
    · refine .inr ⟨some (false, (Spot.lane p).d), ?_⟩
      simp [Spot.d] at e e2
      simp [hp', e, e2, h, Spot.d]
    · refine .inl ⟨.lane p, ⟨h0, h1, h⟩, ?_⟩
      simp [Spot.d] at e e2
      simp [hp', e, e2, h, Spot.d]
  · have e2 := cntL_S (s := s) (x := .side p)
    have e3 := atI_room h0 h1
    by_cases h : ((s.count (.side p) : Nat) : Int) < room L p
    · refine .inl ⟨.side p, ⟨h0, h1, h⟩, ?_⟩
      simp [Spot.d] at e e2
      simp [hp', e, e2, e3, h, Spot.d]
    · refine .inr ⟨some (false, (Spot.side p).d), ?_⟩
      simp [Spot.d] at e e2
      simp [hp', e, e2, e3, h, Spot.d]
theorem spot_t {L : List Int} {s : List Spot} {c : Int} (hn : 0 < L.length) (h8 : L.length ≤ 8) : ∃ x, Free L s x ∧ P_l_spot [eL L, .list (s.map Spot.d), .int c] = some (.ok (false, x.d)) := by
  have h1 : c1_l_spot [some (false, eL L), some (false, .list (s.map Spot.d)), some (false, .int c), none, none, none, none] = some (.ok (.list (((List.range L.length).map fun i => Spot.lane ((i : Nat) : Int)).map Spot.d))) := by
    refine eLC_of (sRng_of (n := L.length) (by simp) (by omega)) ?_
    rw [List.map_map]
    exact lcGo_map fun x hx => step_yes rfl rfl
  have h2 : c2_l_spot [some (false, eL L), some (false, .list (s.map Spot.d)), some (false, .int c), none, none, none, none] = some (.ok (.list (((List.range L.length).map fun i => Spot.side ((i : Nat) : Int)).map Spot.d))) := by
    refine eLC_of (sRng_of (n := L.length) (by simp) (by omega)) ?_
    rw [List.map_map]
    exact lcGo_map fun x hx => step_yes rfl rfl
  have hz := sizeLine_eq
  have h3 : iCat (.list (((List.range L.length).map fun i => Spot.lane ((i : Nat) : Int)).map Spot.d)) (.list (((List.range L.length).map fun i => Spot.side ((i : Nat) : Int)).map Spot.d)) = some (.list ((allSpots L.length).map Spot.d)) := by
    unfold allSpots
    rw [List.map_append]
    exact iCat_l (by simp; omega)
  have go : ∀ (is : List Nat) (k y z : Option (Bool × PyData)), (∃ x, Free L s x ∧ forGo (bName 4) b3_l_spot (is.map fun i => PyData.int ((i : Nat) : Int)) [some (false, eL L), some (false, .list (s.map Spot.d)), some (false, .int c), some (false, .list ((allSpots L.length).map Spot.d)), k, y, z] = some (.rt false x.d)) ∨
      ∃ k' y', forGo (bName 4) b3_l_spot (is.map fun i => PyData.int ((i : Nat) : Int)) [some (false, eL L), some (false, .list (s.map Spot.d)), some (false, .int c), some (false, .list ((allSpots L.length).map Spot.d)), k, y, z] = some (.nx [some (false, eL L), some (false, .list (s.map Spot.d)), some (false, .int c), some (false, .list ((allSpots L.length).map Spot.d)), k', y', z]) := by
    intro is
    induction is with
    | nil => exact fun k y z => .inr ⟨k, y, rfl⟩
    | cons i is ih =>
      intro k y z
      rcases b3_spot_t (s := s) (c := c) (k := i) hn y z none with ⟨x, hx, h⟩ | ⟨y', h⟩
      · exact .inl ⟨x, hx, forGo_rt rfl h⟩
      · rcases ih (some (false, .int i)) y' z with ⟨x, hx, g⟩ | ⟨k2, y2, g⟩
        · exact .inl ⟨x, hx, (forGo_nx rfl h).trans g⟩
        · exact .inr ⟨k2, y2, (forGo_nx rfl h).trans g⟩
  have hs : sRng (lift1 dLen (eV 3)) [some (false, eL L), some (false, .list (s.map Spot.d)), some (false, .int c), some (false, .list ((allSpots L.length).map Spot.d)), none, none, none] = some (.ok ((List.range (allSpots L.length).length).map fun i => PyData.int ((i : Nat) : Int))) := sRng_of (by simp) (by simp [allSpots]; omega)
  simp only [P_l_spot, runFn, g_l_spot, startE]
  generalize (((List.range L.length).map fun i => Spot.lane ((i : Nat) : Int)).map Spot.d) = A at h1 h3
  generalize (((List.range L.length).map fun i => Spot.side ((i : Nat) : Int)).map Spot.d) = B at h2 h3
  by_cases hc : c / 16 % 9 = 1
  · refine ⟨.out, trivial, ?_⟩
    simp [h1, h2, h3, hc, Spot.d]
  · rcases go (List.range (allSpots L.length).length) none none none with ⟨x, hx, g⟩ | ⟨k', y', g⟩
    · refine ⟨x, hx, ?_⟩
      simp [h1, h2, h3, hc, sFor_of hs, g]
    · refine ⟨.out, trivial, ?_⟩
      simp [h1, h2, h3, hc, sFor_of hs, g, Spot.d]
structure Fits (L : List Int) (s : List Spot) : Prop where
  inr : ∀ x ∈ s, inR L.length x = true
  one : ∀ i : Nat, i < L.length → s.count (.lane i) ≤ 1
  fit : ∀ i : Nat, i < L.length → ((s.count (.side i) : Nat) : Int) ≤ room L i
theorem cnt_snoc {s : List Spot} {x y : Spot} : (s ++ [x]).count y = s.count y + (if x = y then 1 else 0) := by
  rw [List.count_append, List.count_singleton]
  congr 1
  by_cases h : x = y
  · simp [h]
  · simp [h]
theorem Fits.snoc {L : List Int} {s : List Spot} {x : Spot} (f : Fits L s) (h : Free L s x) : Fits L (s ++ [x]) := by
  refine ⟨fun y hy => ?_, fun i hi => ?_, fun i hi => ?_⟩
  · rcases List.mem_append.mp hy with hy | hy
    · exact f.inr y hy
    · cases List.mem_singleton.mp hy
      cases x with
      | out => rfl
      | lane p => simp [inR, h.1, h.2.1]
      | side p => simp [inR, h.1, h.2.1]
  · rw [cnt_snoc]
    have h1 := f.one i hi
    by_cases e : x = .lane i
    · subst e
      rw [List.count_eq_zero_of_not_mem h.2.2]
      simp
    · rw [if_neg e]
      exact h1
  · rw [cnt_snoc]
    have h1 := f.fit i hi
    by_cases e : x = .side i
    · subst e
      have := h.2.2
      rw [if_pos rfl]
      omega
    · rw [if_neg e]
      exact h1
theorem imm_d {x : Spot} : imm x.d = true := by cases x <;> rfl
theorem built_go {ns : List Int} {L : List Int} (n0 : 0 < L.length) (n8 : L.length ≤ 8) {a b c d e : Option (Bool × PyData)} : ∀ (is : List Nat) (ws : List Bool) (s : List Spot) (k z : Option (Bool × PyData)), (∀ i ∈ is, i ≤ 100) → Fits L s → ws.length = s.length → ws.length + is.length ≤ 100 →
    ∃ (ws' : List Bool) (s' : List Spot) (k' z' : Option (Bool × PyData)), Fits L s' ∧ ws'.length = s'.length ∧ ws'.length = ws.length + is.length ∧ forGo (bName 9) b2_l_built (is.map fun i => PyData.int ((i : Nat) : Int)) [some (false, scrD ns), a, b, c, d, e, some (true, eL L), some (true, .list (ws.map wD)), some (true, .list (s.map Spot.d)), k, z] =
      some (.nx [some (false, scrD ns), a, b, c, d, e, some (true, eL L), some (true, .list (ws'.map wD)), some (true, .list (s'.map Spot.d)), k', z'])
  | [], ws, s, k, z, _, f, hl, _ => ⟨ws, s, k, z, f, hl, rfl, rfl⟩
  | i :: is, ws, s, k, z, hi, f, hl, hz => by
    have hz' := sizeLine_eq
    have hi' := hi i List.mem_cons_self
    rw [List.length_cons] at hz
    obtain ⟨m, m0, hm⟩ := mixed_t (ns := ns) (k := 10 + i) (by omega) (by omega)
    obtain ⟨x, hx, hs⟩ := spot_t (L := L) (s := s) (c := m / 2) n0 n8
    have hw : ∃ w : Bool, atI [PyData.str "right", PyData.str "left"] (m % 2) = some (wD w) := by
      rcases (show m % 2 = 0 ∨ m % 2 = 1 by omega) with h | h
      · exact ⟨true, by rw [h]; exact atI_0⟩
      · exact ⟨false, by rw [h]; exact atI_1⟩
    obtain ⟨w, hw⟩ := hw
    obtain ⟨ws', s', k', z', f', hl', hn', hg⟩ := built_go n0 n8 (ns := ns) (a := a) (b := b) (c := c) (d := d) (e := e) is (ws ++ [w]) (s ++ [x]) (some (false, .int i)) (some (false, .int m)) (fun j hj => hi j (List.mem_cons_of_mem _ hj)) (f.snoc hx) (by rw [List.length_append, List.length_append, hl]; rfl) (by rw [List.length_append, List.length_singleton]; omega)
    refine ⟨ws', s', k', z', f', hl', by rw [hn', List.length_append, List.length_singleton, List.length_cons]; omega, ?_⟩
    rw [List.map_cons]
    refine (forGo_nx rfl ?_).trans hg
    unfold b2_l_built
    have e1 : sApp 7 (lift2 dIx (liftA dLst (aC (eC (.str "right")) (aC (eC (.str "left")) aN))) (lift2 iMod (eV 10) (eC (.int 2)))) [some (false, scrD ns), a, b, c, d, e, some (true, eL L), some (true, .list (ws.map wD)), some (true, .list (s.map Spot.d)), some (false, .int i), some (false, .int m)] =
        some (.nx [some (false, scrD ns), a, b, c, d, e, some (true, eL L), some (true, .list (ws.map wD ++ [wD w])), some (true, .list (s.map Spot.d)), some (false, .int i), some (false, .int m)]) := sApp_of rfl (by simp [hw]) (by rw [List.length_map]; omega)
    have e2 : sApp 8 (eCallR P_l_spot (aC (noD (rV 6)) (aC (noD (rV 8)) (aC (lift2 iDiv (eV 10) (eC (.int 2))) aN)))) [some (false, scrD ns), a, b, c, d, e, some (true, eL L), some (true, .list (ws.map wD ++ [wD w])), some (true, .list (s.map Spot.d)), some (false, .int i), some (false, .int m)] =
        some (.nx [some (false, scrD ns), a, b, c, d, e, some (true, eL L), some (true, .list (ws.map wD ++ [wD w])), some (true, .list (s.map Spot.d ++ [x.d])), some (false, .int i), some (false, .int m)]) := sApp_of rfl (by simp [hs, imm_d]) (by rw [List.length_map]; omega)
    simp [hm, e1, e2]
theorem lane_t {ns R : List Int} {n : Nat} (hn : n ≤ 8) (hR : R.length = 8) (hr : ∀ r ∈ R, 0 ≤ r ∧ r ≤ 4) {a b d e f g h : Option (Bool × PyData)} :
    ∃ L : List Int, L.length = n ∧ (∀ r ∈ L, 0 ≤ r ∧ r ≤ 4) ∧ c1_l_built [some (false, scrD ns), a, b, some (false, .int n), d, some (false, .list (R.map .int)), e, f, g, h, none] = some (.ok (.list (L.map .int))) := by
  obtain ⟨L, h1, h2, h3⟩ := lcGo_ex (st := lcStep (bName 9) tYesE (lift2 dIx (eV 5) (lift2 iMod (eCall P_l_mixed false (aC (eV 0) (aC (lift2 iAdd (eC (.int 2)) (eV 9)) aN))) (eC (.int 8)))) (wipeE [some (false, scrD ns), a, b, some (false, .int n), d, some (false, .list (R.map .int)), e, f, g, h, none] [9]))
    (e := fun i => PyData.int ((i : Nat) : Int)) (k := PyData.int) (p := fun r : Int => 0 ≤ r ∧ r ≤ 4) (xs := List.range n) (fun i hi => by
      have hi' := List.mem_range.mp hi
      obtain ⟨m, m0, hm⟩ := mixed_t (ns := ns) (k := 2 + i) (by omega) (by omega)
      have q := atI_map (f := PyData.int) (xs := R) (i := m % 8) (by omega) (by omega)
      exact ⟨R[(m % 8).toNat]'(by omega), hr _ (List.getElem_mem _), step_yes rfl (by simp [hm, q])⟩)
  refine ⟨L, by rw [h1, List.length_range], h2, eLC_of (sRng_of (n := n) rfl (by omega)) h3⟩
def Small (n k : Nat) : Prop := (n ≤ 4 ∧ k ≤ 3) ∨ (n ≤ 8 ∧ k ≤ 2) ∨ (n ≤ 3 ∧ k ≤ 6)
def rooms1 : List Int := [0, 1, 0, 2, 1, 0, 3, 4]
def rooms2 : List Int := [0, 0, 0, 0, 1, 0, 0, 0]
theorem built_t {ns : List Int} : ∃ L ws s, Valid L ws s ∧ Small L.length ws.length ∧ P_l_built [scrD ns] = some (.ok (false, .tuple [eL L, eW ws, eS s])) := by
  have a0 := cell_at_t' (ns := ns) (i := 0) (by omega)
  have a1 := cell_at_t' (ns := ns) (i := 1) (by omega)
  generalize cell ns (0 : Int).toNat = x0 at a0
  generalize cell ns (1 : Int).toNat = x1 at a1
  -- what stands behind, for so many places and trains and such rooms
  have rest : ∀ (n k : Nat) (R : List Int), 1 ≤ n → n ≤ 8 → 1 ≤ k → k ≤ 6 → R = rooms1 ∨ R = rooms2 → ∃ L ws s, Valid L ws s ∧ L.length = n ∧ ws.length = k ∧
      c1_l_built [some (false, scrD ns), some (false, .int x0), some (false, .int x1), some (false, .int n), some (false, .int k), some (false, .list (R.map .int)), none, none, none, none, none] = some (.ok (eL L)) ∧
      ∃ k' z', forGo (bName 9) b2_l_built ((List.range k).map fun i => PyData.int ((i : Nat) : Int)) [some (false, scrD ns), some (false, .int x0), some (false, .int x1), some (false, .int n), some (false, .int k), some (false, .list (R.map .int)), some (true, eL L), some (true, .list []), some (true, .list []), none, none] =
        some (.nx [some (false, scrD ns), some (false, .int x0), some (false, .int x1), some (false, .int n), some (false, .int k), some (false, .list (R.map .int)), some (true, eL L), some (true, eW ws), some (true, .list (s.map Spot.d)), k', z']) := by
    intro n k R n1 n8 k1 k6 hR
    obtain ⟨L, l1, l2, l3⟩ := lane_t (ns := ns) (R := R) (n := n) n8 (by rcases hR with rfl | rfl <;> rfl) (by rcases hR with rfl | rfl <;> decide) (a := some (false, .int x0)) (b := some (false, .int x1)) (d := some (false, .int k)) (e := none) (f := none) (g := none) (h := none)
    have f0 : Fits L [] := by
      refine ⟨(by intro x h; cases h), fun i hi => by simp, fun i hi => ?_⟩
      have e : room L i = L[i] := by
        unfold room
        rw [List.getD_eq_getElem?_getD, Int.toNat_natCast, List.getElem?_eq_getElem hi]
        rfl
      rw [e]
      have := (l2 L[i] (List.getElem_mem _)).1
      simpa using this
    obtain ⟨ws, s, k', z', f, e1, e2, g⟩ := built_go (ns := ns) (L := L) (a := some (false, .int x0)) (b := some (false, .int x1)) (c := some (false, .int n)) (d := some (false, .int k)) (e := some (false, .list (R.map .int))) (by omega) (by omega) (List.range k) [] [] none none (fun i hi => by have := List.mem_range.mp hi; omega) f0 rfl (by simp; omega)
    rw [List.length_range, List.length_nil, Nat.zero_add] at e2
    exact ⟨L, ws, s, ⟨by omega, by omega, l2, by omega, by omega, by omega, f.inr, f.one, f.fit⟩, l1, e2, l3, k', z', g⟩
  have hR : ∃ R : List Int, (R = rooms1 ∨ R = rooms2) ∧ (if 0 < x1 / 3 % 3 then (1 : Int) else 0) = (if 0 < x1 / 3 % 3 then 1 else 0) ∧ atI [PyData.list (rooms1.map .int), PyData.list (rooms2.map .int)] (if 0 < x1 / 3 % 3 then (1 : Int) else 0) = some (.list (R.map .int)) := by
    by_cases h : 0 < x1 / 3 % 3
    · exact ⟨rooms2, .inr rfl, rfl, by rw [if_pos h]; exact atI_1⟩
    · exact ⟨rooms1, .inl rfl, rfl, by rw [if_neg h]; exact atI_0⟩
  obtain ⟨R, hR1, _, hR2⟩ := hR
  have er1 : rooms1.map PyData.int = [.int 0, .int 1, .int 0, .int 2, .int 1, .int 0, .int 3, .int 4] := rfl
  have er2 : rooms2.map PyData.int = [.int 0, .int 0, .int 0, .int 0, .int 1, .int 0, .int 0, .int 0] := rfl
  rw [er1, er2] at hR2
  have hs : ∀ (n k : Nat) (X Y Z : PyData), k ≤ 6 → sRng (eV 4) [some (false, scrD ns), some (false, .int x0), some (false, .int x1), some (false, .int n), some (false, .int k), some (false, .list (R.map .int)), some (true, X), some (true, Y), some (true, Z), none, none] = some (.ok ((List.range k).map fun i => PyData.int ((i : Nat) : Int))) := fun n k X Y Z h => sRng_of rfl (by omega)
  by_cases h1 : x0 / 4 % 8 = 1
  · obtain ⟨n, hn⟩ : ∃ n : Nat, 5 + x0 / 32 % 4 = (n : Int) := ⟨(5 + x0 / 32 % 4).toNat, by omega⟩
    obtain ⟨k, hk⟩ : ∃ k : Nat, 1 + x1 % 2 = (k : Int) := ⟨(1 + x1 % 2).toNat, by omega⟩
    obtain ⟨L, ws, s, v, e1, e2, e3, k', z', e4⟩ := rest n k R (by omega) (by omega) (by omega) (by omega) hR1
    refine ⟨L, ws, s, v, .inr (.inl ⟨by omega, by omega⟩), ?_⟩
    have h2 : ¬ x0 / 4 % 8 = 2 := by omega
    simp only [P_l_built, runFn, g_l_built, startE]
    simp [a0, a1, h1, hn, hk, hR2, e3, sFor_of (hs n k _ _ _ (by omega)), e4]
    rfl
  · by_cases h2 : x0 / 4 % 8 = 2
    · obtain ⟨n, hn⟩ : ∃ n : Nat, 1 + x0 / 32 % 3 = (n : Int) := ⟨(1 + x0 / 32 % 3).toNat, by omega⟩
      obtain ⟨k, hk⟩ : ∃ k : Nat, 4 + x1 % 3 = (k : Int) := ⟨(4 + x1 % 3).toNat, by omega⟩
      obtain ⟨L, ws, s, v, e1, e2, e3, k', z', e4⟩ := rest n k R (by omega) (by omega) (by omega) (by omega) hR1
      refine ⟨L, ws, s, v, .inr (.inr ⟨by omega, by omega⟩), ?_⟩
      simp only [P_l_built, runFn, g_l_built, startE]
      simp [a0, a1, h1, h2, hn, hk, hR2, e3, sFor_of (hs n k _ _ _ (by omega)), e4]
      rfl
    · obtain ⟨n, hn⟩ : ∃ n : Nat, 1 + x0 % 4 = (n : Int) := ⟨(1 + x0 % 4).toNat, by omega⟩
      obtain ⟨k, hk⟩ : ∃ k : Nat, 1 + x1 % 3 = (k : Int) := ⟨(1 + x1 % 3).toNat, by omega⟩
      obtain ⟨L, ws, s, v, e1, e2, e3, k', z', e4⟩ := rest n k R (by omega) (by omega) (by omega) (by omega) hR1
      refine ⟨L, ws, s, v, .inl ⟨by omega, by omega⟩, ?_⟩
      simp only [P_l_built, runFn, g_l_built, startE]
      simp [a0, a1, h1, h2, hn, hk, hR2, e3, sFor_of (hs n k _ _ _ (by omega)), e4]
      rfl
end DS
namespace DS
open PySem PySem.Spec PyProof.Rows L2
theorem mem_movesAt {L : List Int} {ws : List Bool} {s : List Spot} {i : Nat} {q : Step} (h : q ∈ movesAt L ws s i) : ∃ (m : Mv) (b : Bool) (x g : Spot), ws[i]? = some b ∧ s[i]? = some x ∧ goalOf L b s x m = some g ∧ q = ((m, i), s.set i g) := by
  unfold movesAt at h
  split at h
  · rename_i b x hb hx
    obtain ⟨m, _, hm⟩ := List.mem_filterMap.mp h
    obtain ⟨g, hg, rfl⟩ := Option.map_eq_some_iff.mp hm
    exact ⟨m, b, x, g, hb, hx, hg, rfl⟩
  · cases h
theorem movesAt_mem {L : List Int} {ws : List Bool} {s : List Spot} {i : Nat} {m : Mv} {b : Bool} {x g : Spot} (hb : ws[i]? = some b) (hx : s[i]? = some x) (hg : goalOf L b s x m = some g) : ((m, i), s.set i g) ∈ movesAt L ws s i := by
  unfold movesAt
  rw [hb, hx]
  refine List.mem_filterMap.mpr ⟨m, ?_, ?_⟩
  · cases m <;> simp
  · rw [hg]
    rfl
theorem mem_movesOf {L : List Int} {ws : List Bool} {s : List Spot} {q : Step} (h : q ∈ movesOf L ws s) : ∃ (i : Nat) (m : Mv) (b : Bool) (x g : Spot), ws[i]? = some b ∧ s[i]? = some x ∧ goalOf L b s x m = some g ∧ q = ((m, i), s.set i g) := by
  obtain ⟨i, _, h⟩ := List.mem_flatMap.mp h
  exact ⟨i, mem_movesAt h⟩
theorem movesOf_mem {L : List Int} {ws : List Bool} {s : List Spot} {i : Nat} {m : Mv} {b : Bool} {x g : Spot} (hb : ws[i]? = some b) (hx : s[i]? = some x) (hg : goalOf L b s x m = some g) : ((m, i), s.set i g) ∈ movesOf L ws s :=
  List.mem_flatMap.mpr ⟨i, List.mem_range.mpr (List.getElem?_eq_some_iff.mp hb).1, movesAt_mem hb hx hg⟩
theorem nextSpot_cases {n : Nat} {b : Bool} {p : Int} : nextSpot n b p = .out ∨ ∃ q, nextSpot n b p = .lane q ∧ 0 ≤ q ∧ q < n := by
  unfold nextSpot
  generalize (if b = true then p + 1 else p - 1) = g
  by_cases h : 0 ≤ g ∧ g < (n : Int)
  · rw [if_pos h]
    exact .inr ⟨g, rfl, h.1, h.2⟩
  · rw [if_neg h]
    exact .inl rfl
theorem wayLeft_next {n : Nat} {b : Bool} {p : Int} (h0 : 0 ≤ p) (h1 : p < n) : wayLeft n b (nextSpot n b p) = wayLeft n b (.lane p) - 1 := by
  unfold nextSpot
  cases b with
  | true =>
    simp only [if_true]
    by_cases h : 0 ≤ p + 1 ∧ p + 1 < (n : Int)
    · rw [if_pos h]
      simp only [wayLeft, if_true]
      omega
    · rw [if_neg h]
      simp only [wayLeft, if_true]
      omega
  | false =>
    simp only [Bool.false_eq_true, if_false]
    by_cases h : 0 ≤ p - 1 ∧ p - 1 < (n : Int)
    · rw [if_pos h]
      simp only [wayLeft, Bool.false_eq_true, if_false]
      omega
    · rw [if_neg h]
      simp only [wayLeft, Bool.false_eq_true, if_false]
      omega
theorem ahead_some {n : Nat} {b : Bool} {s : List Spot} {p : Int} {g : Spot} (h : ahead n b s p = some g) : g = nextSpot n b p ∧ (g = .out ∨ g ∉ s) := by
  unfold ahead at h
  split at h
  · cases h
  · rename_i hn
    cases h
    refine ⟨rfl, ?_⟩
    by_cases e : nextSpot n b p = .out
    · exact .inl e
    · exact .inr fun hm => hn ⟨e, hm⟩
theorem goalOf_cases {L : List Int} {b : Bool} {s : List Spot} {x g : Spot} {m : Mv} (h : goalOf L b s x m = some g) :
    (m = .aside ∧ ∃ p, x = .lane p ∧ g = .side p ∧ ((s.count (.side p) : Nat) : Int) < room L p) ∨ (m = .go ∧ ∃ p, x = .lane p ∧ ahead L.length b s p = some g) ∨ (m = .on ∧ ∃ p, x = .side p ∧ ahead L.length b s p = some g) := by
  unfold goalOf at h
  split at h
  · split at h
    · rename_i p
      split at h
      · rename_i hc
        cases h
        exact .inl ⟨rfl, p, rfl, rfl, hc⟩
      · cases h
    · cases h
  · split at h
    · rename_i p
      exact .inr (.inl ⟨rfl, p, rfl, h⟩)
    · cases h
  · split at h
    · rename_i p
      exact .inr (.inr ⟨rfl, p, rfl, h⟩)
    · cases h
theorem sum_set {α : Type} {f : α → Int} {a b : α} : ∀ {xs : List α} {i : Nat}, xs[i]? = some a → ((xs.set i b).map f).sum = (xs.map f).sum - f a + f b
  | x :: xs, 0, h => by
    cases h
    simp only [List.set_cons_zero, List.map_cons, List.sum_cons]
    omega
  | x :: xs, i + 1, h => by
    have ih := sum_set (f := f) (b := b) (xs := xs) (i := i) (by simpa using h)
    simp only [List.set_cons_succ, List.map_cons, List.sum_cons, ih]
    omega
  | [], _, h => by simp at h
theorem zip_set {α β : Type} {b : β} : ∀ {xs : List α} {ys : List β} {i : Nat}, xs.zip (ys.set i b) = (match xs[i]? with | some a => (xs.zip ys).set i (a, b) | none => xs.zip ys)
  | [], ys, i => by simp
  | x :: xs, [], i => by
    simp only [List.set_nil, List.zip_nil_right]
    split <;> simp
  | x :: xs, y :: ys, 0 => by simp
  | x :: xs, y :: ys, i + 1 => by
    simp only [List.set_cons_succ, List.zip_cons_cons, List.getElem?_cons_succ, zip_set (xs := xs) (ys := ys) (i := i)]
    split <;> simp
theorem leftOf_set {n : Nat} {ws : List Bool} {s : List Spot} {i : Nat} {b : Bool} {x g : Spot} (hb : ws[i]? = some b) (hx : s[i]? = some x) : leftOf n ws (s.set i g) = leftOf n ws s - wayLeft n b x + wayLeft n b g := by
  unfold leftOf
  rw [zip_set]
  simp only [hb]
  refine sum_set (f := fun q : Bool × Spot => wayLeft n q.1 q.2) (a := (b, x)) (b := (b, g)) ?_
  rw [List.getElem?_zip_eq_some]
  exact ⟨hb, hx⟩
def sideN : Spot → Int
  | .side _ => 1
  | _ => 0
/-- what is left to do: each go, aside, on makes it less -/
def rank (n : Nat) (ws : List Bool) (s : List Spot) : Int := 2 * leftOf n ws s - (s.map sideN).sum
theorem count_set' {s : List Spot} {i : Nat} {x g y : Spot} (hx : s[i]? = some x) : (s.set i g).count y + (if x = y then 1 else 0) = s.count y + (if g = y then 1 else 0) := by
  obtain ⟨hi, e⟩ := List.getElem?_eq_some_iff.mp hx
  rw [List.count_set hi, e]
  have h1 : (x == y) = decide (x = y) := beq_dec x y
  have h2 : (g == y) = decide (g = y) := beq_dec g y
  have hm : x = y → 0 < s.count y := fun h => List.count_pos_iff.mpr (h ▸ e ▸ List.getElem_mem hi)
  rw [h1, h2]
  by_cases a : x = y
  · have := hm a
    simp only [a, decide_true, if_true]
    by_cases c : g = y <;> simp [c] <;> omega
  · by_cases c : g = y <;> simp [a, c]
theorem Valid.fits {L : List Int} {ws : List Bool} {s : List Spot} (v : Valid L ws s) : Fits L s := ⟨v.inr, v.one, v.fit⟩
theorem Fits.set {L : List Int} {s : List Spot} {i : Nat} {x g : Spot} (f : Fits L s) (hx : s[i]? = some x) (hg : Free L s g) : Fits L (s.set i g) := by
  refine ⟨fun y hy => ?_, fun j hj => ?_, fun j hj => ?_⟩
  · rcases List.mem_or_eq_of_mem_set hy with h | rfl
    · exact f.inr y h
    · cases y with
      | out => rfl
      | lane p => simp [inR, hg.1, hg.2.1]
      | side p => simp [inR, hg.1, hg.2.1]
  · have c := count_set' (g := g) (y := .lane (j : Int)) hx
    have h1 := f.one j hj
    by_cases e : g = .lane (j : Int)
    · subst e
      have := List.count_eq_zero_of_not_mem hg.2.2
      rw [if_pos rfl] at c
      omega
    · rw [if_neg e] at c
      omega
  · have c := count_set' (g := g) (y := .side (j : Int)) hx
    have h1 := f.fit j hj
    by_cases e : g = .side (j : Int)
    · subst e
      have := hg.2.2
      rw [if_pos rfl] at c
      omega
    · rw [if_neg e] at c
      omega
theorem Valid.of {L : List Int} {ws : List Bool} {s t : List Spot} (v : Valid L ws s) (hl : t.length = s.length) (f : Fits L t) : Valid L ws t := ⟨v.n1, v.n8, v.rm, v.w1, v.w6, by rw [hl, v.len], f.inr, f.one, f.fit⟩
/-- a move leads to a stand, and makes what is left less -/
theorem move_ok {L : List Int} {ws : List Bool} {s : List Spot} {q : Step} (v : Valid L ws s) (h : q ∈ movesOf L ws s) : Valid L ws q.2 ∧ leftOf L.length ws q.2 = leftOf L.length ws s - (if q.1.1 = .aside then 0 else 1) ∧ rank L.length ws q.2 < rank L.length ws s := by
  obtain ⟨i, m, b, x, g, hb, hx, hg, rfl⟩ := mem_movesOf h
  have hxm : x ∈ s := List.mem_of_getElem? hx
  have hr := v.inr x hxm
  have hs := sum_set (f := sideN) (b := g) hx
  have hl := leftOf_set (n := L.length) (g := g) hb hx
  have ahd : ∀ p, (x = .lane p ∨ x = .side p) → ahead L.length b s p = some g → Free L s g ∧ wayLeft L.length b g = wayLeft L.length b x - 1 ∧ sideN g = 0 := by
    intro p hp ha
    obtain ⟨rfl, h2⟩ := ahead_some ha
    have hp' : 0 ≤ p ∧ p < L.length := by
      rcases hp with rfl | rfl <;> simpa [inR] using hr
    have e : wayLeft L.length b x = wayLeft L.length b (.lane p) := by rcases hp with rfl | rfl <;> rfl
    rw [e]
    refine ⟨?_, wayLeft_next hp'.1 hp'.2, ?_⟩
    · rcases nextSpot_cases (n := L.length) (b := b) (p := p) with e | ⟨r, e, r0, r1⟩
      · rw [e]
        exact trivial
      · rw [e] at h2 ⊢
        exact ⟨r0, r1, h2.resolve_left (by intro z; cases z)⟩
    · rcases nextSpot_cases (n := L.length) (b := b) (p := p) with e | ⟨r, e, _, _⟩ <;> (rw [e]; rfl)
  unfold rank
  rcases goalOf_cases hg with ⟨rfl, p, rfl, rfl, hc⟩ | ⟨rfl, p, rfl, ha⟩ | ⟨rfl, p, rfl, ha⟩
  · have hr' : 0 ≤ p ∧ p < L.length := by simpa [inR] using hr
    refine ⟨v.of (by simp) (v.fits.set hx ⟨hr'.1, hr'.2, hc⟩), ?_, ?_⟩
    · simp only [hl, wayLeft, if_true]
      omega
    · simp only [hl, hs, wayLeft, sideN]
      omega
  · obtain ⟨h1, h2, h3⟩ := ahd p (.inl rfl) ha
    refine ⟨v.of (by simp) (v.fits.set hx h1), ?_, ?_⟩
    · rw [if_neg (by intro z; cases z)]
      simp only [hl, h2]
      omega
    · have e : sideN (.lane p) = 0 := rfl
      rw [hl, hs, h2, h3, e]
      omega
  · obtain ⟨h1, h2, h3⟩ := ahd p (.inr rfl) ha
    refine ⟨v.of (by simp) (v.fits.set hx h1), ?_, ?_⟩
    · rw [if_neg (by intro z; cases z)]
      simp only [hl, h2]
      omega
    · have e : sideN (.side p) = 1 := rfl
      rw [hl, hs, h2, h3, e]
      omega
theorem wayLeft_bounds {n : Nat} {b : Bool} {x : Spot} (h : inR n x = true) : sideN x ≤ wayLeft n b x ∧ 0 ≤ sideN x ∧ wayLeft n b x ≤ n := by
  cases x with
  | out => simp [wayLeft, sideN]
  | lane p =>
    have h' : 0 ≤ p ∧ p < n := by simpa [inR] using h
    cases b <;> simp [wayLeft, sideN] <;> omega
  | side p =>
    have h' : 0 ≤ p ∧ p < n := by simpa [inR] using h
    cases b <;> simp [wayLeft, sideN] <;> omega
theorem rank_bounds {n : Nat} : ∀ {ws : List Bool} {s : List Spot}, s.length = ws.length → (∀ x ∈ s, inR n x = true) → 0 ≤ (s.map sideN).sum ∧ (s.map sideN).sum ≤ leftOf n ws s ∧ leftOf n ws s ≤ n * ws.length
  | [], [], _, _ => by simp [leftOf]
  | b :: ws, x :: s, hl, hr => by
    have ih := rank_bounds (n := n) (ws := ws) (s := s) (by simpa using hl) fun y hy => hr y (List.mem_cons_of_mem _ hy)
    have h := wayLeft_bounds (b := b) (hr x List.mem_cons_self)
    have e : leftOf n (b :: ws) (x :: s) = wayLeft n b x + leftOf n ws s := rfl
    have e2 : (n : Int) * ((b :: ws).length : Nat) = n * (ws.length : Nat) + n := by
      rw [List.length_cons, Int.natCast_add, Int.mul_add]
      simp
    rw [e, e2, List.map_cons, List.sum_cons]
    omega
  | [], _ :: _, h, _ => by simp at h
  | _ :: _, [], h, _ => by simp at h
theorem rank_nn {n : Nat} {ws : List Bool} {s : List Spot} (hl : s.length = ws.length) (hr : ∀ x ∈ s, inR n x = true) : 0 ≤ rank n ws s := by
  have := rank_bounds (n := n) hl hr
  unfold rank
  omega
end DS
namespace DS
open PySem PySem.Spec PyProof.Rows L2
class Ky (α : Type) [DecidableEq α] [En α] where
  k : α → NestedKey
  nk_d : ∀ a : α, nk (En.d a) = some (k a)
  inj : ∀ a b : α, k a = k b → a = b
  dep : ∀ a : α, (k a).depth ≤ 8
  tup : ∀ a : α, ∃ ds, En.d a = .tuple ds
section
variable {α β : Type} [DecidableEq α] [En α] [Ky α]
theorem kOk_d (a : α) : kOk (En.d a) = some (Ky.k a) := by
  obtain ⟨ds, e⟩ := Ky.tup a
  have h := Ky.nk_d a
  rw [e] at h ⊢
  simp only [kOk, h, Ky.dep, if_true]
/-- a dict by typed keys -/
def dD (g : β → PyData) (F : List (α × β)) : List (PyData × PyData) := F.map fun p => (En.d p.1, g p.2)
@[simp] theorem dD_scr {g : β → PyData} {F : List (α × β)} : isScr (dD g F) = false := by
  cases F with
  | nil => rfl
  | cons p F =>
    obtain ⟨ds, e⟩ := Ky.tup p.1
    simp only [dD, List.map_cons, e, isScr]
def look (F : List (α × β)) (a : α) : Option β := (F.find? fun p => decide (p.1 = a)).map (·.2)
theorem kAt_dD {g : β → PyData} {a : α} : ∀ {F : List (α × β)}, kAt (dD g F) (Ky.k a) = (look F a).map g
  | [] => rfl
  | p :: F => by
    have ih := kAt_dD (g := g) (a := a) (F := F)
    unfold kAt look dD at ih ⊢
    have e : decide (nk (En.d p.1) = some (Ky.k a)) = decide (p.1 = a) := decide_eq_decide.mpr (by rw [Ky.nk_d]; exact ⟨fun h => Ky.inj _ _ (Option.some.inj h), fun h => by rw [h]⟩)
    rw [List.map_cons, List.find?_cons, List.find?_cons]
    simp only [e]
    by_cases h : p.1 = a
    · simp [h]
    · simp only [h, decide_false]
      exact ih
theorem look_none {F : List (α × β)} {a : α} : (look F a).isSome = decide (a ∈ F.map (·.1)) := by
  unfold look
  rw [Option.isSome_map, Bool.eq_iff_iff, List.find?_isSome, decide_eq_true_eq]
  simp only [decide_eq_true_eq, List.mem_map]
@[simp] theorem dIn_dD {n : Bool} {g : β → PyData} {F : List (α × β)} {a : α} : dIn n (En.d a) (.dict (dD g F)) = some (.bool (if n then !decide (a ∈ F.map (·.1)) else decide (a ∈ F.map (·.1)))) := by
  unfold dIn
  simp only [dD_scr, Bool.false_eq_true, if_false, kOk_d, Option.map_some, kAt_dD, Option.isSome_map, look_none]
theorem dIx_dD {g : β → PyData} {F : List (α × β)} {a : α} : dIx (.dict (dD g F)) (En.d a) = (look F a).map g := by
  obtain ⟨ds, e⟩ := Ky.tup a
  have h := kOk_d a
  rw [← kAt_dD (g := g)]
  rw [e] at h ⊢
  unfold dIx
  simp only [dD_scr, Bool.false_eq_true, if_false, h, Option.bind_some]
theorem putD_new {g : β → PyData} {F : List (α × β)} {a : α} {b : β} (h : a ∉ F.map (·.1)) : putD (dD g F) (Ky.k a) (En.d a) (g b) = dD g (F ++ [(a, b)]) := by
  unfold putD
  rw [kAt_dD, Option.isSome_map, look_none, decide_eq_false h]
  simp [dD]
theorem dLen_dD {g : β → PyData} {F : List (α × β)} : dLen (.dict (dD g F)) = some (.int F.length) := by
  cases F with
  | nil => rfl
  | cons p F =>
    obtain ⟨ds, e⟩ := Ky.tup p.1
    simp [dLen, dD, e, isScr]
theorem dLstD_dD {g : β → PyData} {F : List (α × β)} : dLstD (.dict (dD g F)) = some (.list ((F.map (·.1)).map En.d)) := by
  show (if isScr (dD g F) = true then none else some (PyData.list ((dD g F).map (·.1)))) = _
  rw [dD_scr]
  simp only [Bool.false_eq_true, if_false]
  unfold dD
  rw [List.map_map, List.map_map]
  rfl
theorem dItems_dD {g : β → PyData} {F : List (α × β)} : dItems (.dict (dD g F)) = some (.list (F.map fun p => .tuple [En.d p.1, g p.2])) := by
  show (if isScr (dD g F) = true then none else some (PyData.list ((dD g F).map fun p => PyData.tuple [p.1, p.2]))) = _
  rw [dD_scr]
  simp only [Bool.false_eq_true, if_false]
  unfold dD
  rw [List.map_map]
  rfl
theorem mkD_dD {g : β → PyData} : ∀ {G F : List (α × β)}, ((F ++ G).map (·.1)).Nodup → mkD (G.map fun p => .tuple [En.d p.1, g p.2]) (dD g F) = some (dD g (F ++ G))
  | [], F, _ => by simp [mkD]
  | p :: G, F, h => by
    rw [List.map_cons]
    unfold mkD
    simp only [kOk_d]
    have hn : p.1 ∉ F.map (·.1) := by
      rw [List.map_append, List.map_cons, List.nodup_append] at h
      exact fun hm => h.2.2 _ hm _ List.mem_cons_self rfl
    rw [putD_new hn, mkD_dD (by rw [List.append_assoc]; exact h), List.append_assoc]
    rfl
theorem dDict_dD {g : β → PyData} {G : List (α × β)} (h : (G.map (·.1)).Nodup) : dDict (.list (G.map fun p => .tuple [En.d p.1, g p.2])) = some (.dict (dD g G)) := by
  have e : mkD (G.map fun p => PyData.tuple [En.d p.1, g p.2]) [] = some (dD g ([] ++ G)) := mkD_dD (g := g) (G := G) (F := []) h
  unfold dDict
  simp only [e]
  rfl
end
def spotK : Spot → NestedKey
  | .out => .tup [.text "out"]
  | .lane p => .tup [.text "lane", .num p]
  | .side p => .tup [.text "side", .num p]
theorem spotK_inj : ∀ a b : Spot, spotK a = spotK b → a = b := by
  intro a b h
  cases a <;> cases b <;> simp only [spotK, NestedKey.tup.injEq, List.cons.injEq, NestedKey.text.injEq, NestedKey.num.injEq, and_true, reduceCtorEq, and_false, false_and] at h ⊢ <;> first | (rw [h.2]; done) | exact absurd h.1 n_ls | exact absurd h.1 n_sl | trivial
theorem nks_map {α : Type} {d : α → PyData} {k : α → NestedKey} (h : ∀ a, nk (d a) = some (k a)) : ∀ xs : List α, nks (xs.map d) = some (xs.map k)
  | [] => rfl
  | x :: xs => by
    rw [List.map_cons, nks, h x, nks_map h xs]
    rfl
theorem nk_spot (a : Spot) : nk a.d = some (spotK a) := by cases a <;> simp [Spot.d, nk, nks, spotK]
theorem depK_all {k : Spot → NestedKey} (h : ∀ a, (k a).depth ≤ 1) : ∀ xs : List Spot, NestedKey.depthAll (xs.map k) ≤ 1
  | [] => Nat.zero_le _
  | x :: xs => by
    rw [List.map_cons, NestedKey.depthAll]
    exact Nat.max_le.mpr ⟨h x, depK_all h xs⟩
instance : En (List Spot) where
  d := eS
  eqv a b := by
    show PyData.eqv (.tuple (a.map En.d)) (.tuple (b.map En.d)) = _
    rw [PyData.eqv, eqvAll_en]
  lay a := by
    show PyData.canLay0 (.tuple (a.map En.d)) = true
    rw [PyData.canLay0, layAll_map]
  dep a := by
    show PyData.depth (.tuple (a.map En.d)) ≤ 8
    rw [PyData.depth]
    have h : ∀ xs : List Spot, PyData.depthAll (xs.map En.d) ≤ 1 := by
      intro xs
      induction xs with
      | nil => exact Nat.zero_le _
      | cons x xs ih =>
        rw [List.map_cons, PyData.depthAll]
        refine Nat.max_le.mpr ⟨?_, ih⟩
        cases x <;> simp [Spot.d, PyData.depth, PyData.depthAll]
    have := h a
    omega
@[simp] theorem enSt (a : List Spot) : (En.d a : PyData) = eS a := rfl
instance : Ky (List Spot) where
  k a := .tup (a.map spotK)
  nk_d a := by
    show nk (.tuple (a.map Spot.d)) = _
    rw [nk, nks_map nk_spot]
    rfl
  inj a b h := by
    simp only [NestedKey.tup.injEq] at h
    exact List.map_inj_right (fun x y e => spotK_inj x y e) |>.mp h
  dep a := by
    rw [NestedKey.depth]
    have := depK_all (k := spotK) (fun a => by cases a <;> simp [spotK, NestedKey.depth, NestedKey.depthAll]) a
    omega
  tup a := ⟨_, rfl⟩
def mvK (m : Move) : NestedKey := .tup [.text (match m.1 with | .go => "go" | .aside => "aside" | .on => "on"), .num m.2]
theorem n_ga : ¬ (("go" : Str) = "aside") := by decide +kernel
theorem n_go : ¬ (("go" : Str) = "on") := by decide +kernel
theorem n_ag : ¬ (("aside" : Str) = "go") := by decide +kernel
theorem n_ao : ¬ (("aside" : Str) = "on") := by decide +kernel
theorem n_og : ¬ (("on" : Str) = "go") := by decide +kernel
theorem n_oa : ¬ (("on" : Str) = "aside") := by decide +kernel
@[simp] theorem enMv (a : Move) : (En.d a : PyData) = mvD a := rfl
instance : Ky Move where
  k := mvK
  nk_d a := by
    obtain ⟨m, i⟩ := a
    cases m <;> simp [mvD, Mv.d, nk, nks, mvK]
  inj a b h := by
    obtain ⟨m, i⟩ := a
    obtain ⟨m', j⟩ := b
    simp only [mvK, NestedKey.tup.injEq, List.cons.injEq, NestedKey.text.injEq, NestedKey.num.injEq, and_true] at h
    have e : i = j := by omega
    subst e
    cases m <;> cases m' <;> first | rfl | exact absurd h.1 n_ga | exact absurd h.1 n_go | exact absurd h.1 n_ag | exact absurd h.1 n_ao | exact absurd h.1 n_og | exact absurd h.1 n_oa
  dep a := by
    simp [mvK, NestedKey.depth, NestedKey.depthAll]
  tup a := ⟨_, rfl⟩
end DS
namespace DS
open PySem PySem.Spec PyProof.Rows L2
def wlAt (n : Nat) (ws : List Bool) (s : List Spot) (i : Nat) : Int := match ws[i]?, s[i]? with | some b, some x => wayLeft n b x | _, _ => 0
theorem wl_sum {n : Nat} : ∀ {ws : List Bool} {s : List Spot}, s.length = ws.length → ((List.range s.length).map (wlAt n ws s)).sum = leftOf n ws s := by
  intro ws s h
  unfold leftOf
  congr 1
  apply List.ext_getElem?
  intro i
  rw [List.getElem?_map, List.getElem?_map]
  by_cases hi : i < s.length
  · have h1 : s[i]? = some s[i] := List.getElem?_eq_getElem hi
    have h2 : ws[i]? = some (ws[i]'(by omega)) := List.getElem?_eq_getElem (by omega)
    have h3 : (ws.zip s)[i]? = some (ws[i]'(by omega), s[i]) := List.getElem?_zip_eq_some.mpr ⟨h2, h1⟩
    rw [List.getElem?_range hi, h3]
    simp only [Option.map_some, wlAt, h1, h2]
  · rw [List.getElem?_eq_none (by simp; omega), List.getElem?_eq_none (by simp; omega)]
    rfl
theorem law_left_t {L : List Int} {ws : List Bool} {s : List Spot} (hl : s.length = ws.length) (hz : s.length ≤ 1000) : P_l_left [eL L, eW ws, eS s] = some (.ok (false, .int (leftOf L.length ws s))) := by
  have go : ∀ (is : List Nat) (t : Int) (k : Option (Bool × PyData)), (∀ i ∈ is, i < s.length) → ∃ k', forGo (bName 4) b1_l_left (is.map fun i => PyData.int ((i : Nat) : Int)) [some (false, eL L), some (false, eW ws), some (false, eS s), some (false, .int t), k] =
      some (.nx [some (false, eL L), some (false, eW ws), some (false, eS s), some (false, .int (t + (is.map (wlAt L.length ws s)).sum)), k']) := by
    intro is
    induction is with
    | nil => exact fun t k _ => ⟨k, by simp⟩
    | cons i is ih =>
      intro t k h
      have hi := h i List.mem_cons_self
      have h1 : s[i]? = some s[i] := List.getElem?_eq_getElem hi
      have h2 : ws[i]? = some (ws[i]'(by omega)) := List.getElem?_eq_getElem (by omega)
      have e1 := atI_at (f := Spot.d) h1
      have e2 := atI_at (f := wD) h2
      generalize s[i] = x at h1 e1
      generalize ws[i]'(by omega) = b at h2 e2
      obtain ⟨k', hk⟩ := ih (t + wayLeft L.length b x) (some (false, .int i)) fun j hj => h j (List.mem_cons_of_mem _ hj)
      refine ⟨k', ?_⟩
      have e3 : wlAt L.length ws s i = wayLeft L.length b x := by simp only [wlAt, h1, h2]
      rw [List.map_cons, List.map_cons, List.sum_cons, e3, ← Int.add_assoc]
      refine (forGo_nx rfl ?_).trans hk
      unfold b1_l_left
      cases x with
      | out => simp [e1, Spot.d, wayLeft]
      | lane p => cases b <;> simp [e1, e2, Spot.d, wayLeft]
      | side p => cases b <;> simp [e1, e2, Spot.d, wayLeft]
  obtain ⟨k', hk⟩ := go (List.range s.length) 0 none fun i hi => List.mem_range.mp hi
  rw [wl_sum hl, Int.zero_add] at hk
  have hs : sRng (lift1 dLen (eV 2)) [some (false, eL L), some (false, eW ws), some (false, eS s), some (false, .int 0), none] = some (.ok ((List.range s.length).map fun i => PyData.int ((i : Nat) : Int))) := sRng_of (by simp) (by omega)
  simp only [P_l_left, runFn, g_l_left, startE]
  simp [sFor_of hs, hk]
theorem laneI_in {p : Int} {s : List Spot} {n : Bool} : dIn n (.tuple [.str "lane", .int p]) (eS s) = some (.bool (if n then !decide (Spot.lane p ∈ s) else decide (Spot.lane p ∈ s))) := dIn_tupE (Spot.lane p) s
theorem none_stuck {L : List Int} {ws : List Bool} {s : List Spot} (h : movesOf L ws s = []) {i : Nat} {b : Bool} {x : Spot} (hb : ws[i]? = some b) (hx : s[i]? = some x) (m : Mv) : goalOf L b s x m = none := by
  cases hg : goalOf L b s x m with
  | none => rfl
  | some g =>
    have := movesOf_mem hb hx hg
    rw [h] at this
    cases this
theorem ahead_none {n : Nat} {b : Bool} {s : List Spot} {p : Int} (h : ahead n b s p = none) : Spot.lane (if b = true then p + 1 else p - 1) ∈ s := by
  unfold ahead at h
  split at h
  · rename_i hn
    unfold nextSpot at hn
    by_cases e : 0 ≤ (if b = true then p + 1 else p - 1) ∧ (if b = true then p + 1 else p - 1) < (n : Int)
    · rw [if_pos e] at hn
      exact hn.2
    · rw [if_neg e] at hn
      exact absurd rfl hn.1
  · cases h
theorem stuck_t {L : List Int} {ws : List Bool} {s : List Spot} (v : Valid L ws s) (hn : movesOf L ws s = []) : P_l_stuck [eL L, eW ws, eS s] = some (.ok (false, .bool true)) := by
  have hl := v.len
  have go : ∀ (is : List Nat) (k g : Option (Bool × PyData)), (∀ i ∈ is, i < s.length) → ∃ k' g', forGo (bName 3) b1_l_stuck (is.map fun i => PyData.int ((i : Nat) : Int)) [some (false, eL L), some (false, eW ws), some (false, eS s), k, g] =
      some (.nx [some (false, eL L), some (false, eW ws), some (false, eS s), k', g']) := by
    intro is
    induction is with
    | nil => exact fun k g _ => ⟨k, g, rfl⟩
    | cons i is ih =>
      intro k g h
      have hi := h i List.mem_cons_self
      have h1 : s[i]? = some s[i] := List.getElem?_eq_getElem hi
      have h2 : ws[i]? = some (ws[i]'(by omega)) := List.getElem?_eq_getElem (by omega)
      have e1 := atI_at (f := Spot.d) h1
      have e2 := atI_at (f := wD) h2
      have hr := v.inr _ (List.mem_of_getElem? h1)
      generalize s[i] = x at h1 e1 hr
      generalize ws[i]'(by omega) = b at h2 e2
      have st := none_stuck hn h2 h1
      cases x with
      | out =>
        obtain ⟨k', g', hk⟩ := ih (some (false, .int i)) g fun j hj => h j (List.mem_cons_of_mem _ hj)
        refine ⟨k', g', ?_⟩
        rw [List.map_cons]
        refine (forGo_ct rfl ?_).trans hk
        simp [b1_l_stuck, e1, Spot.d]
      | lane p =>
        have a := ahead_none (st .go)
        have c : ¬ (((s.count (.side p) : Nat) : Int) < room L p) := fun hc => by
          have := st .aside
          simp only [goalOf, if_pos hc] at this
          cases this
        have hr' : 0 ≤ p ∧ p < L.length := by simpa [inR] using hr
        have e3 := atI_room hr'.1 hr'.2
        obtain ⟨k', g', hk⟩ := ih (some (false, .int i)) (some (false, .int (if b = true then p + 1 else p - 1))) fun j hj => h j (List.mem_cons_of_mem _ hj)
        refine ⟨k', g', ?_⟩
        rw [List.map_cons]
        refine (forGo_nx rfl ?_).trans hk
        cases b with
        | true =>
          simp only [if_true] at a
          simp [b1_l_stuck, e1, e2, Spot.d, laneI_in, a, cnt_side, e3, c]
        | false =>
          simp only [Bool.false_eq_true, if_false] at a
          have a' : Spot.lane (p + -1) ∈ s := a
          simp [b1_l_stuck, e1, e2, Spot.d, laneI_in, a', cnt_side, e3, c]
          rfl
      | side p =>
        have a := ahead_none (st .on)
        obtain ⟨k', g', hk⟩ := ih (some (false, .int i)) (some (false, .int (if b = true then p + 1 else p - 1))) fun j hj => h j (List.mem_cons_of_mem _ hj)
        refine ⟨k', g', ?_⟩
        rw [List.map_cons]
        refine (forGo_nx rfl ?_).trans hk
        cases b with
        | true =>
          simp only [if_true] at a
          simp [b1_l_stuck, e1, e2, Spot.d, laneI_in, a]
        | false =>
          simp only [Bool.false_eq_true, if_false] at a
          have a' : Spot.lane (p + -1) ∈ s := a
          simp [b1_l_stuck, e1, e2, Spot.d, laneI_in, a']
          rfl
  obtain ⟨k', g', hk⟩ := go (List.range s.length) none none fun i hi => List.mem_range.mp hi
  have hs : sRng (lift1 dLen (eV 2)) [some (false, eL L), some (false, eW ws), some (false, eS s), none, none] = some (.ok ((List.range s.length).map fun i => PyData.int ((i : Nat) : Int))) := sRng_of (by simp) (by have := v.w6; omega)
  simp only [P_l_stuck, runFn, g_l_stuck, startE]
  simp [sFor_of hs, hk]
theorem whole_t {i : Int} : P_l_whole [.int i] = some (.ok (false, .bool true)) := by
  simp only [P_l_whole, runFn, g_l_whole, startE]
  simp [dIs]
theorem nil_moves {ms : List Move} {n : Bool} : dEq n (.list (ms.map mvD)) (.list []) = some (.bool (if n then !decide (ms = []) else decide (ms = []))) := dEq_lstE ms []
theorem mv_aside {m : Mv} {n : Bool} : dEq n m.d (.str "aside") = some (.bool (if n then !decide (m = .aside) else decide (m = .aside))) := dEq_en m Mv.aside
def env03 (ns : List Int) (left begun asides turn : Int) (L : List Int) (ws : List Bool) (s : List Spot) (z : Option (Bool × PyData)) : DS.Env :=
  [some (false, scrD ns), some (false, .int left), some (false, .int begun), some (false, .int asides), some (false, .int turn), some (false, .list (((movesOf L ws s).map (·.1)).map mvD)), some (false, eL L), some (false, eW ws), some (false, eS s), z]
theorem w2_t {ns : List Int} {left begun asides turn : Int} {L : List Int} {ws : List Bool} {s : List Spot} {z : Option (Bool × PyData)} (ht : turn < 200) : w2_law03 (env03 ns left begun asides turn L ws s z) = some (.ok (.bool (!decide (movesOf L ws s = [])))) := by
  unfold w2_law03 env03
  have e := nil_moves (ms := (movesOf L ws s).map (·.1)) (n := true)
  generalize ((movesOf L ws s).map (·.1)).map mvD = A at e
  have h : decide ((movesOf L ws s).map (·.1) = []) = decide (movesOf L ws s = []) := decide_eq_decide.mpr (by simp)
  rw [h] at e
  simp [e, ht]
  by_cases hq : movesOf L ws s = [] <;> simp [hq]
theorem first_of {L : List Int} {ws : List Bool} {s : List Spot} {m : Move} (h : m ∈ (movesOf L ws s).map (·.1)) : ∃ f, behindOf L ws s m = some f ∧ (m, f) ∈ movesOf L ws s := by
  obtain ⟨q, hq, rfl⟩ := List.mem_map.mp h
  unfold behindOf
  cases hf : (movesOf L ws s).find? fun q' => decide (q'.1 = q.1) with
  | none => exact absurd (List.find?_eq_none.mp hf q hq) (by simp)
  | some q' =>
    have h1 := List.mem_of_find?_eq_some hf
    have h2 : q'.1 = q.1 := of_decide_eq_true (List.find?_some (p := fun q' : Step => decide (q'.1 = q.1)) hf)
    exact ⟨q'.2, rfl, by rw [← h2]; exact h1⟩
theorem b1_t {ns : List Int} {begun asides turn : Int} {L : List Int} {ws : List Bool} {s : List Spot} {z : Option (Bool × PyData)} (v : Valid L ws s) (h0 : 0 ≤ turn) (hne : movesOf L ws s ≠ []) :
    ∃ q, q ∈ movesOf L ws s ∧ b1_law03 (env03 ns (leftOf L.length ws s) begun asides turn L ws s z) = some (.nx (env03 ns (leftOf L.length ws q.2) begun (asides + (if q.1.1 = .aside then 1 else 0)) (turn + 1) L ws q.2 (some (false, mvD q.1)))) := by
  have hpos : 0 < ((movesOf L ws s).map (·.1)).length := by
    rw [List.length_map]
    exact List.length_pos_iff.mpr hne
  have c := cell_at_t' (ns := ns) (i := 16 + turn % 9) (by omega)
  generalize cell ns (16 + turn % 9).toNat = x at c
  have i0 := Int.emod_nonneg (x + 3 * turn) (b := (((movesOf L ws s).map (·.1)).length : Nat)) (by omega)
  have i1 := Int.emod_lt_of_pos (x + 3 * turn) (b := (((movesOf L ws s).map (·.1)).length : Nat)) (by omega)
  have e := atI_map (f := mvD) i0 i1
  have hm := List.getElem_mem (l := (movesOf L ws s).map (·.1)) (n := ((x + 3 * turn) % (((movesOf L ws s).map (·.1)).length : Nat)).toNat) (by omega)
  generalize ((movesOf L ws s).map (·.1))[((x + 3 * turn) % (((movesOf L ws s).map (·.1)).length : Nat)).toNat]'(by omega) = m at e hm
  obtain ⟨f, hf, hq⟩ := first_of hm
  obtain ⟨v', hl, _⟩ := move_ok v hq
  refine ⟨(m, f), hq, ?_⟩
  have e1 := behind_t v hf
  have e2 := left_to_go_t v'
  have e3 := law_left_t (L := L) v'.len (by have := v'.len; have := v'.w6; omega)
  have e4 := allowed_t v'
  have m1 : iMul (.int 3) (.int turn) = some (.int (3 * turn)) := iMul_l (by omega)
  have a1 : dIx (mvD m) (.int 0) = some m.1.d := by simp [mvD]
  have hl' : leftOf L.length ws f = leftOf L.length ws s - (if m.1 = .aside then 0 else 1) := hl
  have hlen : ((((movesOf L ws s).map (·.1)).map mvD).length : Int) = (((movesOf L ws s).map (·.1)).length : Nat) := by simp
  unfold b1_law03 env03
  generalize (movesOf L ws s).map (·.1) = ms at hpos e hlen
  generalize hA : ms.map mvD = A at e hlen
  generalize leftOf L.length ws f = l' at e2 e3 hl'
  generalize leftOf L.length ws s = l at hl'
  by_cases ha : m.1 = .aside
  · rw [if_pos ha, Int.sub_zero] at hl'
    subst hl'
    simp [c, m1, hlen, hpos, e, e1, a1, mv_aside, ha, e2, e3, e4]
  · rw [if_neg ha] at hl'
    subst hl'
    simp [c, m1, hlen, hpos, e, e1, a1, mv_aside, ha, e2, e3, e4]
theorem while_t {ns : List Int} {begun : Int} {L : List Int} {ws : List Bool} : ∀ (r : Nat) (s : List Spot) (asides turn : Int) (z : Option (Bool × PyData)) (m : Nat), Valid L ws s → (rank L.length ws s).toNat ≤ r → 0 ≤ turn → turn + r ≤ 150 → r < m →
    ∃ s' asides' turn' z', Valid L ws s' ∧ movesOf L ws s' = [] ∧ turn' - asides' + leftOf L.length ws s' = turn - asides + leftOf L.length ws s ∧ whileGo w2_law03 b1_law03 m (env03 ns (leftOf L.length ws s) begun asides turn L ws s z) = some (.nx (env03 ns (leftOf L.length ws s') begun asides' turn' L ws s' z')) := by
  intro r
  induction r with
  | zero =>
    intro s asides turn z m v hr h0 ht hm
    obtain ⟨m, rfl⟩ : ∃ k, m = k + 1 := ⟨m - 1, by omega⟩
    have hno : movesOf L ws s = [] := by
      cases hq : movesOf L ws s with
      | nil => rfl
      | cons q qs =>
        have := move_ok v (q := q) (by rw [hq]; exact List.mem_cons_self)
        have h2 := rank_nn this.1.len this.1.inr
        omega
    refine ⟨s, asides, turn, z, v, hno, rfl, ?_⟩
    rw [whileGo, w2_t (by omega), hno]
    simp
  | succ r ih =>
    intro s asides turn z m v hr h0 ht hm
    obtain ⟨m, rfl⟩ : ∃ k, m = k + 1 := ⟨m - 1, by omega⟩
    by_cases hno : movesOf L ws s = []
    · refine ⟨s, asides, turn, z, v, hno, rfl, ?_⟩
      rw [whileGo, w2_t (by omega), hno]
      simp
    · obtain ⟨q, hq, hb⟩ := b1_t (ns := ns) (begun := begun) (asides := asides) (z := z) v h0 hno
      obtain ⟨v', hl, hrk⟩ := move_ok v hq
      obtain ⟨s', a', t', z', v2, n2, e2, g2⟩ := ih q.2 (asides + (if q.1.1 = .aside then 1 else 0)) (turn + 1) (some (false, mvD q.1)) m v' (by omega) (by omega) (by omega) (by omega)
      refine ⟨s', a', t', z', v2, n2, ?_, ?_⟩
      · rw [e2, hl]
        split <;> omega
      · rw [whileGo, w2_t (by omega)]
        have : decide (movesOf L ws s = []) = false := decide_eq_false hno
        rw [this]
        simp only [Bool.not_false, hb]
        exact g2
theorem law03_t {ns : List Int} : P_law03 [scrD ns] = some (.ok (false, .bool true)) := by
  obtain ⟨L, ws, s, v, _, e0⟩ := built_t (ns := ns)
  have e1 := law_left_t (L := L) v.len (by have := v.len; have := v.w6; omega)
  have e2 := left_to_go_t v
  have e3 := allowed_t v
  have e4 := whole_t (i := leftOf L.length ws s)
  have rb := rank_bounds (n := L.length) v.len v.inr
  have hw : (L.length : Int) * (ws.length : Nat) ≤ 48 := by
    have a1 := v.n8
    have a2 := v.w6
    have : L.length * ws.length ≤ 8 * 6 := Nat.mul_le_mul a1 a2
    omega
  obtain ⟨s', a', t', z', v', hn, e5, e6⟩ := while_t (ns := ns) (begun := leftOf L.length ws s) (L := L) (ws := ws) (rank L.length ws s).toNat s 0 0 none 1000 v (Nat.le_refl _) (by omega) (by unfold rank; omega) (by unfold rank; omega)
  have e7 := stuck_t v' hn
  have e8 := nil_moves (ms := (movesOf L ws s').map (·.1)) (n := false)
  simp only [P_law03, runFn, g_law03, startE]
  unfold env03 at e6
  rw [hn] at e6 e8
  generalize ((movesOf L ws s).map (·.1)).map mvD = A at e3 e6
  simp only [List.map_nil] at e6 e8
  have e9 : t' = leftOf L.length ws s - leftOf L.length ws s' + a' := by omega
  simp at e8
  simp [e0, e1, e2, e3, e4, sWhile, e6, e8, e7, e9]
end DS
namespace DS
open PySem PySem.Spec PyProof.Rows L2
section
variable {α : Type} [DecidableEq α]
/-- what a search ends with -/
structure Rch (succ : α → List α) (U : List α) (s : α) (V : List α) : Prop where
  nd : V.Nodup
  sub : ∀ x ∈ V, x ∈ U
  start : s ∈ V
  clo : ∀ x ∈ V, ∀ y ∈ succ x, y ∈ V
  min : ∀ P : α → Prop, P s → (∀ x, P x → ∀ y ∈ succ x, P y) → ∀ x ∈ V, P x
/-- .. and in its midst -/
structure Mid (succ : α → List α) (U : List α) (s : α) (V W : List α) : Prop where
  nd : V.Nodup
  sub : ∀ x ∈ V, x ∈ U
  subW : ∀ x ∈ W, x ∈ U
  start : s ∈ V ∨ s ∈ W
  clo : ∀ x ∈ V, ∀ y ∈ succ x, y ∈ V ∨ y ∈ W
  min : ∀ P : α → Prop, P s → (∀ x, P x → ∀ y ∈ succ x, P y) → (∀ x ∈ V, P x) ∧ ∀ x ∈ W, P x
def dfs (succ : α → List α) : Nat → List α → List α → List α
  | 0, V, _ => V
  | m + 1, V, W => match W.getLast? with
    | none => V
    | some h => if h ∈ V then dfs succ m V W.dropLast else dfs succ m (V ++ [h]) (W.dropLast ++ succ h)
theorem dfs_nil {succ : α → List α} {m : Nat} {V : List α} : dfs succ m V [] = V := by cases m <;> rfl
theorem dfs_in {succ : α → List α} {m : Nat} {V W : List α} {h : α} (hm : h ∈ V) : dfs succ (m + 1) V (W ++ [h]) = dfs succ m V W := by
  rw [dfs]
  simp [hm]
theorem dfs_new {succ : α → List α} {m : Nat} {V W : List α} {h : α} (hm : h ∉ V) : dfs succ (m + 1) V (W ++ [h]) = dfs succ m (V ++ [h]) (W ++ succ h) := by
  rw [dfs]
  simp [hm]
theorem loop_dfs {succ : α → List α} {U : List α} {s : α} {M B : Nat} (hU : ∀ x ∈ U, ∀ y ∈ succ x, y ∈ U) (hM : ∀ x ∈ U, (succ x).length ≤ M) {cond : Ef} {body : Sf} {Z : Type} {E : List α → List α → Z → DS.Env}
    (hc : ∀ V W z, cond (E V W z) = some (.ok (.bool (!decide (W = [])))))
    (hb : ∀ V W h z, V.length ≤ U.length → (W ++ [h]).length ≤ B → h ∈ U → ∃ z', (h ∈ V → body (E V (W ++ [h]) z) = some (.nx (E V W z')) ∨ body (E V (W ++ [h]) z) = some (.ct (E V W z'))) ∧ (h ∉ V → V.length < U.length → (W ++ succ h).length ≤ B → body (E V (W ++ [h]) z) = some (.nx (E (V ++ [h]) (W ++ succ h) z')))) :
    ∀ (m n : Nat) (V W : List α) (z : Z), Mid succ U s V W → (U.length - V.length) * (M + 1) + W.length ≤ m → m ≤ B → m < n → ∃ z', Rch succ U s (dfs succ m V W) ∧ whileGo cond body n (E V W z) = some (.nx (E (dfs succ m V W) [] z')) := by
  intro m
  induction m with
  | zero =>
    intro n V W z mid hm hB hn
    have hW : W = [] := by
      cases W with
      | nil => rfl
      | cons w W => rw [List.length_cons] at hm; omega
    subst hW
    obtain ⟨n, rfl⟩ : ∃ k, n = k + 1 := ⟨n - 1, by omega⟩
    rw [dfs_nil]
    refine ⟨z, ⟨mid.nd, mid.sub, mid.start.resolve_right (by simp), fun x hx y hy => (mid.clo x hx y hy).resolve_right (by simp), fun P h1 h2 => (mid.min P h1 h2).1⟩, ?_⟩
    rw [whileGo, hc]
    simp
  | succ m ih =>
    intro n V W z mid hm hB hn
    obtain ⟨n, rfl⟩ : ∃ k, n = k + 1 := ⟨n - 1, by omega⟩
    by_cases hW : W = []
    · subst hW
      rw [dfs_nil]
      refine ⟨z, ⟨mid.nd, mid.sub, mid.start.resolve_right (by simp), fun x hx y hy => (mid.clo x hx y hy).resolve_right (by simp), fun P h1 h2 => (mid.min P h1 h2).1⟩, ?_⟩
      rw [whileGo, hc]
      simp
    · obtain ⟨W', h, rfl⟩ : ∃ W' h, W = W' ++ [h] := ⟨W.dropLast, W.getLast hW, (List.dropLast_concat_getLast hW).symm⟩
      have hV := mid.nd.length_le_of_subset mid.sub
      have hh : h ∈ U := mid.subW h (by simp)
      have hlen : (W' ++ [h]).length = W'.length + 1 := by simp
      obtain ⟨z', b1, b2⟩ := hb V W' h z hV (by omega) hh
      rw [whileGo, hc]
      have hd : decide (W' ++ [h] = []) = false := by simp
      rw [hd]
      simp only [Bool.not_false]
      by_cases hm' : h ∈ V
      · have mid' : Mid succ U s V W' := by
          refine ⟨mid.nd, mid.sub, fun x hx => mid.subW x (by simp [hx]), ?_, fun x hx y hy => ?_, fun P h1 h2 => ⟨(mid.min P h1 h2).1, fun x hx => (mid.min P h1 h2).2 x (by simp [hx])⟩⟩
          · rcases mid.start with e | e
            · exact .inl e
            · rcases List.mem_append.mp e with e | e
              · exact .inr e
              · exact .inl (List.mem_singleton.mp e ▸ hm')
          · rcases mid.clo x hx y hy with e | e
            · exact .inl e
            · rcases List.mem_append.mp e with e | e
              · exact .inr e
              · exact .inl (List.mem_singleton.mp e ▸ hm')
        obtain ⟨z2, r, g⟩ := ih n V W' z' mid' (by omega) (by omega) (by omega)
        rw [dfs_in hm']
        refine ⟨z2, r, ?_⟩
        rcases b1 hm' with e | e
        · rw [e]; exact g
        · rw [e]; exact g
      · have hlt : V.length < U.length := by
          have nd2 : (h :: V).Nodup := List.nodup_cons.mpr ⟨hm', mid.nd⟩
          have := nd2.length_le_of_subset (l₂ := U) (by
            intro x hx
            rcases List.mem_cons.mp hx with rfl | hx
            · exact hh
            · exact mid.sub x hx)
          rw [List.length_cons] at this
          omega
        have hs := hM h hh
        have e1 : U.length - V.length = (U.length - (V.length + 1)) + 1 := by omega
        have e2 : (U.length - V.length) * (M + 1) = (U.length - (V.length + 1)) * (M + 1) + (M + 1) := by rw [e1, Nat.succ_mul]
        have hw2 : (W' ++ succ h).length = W'.length + (succ h).length := by simp
        have mid' : Mid succ U s (V ++ [h]) (W' ++ succ h) := by
          refine ⟨?_, fun x hx => ?_, fun x hx => ?_, ?_, fun x hx y hy => ?_, fun P h1 h2 => ?_⟩
          · rw [List.nodup_append]
            refine ⟨mid.nd, by simp, fun a ha b hb e => ?_⟩
            rw [List.mem_singleton] at hb
            exact hm' (hb ▸ e ▸ ha)
          · rcases List.mem_append.mp hx with hx | hx
            · exact mid.sub x hx
            · exact List.mem_singleton.mp hx ▸ hh
          · rcases List.mem_append.mp hx with hx | hx
            · exact mid.subW x (by simp [hx])
            · exact hU h hh x hx
          · rcases mid.start with e | e
            · exact .inl (by simp [e])
            · rcases List.mem_append.mp e with e | e
              · exact .inr (by simp [e])
              · exact .inl (by simp [List.mem_singleton.mp e])
          · rcases List.mem_append.mp hx with hx | hx
            · rcases mid.clo x hx y hy with e | e
              · exact .inl (by simp [e])
              · rcases List.mem_append.mp e with e | e
                · exact .inr (by simp [e])
                · exact .inl (by simp [List.mem_singleton.mp e])
            · exact .inr (by rw [List.mem_singleton.mp hx] at hy; simp [hy])
          · obtain ⟨p1, p2⟩ := mid.min P h1 h2
            refine ⟨fun x hx => ?_, fun x hx => ?_⟩
            · rcases List.mem_append.mp hx with hx | hx
              · exact p1 x hx
              · exact List.mem_singleton.mp hx ▸ p2 h (by simp)
            · rcases List.mem_append.mp hx with hx | hx
              · exact p2 x (by simp [hx])
              · exact h2 h (p2 h (by simp)) x hx
        rw [dfs_new hm']
        obtain ⟨z2, r, g⟩ := ih n (V ++ [h]) (W' ++ succ h) z' mid' (by rw [List.length_append, List.length_singleton]; omega) (by omega) (by omega)
        refine ⟨z2, r, ?_⟩
        rw [b2 hm' hlt (by omega)]
        exact g
end
def spotsOf (n : Nat) : List Spot := .out :: allSpots n
def allS (n : Nat) : Nat → List (List Spot)
  | 0 => [[]]
  | k + 1 => (spotsOf n).flatMap fun x => (allS n k).map (x :: ·)
theorem mem_spotsOf {n : Nat} {x : Spot} (h : inR n x = true) : x ∈ spotsOf n := by
  unfold spotsOf allSpots
  cases x with
  | out => simp
  | lane p =>
    have h' : 0 ≤ p ∧ p < n := by simpa [inR] using h
    refine List.mem_cons_of_mem _ (List.mem_append_left _ (List.mem_map.mpr ⟨p.toNat, List.mem_range.mpr (by omega), ?_⟩))
    rw [Int.toNat_of_nonneg h'.1]
  | side p =>
    have h' : 0 ≤ p ∧ p < n := by simpa [inR] using h
    refine List.mem_cons_of_mem _ (List.mem_append_right _ (List.mem_map.mpr ⟨p.toNat, List.mem_range.mpr (by omega), ?_⟩))
    rw [Int.toNat_of_nonneg h'.1]
theorem mem_allS {n : Nat} : ∀ {s : List Spot}, (∀ x ∈ s, inR n x = true) → s ∈ allS n s.length
  | [], _ => by simp [allS]
  | x :: s, h => by
    rw [List.length_cons, allS, List.mem_flatMap]
    exact ⟨x, mem_spotsOf (h x List.mem_cons_self), List.mem_map.mpr ⟨s, mem_allS fun y hy => h y (List.mem_cons_of_mem _ hy), rfl⟩⟩
theorem allS_len {n : Nat} : ∀ k : Nat, (allS n k).length = (2 * n + 1) ^ k
  | 0 => by simp [allS]
  | k + 1 => by
    rw [allS, List.length_flatMap]
    simp only [List.length_map, allS_len k]
    rw [List.map_const', List.sum_replicate_nat]
    have : (spotsOf n).length = 2 * n + 1 := by simp [spotsOf, allSpots]; omega
    rw [this, Nat.pow_succ, Nat.mul_comm]
end DS
namespace DS
open PySem PySem.Spec PyProof.Rows L2
abbrev Stand := List Spot
def nextOf (L : List Int) (ws : List Bool) (s : Stand) : List Stand := (movesOf L ws s).map (·.2)
/-- of so many trains, all on the lane -/
def InU (n k : Nat) (s : Stand) : Prop := s.length = k ∧ ∀ x ∈ s, inR n x = true
theorem inU_allS {n k : Nat} {s : Stand} (h : InU n k s) : s ∈ allS n k := h.1 ▸ mem_allS h.2
theorem allS_inU {n : Nat} : ∀ {k : Nat} {s : Stand}, s ∈ allS n k → InU n k s
  | 0, s, h => by
    simp only [allS, List.mem_singleton] at h
    subst h
    exact ⟨rfl, (by intro x hx; cases hx)⟩
  | k + 1, s, h => by
    rw [allS, List.mem_flatMap] at h
    obtain ⟨x, hx, h⟩ := h
    obtain ⟨t, ht, rfl⟩ := List.mem_map.mp h
    obtain ⟨h1, h2⟩ := allS_inU ht
    refine ⟨by rw [List.length_cons, h1], fun y hy => ?_⟩
    rcases List.mem_cons.mp hy with rfl | hy
    · unfold spotsOf allSpots at hx
      rcases List.mem_cons.mp hx with rfl | hx
      · rfl
      · rcases List.mem_append.mp hx with hx | hx
        · obtain ⟨i, hi, rfl⟩ := List.mem_map.mp hx
          have := List.mem_range.mp hi
          simp only [inR, Bool.and_eq_true, decide_eq_true_eq]
          omega
        · obtain ⟨i, hi, rfl⟩ := List.mem_map.mp hx
          have := List.mem_range.mp hi
          simp only [inR, Bool.and_eq_true, decide_eq_true_eq]
          omega
    · exact h2 y hy
theorem goal_inR {L : List Int} {b : Bool} {s : Stand} {x g : Spot} {m : Mv} (hx : inR L.length x = true) (h : goalOf L b s x m = some g) : inR L.length g = true := by
  have hn : ∀ p, inR L.length (nextSpot L.length b p) = true := fun p => by
    rcases nextSpot_cases (n := L.length) (b := b) (p := p) with e | ⟨q, e, h0, h1⟩
    · rw [e]; rfl
    · rw [e]; simp [inR, h0, h1]
  rcases goalOf_cases h with ⟨_, p, rfl, rfl, _⟩ | ⟨_, p, _, ha⟩ | ⟨_, p, _, ha⟩
  · exact hx
  · rw [(ahead_some ha).1]; exact hn p
  · rw [(ahead_some ha).1]; exact hn p
theorem next_inU {L : List Int} {ws : List Bool} {s t : Stand} (h : InU L.length ws.length s) (ht : t ∈ nextOf L ws s) : InU L.length ws.length t := by
  obtain ⟨q, hq, rfl⟩ := List.mem_map.mp ht
  obtain ⟨i, m, b, x, g, hb, hx, hg, rfl⟩ := mem_movesOf hq
  refine ⟨by simp [h.1], fun y hy => ?_⟩
  rcases List.mem_or_eq_of_mem_set hy with hy | rfl
  · exact h.2 y hy
  · exact goal_inR (h.2 x (List.mem_of_getElem? hx)) hg
theorem movesOf_len {L : List Int} {ws : List Bool} {s : Stand} : (movesOf L ws s).length ≤ 3 * ws.length := by
  unfold movesOf
  rw [List.length_flatMap]
  have : ∀ is : List Nat, (is.map fun a => (movesAt L ws s a).length).sum ≤ 3 * is.length := by
    intro is
    induction is with
    | nil => simp
    | cons i is ih =>
      have := movesAt_len (L := L) (ws := ws) (s := s) (i := i)
      simp only [List.map_cons, List.sum_cons, List.length_cons]
      omega
  have h := this (List.range ws.length)
  rw [List.length_range] at h
  exact h
theorem next_len {L : List Int} {ws : List Bool} {s : Stand} : (nextOf L ws s).length ≤ 3 * ws.length := by
  unfold nextOf
  rw [List.length_map]
  exact movesOf_len
/-- what the search ends with -/
abbrev ReachL (L : List Int) (ws : List Bool) (s : Stand) (V : List Stand) : Prop := Rch (nextOf L ws) (allS L.length ws.length) s V
theorem Rch.valid {L : List Int} {ws : List Bool} {s : Stand} {V : List Stand} (r : ReachL L ws s V) (v : Valid L ws s) : ∀ x ∈ V, Valid L ws x :=
  r.min (fun x => Valid L ws x) v fun x hx y hy => by
    obtain ⟨q, hq, rfl⟩ := List.mem_map.mp hy
    exact (move_ok hx hq).1
theorem small_pow {n k : Nat} (h : Small n k) : (2 * n + 1) ^ k ≤ 117649 := by
  have mono : ∀ {a b c d : Nat}, a ≤ b → c ≤ d → 1 ≤ b → a ^ c ≤ b ^ d := fun h1 h2 h3 => Nat.le_trans (Nat.pow_le_pow_left h1 _) (Nat.pow_le_pow_right h3 h2)
  rcases h with ⟨h1, h2⟩ | ⟨h1, h2⟩ | ⟨h1, h2⟩
  · exact Nat.le_trans (mono (b := 9) (d := 3) (by omega) h2 (by omega)) (by decide)
  · exact Nat.le_trans (mono (b := 17) (d := 2) (by omega) h2 (by omega)) (by decide)
  · exact Nat.le_trans (mono (b := 7) (d := 6) (by omega) h2 (by omega)) (by decide)
theorem take_last {α : Type} {xs : List α} {x : α} : (xs ++ [x]).getLast? = some x := by simp
def sucsD (ss : List Stand) : PyData := .list (ss.map eS)
def envR (L : List Int) (ws : List Bool) (s : Stand) (V W : List Stand) (z : Option (Bool × PyData)) : DS.Env :=
  [some (false, eL L), some (false, eW ws), some (false, eS s), some (true, .dict (dD sucsD (V.map fun x => (x, nextOf L ws x)))), some (true, .list (W.map eS)), z, none, none]
theorem map_fst_self {α β : Type} {f : α → β} (V : List α) : (V.map fun x => (x, f x)).map (·.1) = V := by
  rw [List.map_map]
  exact List.map_id' V
theorem look_self {α β : Type} [DecidableEq α] {f : α → β} {a : α} : ∀ {V : List α}, a ∈ V → look (V.map fun x => (x, f x)) a = some (f a)
  | x :: V, h => by
    unfold look
    rw [List.map_cons, List.find?_cons]
    by_cases e : x = a
    · subst e
      simp
    · simp only [e, decide_false]
      have ih := look_self (f := f) (a := a) (V := V) (by rcases List.mem_cons.mp h with rfl | h; exact absurd rfl e; exact h)
      exact ih
theorem c1_reached_t {L : List Int} {ws : List Bool} {s h : Stand} {a b c d e : Option (Bool × PyData)} (hh : InU L.length ws.length h) (hw : ws.length ≤ 100) :
    c1_all_reached [some (false, eL L), some (false, eW ws), a, b, c, some (false, eS h), d, e] = some (.ok (.list ((nextOf L ws h).map eS))) := by
  have e2 := moves_of_t (L := L) (ws := ws) (s := h) hh.1 hh.2 hw
  refine eLC_of (ds := (movesOf L ws h).map stepD) (sLst_of (by simp [e2])) ?_
  unfold nextOf
  rw [List.map_map]
  exact lcGo_map fun x hx => step_yes rfl rfl
theorem eS_in {n : Bool} {V : List Stand} {f : Stand → List Stand} {h : Stand} : dIn n (eS h) (.dict (dD sucsD (V.map fun x => (x, f x)))) = some (.bool (if n then !decide (h ∈ V) else decide (h ∈ V))) := by
  have := dIn_dD (n := n) (g := sucsD) (F := V.map fun x => (x, f x)) (a := h)
  rw [map_fst_self] at this
  refine this.trans ?_
  cases n
  · exact congrArg (fun b => some (PyData.bool b)) (decide_eq_decide.mpr Iff.rfl)
  · exact congrArg (fun b => some (PyData.bool (!b))) (decide_eq_decide.mpr Iff.rfl)
def reachL (L : List Int) (ws : List Bool) (s : Stand) : List Stand := dfs (nextOf L ws) 2999999 [] [s]
theorem all_reached_t {L : List Int} {ws : List Bool} {s : Stand} (hs : InU L.length ws.length s) (hw : ws.length ≤ 6) (sm : Small L.length ws.length) : ReachL L ws s (reachL L ws s) ∧ P_all_reached [eL L, eW ws, eS s] = some (.ok (true, .dict (dD sucsD ((reachL L ws s).map fun x => (x, nextOf L ws x))))) := by
  have hz := sizeLine_eq
  have hp := small_pow sm
  have hul : (allS L.length ws.length).length ≤ 117649 := by rw [allS_len]; exact hp
  obtain ⟨z, r, g⟩ := loop_dfs (succ := nextOf L ws) (U := allS L.length ws.length) (s := s) (M := 18) (B := 3000000) (fun x hx y hy => inU_allS (next_inU (allS_inU hx) hy)) (fun x hx => Nat.le_trans next_len (by omega)) (cond := w3_all_reached) (body := b2_all_reached) (Z := Option (Bool × PyData)) (E := fun V W z => envR L ws s V W z)
    (fun V W z => by
      unfold w3_all_reached envR
      cases W with
      | nil => simp
      | cons w W => simp <;> omega)
    (fun V W h z hV hW hh => by
      have hi := allS_inU hh
      refine ⟨some (false, eS h), fun hm => .inr ?_, fun hm hlt hW2 => ?_⟩
      · have e := eS_in (n := false) (V := V) (f := nextOf L ws) (h := h)
        have ep : sPop 5 4 (envR L ws s V (W ++ [h]) z) = some (.nx (envR L ws s V W (some (false, eS h)))) := by
          unfold sPop envR ownL
          simp
        unfold b2_all_reached
        rw [sSeq_s, ep]
        unfold envR
        simp [e, hm]
      · have e := eS_in (n := false) (V := V) (f := nextOf L ws) (h := h)
        have ep : sPop 5 4 (envR L ws s V (W ++ [h]) z) = some (.nx (envR L ws s V W (some (false, eS h)))) := by
          unfold sPop envR ownL
          simp
        have ec := c1_reached_t (L := L) (ws := ws) (s := s) (h := h) (a := some (false, eS s)) (b := some (true, .dict (dD sucsD (V.map fun x => (x, nextOf L ws x))))) (c := some (true, .list (W.map eS))) (d := none) (e := none) hi (by omega)
        have hk : kOk (eS h) = some (Ky.k h) := kOk_d h
        have hpd : putD (dD sucsD (V.map fun x => (x, nextOf L ws x))) (Ky.k h) (eS h) (.list ((nextOf L ws h).map eS)) = dD sucsD ((V ++ [h]).map fun x => (x, nextOf L ws x)) := by
          rw [List.map_append]
          exact putD_new (g := sucsD) (by rw [map_fst_self]; exact hm)
        have hlen : (dD sucsD (V.map fun x => (x, nextOf L ws x))).length < sizeLine := by
          unfold dD
          rw [List.length_map, List.length_map]
          omega
        have eput : sPut 3 (eV 5) c1_all_reached (envR L ws s V W (some (false, eS h))) = some (.nx (envR L ws s (V ++ [h]) W (some (false, eS h)))) := by
          unfold sPut envR
          rw [ec]
          simp [ownD, putO, hk, hlen, hpd]
        have hg : dIx (.dict (dD sucsD ((V ++ [h]).map fun x => (x, nextOf L ws x)))) (eS h) = some (.list ((nextOf L ws h).map eS)) := by
          have := dIx_dD (g := sucsD) (F := (V ++ [h]).map fun x => (x, nextOf L ws x)) (a := h)
          rw [look_self (by simp)] at this
          exact this
        have eext : sExt 4 (lift2 dIx (rV 3) (eV 5)) (envR L ws s (V ++ [h]) W (some (false, eS h))) = some (.nx (envR L ws s (V ++ [h]) (W ++ nextOf L ws h) (some (false, eS h)))) := by
          unfold sExt envR ownL
          have hl2 : W.length + (nextOf L ws h).length ≤ sizeLine := by
            rw [List.length_append] at hW2
            omega
          generalize dD sucsD ((V ++ [h]).map fun x => (x, nextOf L ws x)) = DD at hg ⊢
          simp [hg, hl2]
        have e5 : (sIf (lift2 (dIn false) (eV 5) (rV 3)) sCt sNx) (envR L ws s V W (some (false, eS h))) = some (.nx (envR L ws s V W (some (false, eS h)))) := by
          unfold envR
          simp [e, hm]
        unfold b2_all_reached
        rw [sSeq_s, ep, seqO_nx, sSeq_s, e5, seqO_nx, sSeq_s, eput, seqO_nx, eext])
    2999999 10000000 [] [s] none ⟨List.nodup_nil, (by intro x hx; cases hx), (by intro x hx; rw [List.mem_singleton.mp hx]; exact inU_allS hs), .inr (by simp), (by intro x hx; cases hx), fun P h1 h2 => ⟨(by intro x hx; cases hx), (by intro x hx; rw [List.mem_singleton.mp hx]; exact h1)⟩⟩ (by simp; omega) (by omega) (by omega)
  refine ⟨r, ?_⟩
  have g' : whileGo w3_all_reached b2_all_reached 10000000 [some (false, eL L), some (false, eW ws), some (false, eS s), some (true, .dict []), some (true, .list [eS s]), none, none, none] = _ := g
  simp only [P_all_reached, runFn, g_all_reached, startE]
  simp [sWhile, g']
  rfl
theorem reached_t {L : List Int} {ws : List Bool} {s : Stand} (v : Valid L ws s) (sm : Small L.length ws.length) : P_reached [eL L, eW ws, eS s] = some (.ok (true, .list ((reachL L ws s).map eS))) := by
  obtain ⟨r, e⟩ := all_reached_t (L := L) (ws := ws) (s := s) ⟨v.len, v.inr⟩ v.w6 sm
  have e1 := need_stand_t v
  have e2 := dLstD_dD (g := sucsD) (F := (reachL L ws s).map fun x => (x, nextOf L ws x))
  rw [map_fst_self] at e2
  simp only [P_reached, runFn, g_reached, startE]
  simp [e1, e, e2]
end DS
namespace DS
open PySem PySem.Spec PyProof.Rows L2
@[simp] theorem dInR_i {i n : Int} : dInR (.int i) (.int n) = some (.bool (decide (0 ≤ i ∧ i < n))) := rfl
theorem on_t {L : List Int} {b : Bool} {p : Int} : P_l_on [eL L, wD b, .int p] = some (.ok (false, (nextSpot L.length b p).d)) := by
  simp only [P_l_on, runFn, g_l_on, startE]
  unfold nextSpot
  cases b with
  | true =>
    by_cases h1 : 0 ≤ p + 1 ∧ p + 1 < L.length
    · simp [h1, Spot.d]
    · simp [h1, Spot.d]
  | false =>
    have e : p + -1 = p - 1 := rfl
    by_cases h1 : 0 ≤ p - 1 ∧ p - 1 < L.length
    · have h2 : 1 ≤ p ∧ p - 1 < (L.length : Int) := by omega
      have h3 : 0 ≤ p + -1 ∧ p + -1 < (L.length : Int) := by omega
      simp [h2, h3, Spot.d]
      rfl
    · have h2 : ¬ (1 ≤ p ∧ p - 1 < (L.length : Int)) := by omega
      have h3 : ¬ (0 ≤ p + -1 ∧ p + -1 < (L.length : Int)) := by omega
      simp [h2, h3, Spot.d]
@[simp] theorem pick_lane : dPick "lane" "go" "side" "on" (.str "lane") = some (.str "go") := by
  show (if ("side" : Str) = "lane" then some (PyData.str "on") else if ("lane" : Str) = "lane" then some (PyData.str "go") else none) = _
  rw [if_neg n_sl, if_pos rfl]
@[simp] theorem pick_side : dPick "lane" "go" "side" "on" (.str "side") = some (.str "on") := by
  show (if ("side" : Str) = "side" then some (PyData.str "on") else if ("lane" : Str) = "side" then some (PyData.str "go") else none) = _
  rw [if_pos rfl]
def someD (q : Mv × Spot) : PyData := .tuple [q.1.d, q.2.d]
def lenv (L : List Int) (ws : List Bool) (s : Stand) (acc : List PyData) (k a b c d e : Option (Bool × PyData)) : DS.Env :=
  [some (false, eL L), some (false, eW ws), some (false, eS s), some (true, .list acc), k, a, b, c, d, e, none]
theorem cat_t {s : Stand} {i : Nat} {g : Spot} (hi : i < s.length) (hz : s.length ≤ 1000) : iAdd (.tuple ((s.map Spot.d).take i)) (.tuple [g.d]) = some (.tuple ((s.map Spot.d).take i ++ [g.d])) ∧ iAdd (.tuple ((s.map Spot.d).take i ++ [g.d])) (.tuple ((s.map Spot.d).drop (i + 1))) = some (eS (s.set i g)) ∧
    dSl (eS s) none (some (i : Int)) = some (.tuple ((s.map Spot.d).take i)) ∧ dSl (eS s) (some ((i : Int) + 1)) none = some (.tuple ((s.map Spot.d).drop (i + 1))) := by
  have e1 : cutD (s.map Spot.d) none (some (i : Int)) = (s.map Spot.d).take i := cut_to
  have e2 : cutD (s.map Spot.d) (some ((i : Int) + 1)) none = (s.map Spot.d).drop (i + 1) := cut_from (i := i + 1)
  have hz' := sizeLine_eq
  have e7 : eS (s.set i g) = .tuple (((s.map Spot.d).take i ++ [g.d]) ++ (s.map Spot.d).drop (i + 1)) := by
    unfold eS
    congr 1
    rw [List.map_set]
    show (s.map Spot.d).set i g.d = _
    rw [List.set_eq_take_append_cons_drop, if_pos (by simpa using hi), List.append_assoc]
    rfl
  rw [e7]
  exact ⟨iAdd_t (by simp; omega), iAdd_t (by simp; omega), congrArg (fun z => some (PyData.tuple z)) e1, congrArg (fun z => some (PyData.tuple z)) e2⟩
theorem inner_t {L : List Int} {ws : List Bool} {s : Stand} {i : Nat} {a b c : Option (Bool × PyData)} (hi : i < s.length) (hz : s.length ≤ 1000) : ∀ (qs : List (Mv × Spot)) (acc : List PyData) (d e : Option (Bool × PyData)), acc.length + qs.length ≤ 1000 → ∃ d' e',
    forGo (bTup [8, 9]) b2_l_moves (qs.map someD) (lenv L ws s acc (some (false, .int i)) a b c d e) = some (.nx (lenv L ws s (acc ++ qs.map fun q => stepD ((q.1, i), s.set i q.2)) (some (false, .int i)) a b c d' e'))
  | [], acc, d, e, _ => ⟨d, e, by simp [forGo]⟩
  | q :: qs, acc, d, e, h => by
    rw [List.length_cons] at h
    obtain ⟨d', e', ih⟩ := inner_t (L := L) (ws := ws) (a := a) (b := b) (c := c) hi hz qs (acc ++ [stepD ((q.1, i), s.set i q.2)]) (some (false, q.1.d)) (some (false, q.2.d)) (by rw [List.length_append, List.length_singleton]; omega)
    refine ⟨d', e', ?_⟩
    rw [List.map_cons]
    obtain ⟨c1, c2, c3, c4⟩ := cat_t (g := q.2) hi hz
    have hz' := sizeLine_eq
    refine (forGo_nx (env1 := lenv L ws s acc (some (false, .int i)) a b c (some (false, q.1.d)) (some (false, q.2.d))) rfl (?_ : _ = some (Out.nx (lenv L ws s (acc ++ [stepD ((q.1, i), s.set i q.2)]) (some (false, .int i)) a b c (some (false, q.1.d)) (some (false, q.2.d)))))).trans ?_
    · unfold b2_l_moves lenv
      refine sApp_of rfl ?_ (by omega)
      simp [c3, c4, c1, c2, stepD, mvD]
    · rw [ih, List.append_assoc]
      rfl
theorem cntF {s : Stand} {y : Spot} : (s.filterMap fun x => if decide (x = y) = true then some x.d else none).length = s.count y := by
  induction s with
  | nil => rfl
  | cons x s ih =>
    rw [List.filterMap_cons, List.count_cons]
    by_cases h : x = y
    · simp [h] at ih ⊢
      exact ih
    · have h' : ¬ (x == y) = true := by simpa using h
      simp [h, h'] at ih ⊢
      exact ih
theorem c1_moves_t {L : List Int} {ws : List Bool} {s : Stand} {acc : List PyData} {k a b d e : Option (Bool × PyData)} {y : Spot} (hz : s.length ≤ 1000) : ∃ ds, c1_l_moves (lenv L ws s acc k a b (some (false, y.d)) d e) = some (.ok (.list ds)) ∧ ds.length = s.count y := by
  refine ⟨_, eLC_of (ds := s.map Spot.d) (sTup_of rfl (by rw [List.length_map, sizeLine_eq]; omega)) (lcGo_eq (k := fun x => if decide (x = y) = true then some x.d else none) fun x hx => step_if (b := decide (x = y)) rfl ?_ fun _ => rfl), cntF⟩
  have := dEq_en (n := false) x y
  simp at this
  unfold lenv
  simp [this]
def somes (L : List Int) (b : Bool) (s : Stand) : Spot → List (Mv × Spot)
  | .out => []
  | .lane p => (match ahead L.length b s p with | some g => [(Mv.go, g)] | none => []) ++ (if ((s.count (.side p) : Nat) : Int) < room L p then [(Mv.aside, .side p)] else [])
  | .side p => (match ahead L.length b s p with | some g => [(Mv.on, g)] | none => [])
theorem somes_moves {L : List Int} {ws : List Bool} {s : Stand} {i : Nat} {b : Bool} {x : Spot} (hb : ws[i]? = some b) (hx : s[i]? = some x) : movesAt L ws s i = (somes L b s x).map fun q => ((q.1, i), s.set i q.2) := by
  unfold movesAt
  rw [hb, hx]
  cases x with
  | out => rfl
  | lane p =>
    simp only [somes, goalOf, List.filterMap_cons, List.filterMap_nil]
    cases ahead L.length b s p <;> (by_cases h : ((s.count (.side p) : Nat) : Int) < room L p <;> simp [h])
  | side p =>
    simp only [somes, goalOf, List.filterMap_cons, List.filterMap_nil]
    cases ahead L.length b s p <;> rfl
theorem ahead_in {n : Nat} {b : Bool} {s : Stand} {p : Int} : ahead n b s p = if nextSpot n b p ∉ s ∨ nextSpot n b p = .out then some (nextSpot n b p) else none := by
  unfold ahead
  by_cases h1 : nextSpot n b p = .out <;> by_cases h2 : nextSpot n b p ∈ s <;> simp [h1, h2]
theorem out_eq {x : Spot} : ∃ y, dIx x.d (.int 0) = some (.str y) ∧ dEq false (.str y) (.str "out") = some (.bool (decide (x = .out))) := by
  cases x with
  | out => exact ⟨"out", by simp [Spot.d], by simp⟩
  | lane p => exact ⟨"lane", by simp [Spot.d], by simp⟩
  | side p => exact ⟨"side", by simp [Spot.d], by simp⟩
abbrev s4M : Sf := sIf (fOr (lift2 (dIn true) (eV 5) (eV 2)) (lift2 (dEq false) (lift2 dIx (eV 5) (eC (.int 0))) (eC (.str "out")))) (sApp 6 (liftA dTup (aC (lift1 (dPick "lane" "go" "side" "on") (lift2 dIx (lift2 dIx (eV 2) (eV 4)) (eC (.int 0)))) (aC (eV 5) aN)))) sNx
abbrev s6M : Sf := sIf (fAnd (lift2 (dEq false) (lift2 dIx (lift2 dIx (eV 2) (eV 4)) (eC (.int 0))) (eC (.str "lane"))) (lift2 dLt (lift1 dLen c1_l_moves) (lift2 dIx (eV 0) (lift2 dIx (eV 7) (eC (.int 1)))))) (sApp 6 (liftA dTup (aC (eC (.str "aside")) (aC (eV 7) aN)))) sNx
abbrev s7M : Sf := sFrz 6 (sFor (sLst (eV 6)) (bTup [8, 9]) b2_l_moves)
section
variable {L : List Int} {ws : List Bool} {s : Stand} {i : Nat} {b : Bool} {x nx : Spot} {acc : List PyData} {a1 a2 a3 a4 a5 : Option (Bool × PyData)}
theorem s7_t (hi : i < s.length) (hz : s.length ≤ 1000) (ha : acc.length ≤ 900) (qs : List (Mv × Spot)) (hl : qs.length ≤ 2) : ∃ d' e', s7M (lenv L ws s acc (some (false, .int i)) a1 (some (true, .list (qs.map someD))) a3 a4 a5) =
    some (.nx (lenv L ws s (acc ++ (qs.map fun q => ((q.1, i), s.set i q.2)).map stepD) (some (false, .int i)) a1 (some (false, .list (qs.map someD))) a3 d' e')) := by
  obtain ⟨d', e', g⟩ := inner_t (L := L) (ws := ws) (s := s) (i := i) (a := a1) (b := some (false, .list (qs.map someD))) (c := a3) hi hz qs acc a4 a5 (by omega)
  refine ⟨d', e', ?_⟩
  show sFor (sLst (eV 6)) (bTup [8, 9]) b2_l_moves (lenv L ws s acc (some (false, .int i)) a1 (some (false, .list (qs.map someD))) a3 a4 a5) = _
  rw [sFor_of (sLst_of rfl), g, List.map_map]
  rfl
def wordOf : Spot → Mv
  | .side _ => .on
  | _ => .go
theorem s4_t (hx : s[i]? = some x) (hne : x ≠ .out) : s4M (lenv L ws s acc (some (false, .int i)) (some (false, nx.d)) (some (true, .list [])) a3 a4 a5) =
    some (.nx (lenv L ws s acc (some (false, .int i)) (some (false, nx.d)) (some (true, .list ((if nx ∉ s ∨ nx = .out then [(wordOf x, nx)] else []).map someD))) a3 a4 a5)) := by
  have e1 := atI_at (f := Spot.d) hx
  have e4 := spot_in (x := nx) (s := s) (n := true)
  obtain ⟨y, e5, e6⟩ := out_eq (x := nx)
  have hz' := sizeLine_eq
  have ep : ∃ w, dIx x.d (.int 0) = some (.str w) ∧ dPick "lane" "go" "side" "on" (.str w) = some (wordOf x).d := by
    cases x with
    | out => exact absurd rfl hne
    | lane p => exact ⟨"lane", by simp [Spot.d], pick_lane⟩
    | side p => exact ⟨"side", by simp [Spot.d], pick_side⟩
  obtain ⟨w, ep1, ep2⟩ := ep
  unfold s4M lenv
  have ea : sApp 6 (liftA dTup (aC (lift1 (dPick "lane" "go" "side" "on") (lift2 dIx (lift2 dIx (eV 2) (eV 4)) (eC (.int 0)))) (aC (eV 5) aN))) [some (false, eL L), some (false, eW ws), some (false, eS s), some (true, .list acc), some (false, .int i), some (false, nx.d), some (true, .list []), a3, a4, a5, none] =
      some (.nx [some (false, eL L), some (false, eW ws), some (false, eS s), some (true, .list acc), some (false, .int i), some (false, nx.d), some (true, .list ([] ++ [someD (wordOf x, nx)])), a3, a4, a5, none]) := sApp_of rfl (by simp [e1, ep1, ep2, someD]) (by simp; omega)
  by_cases h1 : nx ∈ s
  · by_cases h2 : nx = .out
    · subst h2
      simp [e4, e5, e6, h1, ea]
    · simp [e4, e5, e6, h1, h2]
  · simp [e4, h1, ea]
theorem s6_t {p : Int} {qs : List (Mv × Spot)} (hx : s[i]? = some x) (hp : x = Spot.lane p ∨ x = Spot.side p) (h0 : 0 ≤ p) (h1 : p < L.length) (hz : s.length ≤ 1000) (hl : qs.length ≤ 2) : s6M (lenv L ws s acc (some (false, .int i)) a1 (some (true, .list (qs.map someD))) (some (false, (Spot.side p).d)) a4 a5) =
    some (.nx (lenv L ws s acc (some (false, .int i)) a1 (some (true, .list ((qs ++ if x = Spot.lane p ∧ ((s.count (Spot.side p) : Nat) : Int) < room L p then [(Mv.aside, Spot.side p)] else []).map someD))) (some (false, (Spot.side p).d)) a4 a5)) := by
  have e1 := atI_at (f := Spot.d) hx
  have e7 := atI_room h0 h1
  have hz' := sizeLine_eq
  obtain ⟨ds, e8, e9⟩ := c1_moves_t (L := L) (ws := ws) (s := s) (acc := acc) (k := some (false, .int i)) (a := a1) (b := some (true, .list (qs.map someD))) (y := .side p) (d := a4) (e := a5) hz
  have ea : sApp 6 (liftA dTup (aC (eC (.str "aside")) (aC (eV 7) aN))) (lenv L ws s acc (some (false, .int i)) a1 (some (true, .list (qs.map someD))) (some (false, (Spot.side p).d)) a4 a5) =
      some (.nx (lenv L ws s acc (some (false, .int i)) a1 (some (true, .list (qs.map someD ++ [someD (.aside, .side p)]))) (some (false, (Spot.side p).d)) a4 a5)) := sApp_of rfl (by simp [someD, Mv.d, lenv]) (by rw [List.length_map]; omega)
  rcases hp with rfl | rfl
  · by_cases h2 : ((s.count (.side p) : Nat) : Int) < room L p
    · unfold s6M
      rw [sIf_s, ea]
      unfold lenv at e8 ⊢
      simp [e1, Spot.d]
      simp [Spot.d] at e8
      simp [e8, e9, e7, h2, someD, Spot.d]
    · unfold s6M
      rw [sIf_s, ea]
      unfold lenv at e8 ⊢
      simp [e1, Spot.d]
      simp [Spot.d] at e8
      simp [e8, e9, e7, h2]
  · unfold s6M lenv
    simp [e1, Spot.d]
theorem b3_moves_t (hb : ws[i]? = some b) (hx : s[i]? = some x) (hr : inR L.length x = true) (hz : s.length ≤ 1000) (ha : acc.length ≤ 900) :
    ∃ c1 c2 c3 c4 c5, b3_l_moves (lenv L ws s acc (some (false, .int i)) a1 a2 a3 a4 a5) = some (.nx (lenv L ws s (acc ++ (movesAt L ws s i).map stepD) (some (false, .int i)) c1 c2 c3 c4 c5)) ∨
      b3_l_moves (lenv L ws s acc (some (false, .int i)) a1 a2 a3 a4 a5) = some (.ct (lenv L ws s (acc ++ (movesAt L ws s i).map stepD) (some (false, .int i)) c1 c2 c3 c4 c5)) := by
  have e1 := atI_at (f := Spot.d) hx
  have e2 := atI_at (f := wD) hb
  have hi : i < s.length := (List.getElem?_eq_some_iff.mp hx).1
  rw [somes_moves hb hx]
  have main : ∀ p : Int, (x = .lane p ∨ x = .side p) → 0 ≤ p → p < L.length → ∃ c1 c2 c3 c4 c5, b3_l_moves (lenv L ws s acc (some (false, .int i)) a1 a2 a3 a4 a5) = some (.nx (lenv L ws s (acc ++ ((somes L b s x).map fun q => ((q.1, i), s.set i q.2)).map stepD) (some (false, .int i)) c1 c2 c3 c4 c5)) := by
    intro p hp h0 h1
    have hne : x ≠ .out := by rcases hp with rfl | rfl <;> simp
    have hah := ahead_in (n := L.length) (b := b) (s := s) (p := p)
    have hqs : somes L b s x = (if nextSpot L.length b p ∉ s ∨ nextSpot L.length b p = .out then [(wordOf x, nextSpot L.length b p)] else []) ++ if x = Spot.lane p ∧ ((s.count (Spot.side p) : Nat) : Int) < room L p then [(Mv.aside, Spot.side p)] else [] := by
      rcases hp with rfl | rfl
      · simp only [somes, hah, wordOf, true_and]
        by_cases q : nextSpot L.length b p ∉ s ∨ nextSpot L.length b p = .out
        · simp only [if_pos q]
        · simp only [if_neg q]
      · simp only [somes, hah, wordOf, reduceCtorEq, false_and, if_false, List.append_nil]
        by_cases q : nextSpot L.length b p ∉ s ∨ nextSpot L.length b p = .out
        · simp only [if_pos q]
        · simp only [if_neg q]
    have hl1 : (if nextSpot L.length b p ∉ s ∨ nextSpot L.length b p = .out then [(wordOf x, nextSpot L.length b p)] else []).length ≤ 1 := by split <;> simp
    have hl2 : (somes L b s x).length ≤ 2 := by
      rw [hqs, List.length_append]
      have : (if x = .lane p ∧ ((s.count (.side p) : Nat) : Int) < room L p then [(Mv.aside, Spot.side p)] else []).length ≤ 1 := by split <;> simp
      omega
    have e3 := on_t (L := L) (b := b) (p := p)
    have t4 := s4_t (L := L) (ws := ws) (acc := acc) (a3 := a3) (a4 := a4) (a5 := a5) (nx := nextSpot L.length b p) hx hne
    have t6 := s6_t (L := L) (ws := ws) (acc := acc) (a1 := some (false, (nextSpot L.length b p).d)) (a4 := a4) (a5 := a5) hx hp h0 h1 hz (Nat.le_trans hl1 (by omega))
    rw [← hqs] at t6
    obtain ⟨d', e', t7⟩ := s7_t (L := L) (ws := ws) (s := s) (acc := acc) (a1 := some (false, (nextSpot L.length b p).d)) (a3 := some (false, (Spot.side p).d)) (a4 := a4) (a5 := a5) hi hz ha (somes L b s x) hl2
    refine ⟨_, _, _, _, _, Eq.trans ?_ t7⟩
    have q1 : dIx x.d (.int 1) = some (.int p) := by rcases hp with rfl | rfl <;> simp [Spot.d]
    obtain ⟨y, e5, e6⟩ := out_eq (x := x)
    have z1 : (sIf (lift2 (dEq false) (lift2 dIx (lift2 dIx (eV 2) (eV 4)) (eC (.int 0))) (eC (.str "out"))) sCt sNx) (lenv L ws s acc (some (false, .int i)) a1 a2 a3 a4 a5) = some (.nx (lenv L ws s acc (some (false, .int i)) a1 a2 a3 a4 a5)) := by
      unfold lenv
      simp [e1, e5, e6, hne]
    have z2 : (sAsg (bName 5) (eCall P_l_on false (aC (eV 0) (aC (lift2 dIx (eV 1) (eV 4)) (aC (lift2 dIx (lift2 dIx (eV 2) (eV 4)) (eC (.int 1))) aN))))) (lenv L ws s acc (some (false, .int i)) a1 a2 a3 a4 a5) = some (.nx (lenv L ws s acc (some (false, .int i)) (some (false, (nextSpot L.length b p).d)) a2 a3 a4 a5)) := by
      unfold lenv
      simp [e1, e2, q1, e3]
    have z3 : (sOwn 6 (liftA dLst aN)) (lenv L ws s acc (some (false, .int i)) (some (false, (nextSpot L.length b p).d)) a2 a3 a4 a5) = some (.nx (lenv L ws s acc (some (false, .int i)) (some (false, (nextSpot L.length b p).d)) (some (true, .list [])) a3 a4 a5)) := by
      unfold lenv
      simp
    have z5 : ∀ l : PyData, (sAsg (bName 7) (liftA dTup (aC (eC (.str "side")) (aC (lift2 dIx (lift2 dIx (eV 2) (eV 4)) (eC (.int 1))) aN)))) (lenv L ws s acc (some (false, .int i)) (some (false, (nextSpot L.length b p).d)) (some (true, l)) a3 a4 a5) = some (.nx (lenv L ws s acc (some (false, .int i)) (some (false, (nextSpot L.length b p).d)) (some (true, l)) (some (false, (Spot.side p).d)) a4 a5)) := by
      intro l
      unfold lenv
      simp [e1, q1]
      rfl
    have eb : b3_l_moves = sSeq (sIf (lift2 (dEq false) (lift2 dIx (lift2 dIx (eV 2) (eV 4)) (eC (.int 0))) (eC (.str "out"))) sCt sNx) (sSeq (sAsg (bName 5) (eCall P_l_on false (aC (eV 0) (aC (lift2 dIx (eV 1) (eV 4)) (aC (lift2 dIx (lift2 dIx (eV 2) (eV 4)) (eC (.int 1))) aN))))) (sSeq (sOwn 6 (liftA dLst aN)) (sSeq s4M (sSeq (sAsg (bName 7) (liftA dTup (aC (eC (.str "side")) (aC (lift2 dIx (lift2 dIx (eV 2) (eV 4)) (eC (.int 1))) aN)))) (sSeq s6M s7M))))) := rfl
    rw [eb]
    rw [sSeq_s, z1, seqO_nx, sSeq_s, z2, seqO_nx, sSeq_s, z3, seqO_nx, sSeq_s, t4, seqO_nx, sSeq_s, z5, seqO_nx, sSeq_s, t6, seqO_nx]
  cases x with
  | out =>
    refine ⟨a1, a2, a3, a4, a5, .inr ?_⟩
    unfold b3_l_moves lenv
    simp [e1, Spot.d, somes]
  | lane p =>
    have hr' : 0 ≤ p ∧ p < L.length := by simpa [inR] using hr
    obtain ⟨c1, c2, c3, c4, c5, g⟩ := main p (.inl rfl) hr'.1 hr'.2
    exact ⟨c1, c2, c3, c4, c5, .inl g⟩
  | side p =>
    have hr' : 0 ≤ p ∧ p < L.length := by simpa [inR] using hr
    obtain ⟨c1, c2, c3, c4, c5, g⟩ := main p (.inr rfl) hr'.1 hr'.2
    exact ⟨c1, c2, c3, c4, c5, .inl g⟩
end
theorem law_moves_t {L : List Int} {ws : List Bool} {s : Stand} (h : InU L.length ws.length s) (hw : ws.length ≤ 100) : P_l_moves [eL L, eW ws, eS s] = some (.ok (true, .list ((movesOf L ws s).map stepD))) := by
  have hl := h.1
  have go : ∀ (is : List Nat) (acc : List PyData) (k a b c d e : Option (Bool × PyData)), (∀ i ∈ is, i < ws.length) → acc.length + 3 * is.length ≤ 900 → ∃ k' a' b' c' d' e', forGo (bName 4) b3_l_moves (is.map fun i => PyData.int ((i : Nat) : Int)) (lenv L ws s acc k a b c d e) = some (.nx (lenv L ws s (acc ++ (is.flatMap (movesAt L ws s)).map stepD) k' a' b' c' d' e')) := by
    intro is
    induction is with
    | nil => exact fun acc k a b c d e _ _ => ⟨k, a, b, c, d, e, by simp⟩
    | cons i is ih =>
      intro acc k a b c d e hi hz
      rw [List.length_cons] at hz
      have hi' := hi i List.mem_cons_self
      have hb : ws[i]? = some ws[i] := List.getElem?_eq_getElem hi'
      have hx : s[i]? = some (s[i]'(by omega)) := List.getElem?_eq_getElem (by omega)
      obtain ⟨c1, c2, c3, c4, c5, g⟩ := b3_moves_t (L := L) (acc := acc) (a1 := a) (a2 := b) (a3 := c) (a4 := d) (a5 := e) hb hx (h.2 _ (List.getElem_mem _)) (by omega) (by omega)
      have hm := movesAt_len (L := L) (ws := ws) (s := s) (i := i)
      obtain ⟨k', a', b', c', d', e', g2⟩ := ih (acc ++ (movesAt L ws s i).map stepD) (some (false, .int i)) c1 c2 c3 c4 c5 (fun j hj => hi j (List.mem_cons_of_mem _ hj)) (by rw [List.length_append, List.length_map]; omega)
      refine ⟨k', a', b', c', d', e', ?_⟩
      have e0 : bName 4 (.int i) (lenv L ws s acc k a b c d e) = some (lenv L ws s acc (some (false, .int i)) a b c d e) := rfl
      rw [List.map_cons]
      have g3 : forGo (bName 4) b3_l_moves (.int i :: is.map fun i => PyData.int ((i : Nat) : Int)) (lenv L ws s acc k a b c d e) = forGo (bName 4) b3_l_moves (is.map fun i => PyData.int ((i : Nat) : Int)) (lenv L ws s (acc ++ (movesAt L ws s i).map stepD) (some (false, .int i)) c1 c2 c3 c4 c5) := by
        rcases g with g | g
        · exact forGo_nx e0 g
        · exact forGo_ct e0 g
      rw [g3, g2]
      simp
  obtain ⟨k', a', b', c', d', e', g⟩ := go (List.range ws.length) [] none none none none none none (fun i hi => List.mem_range.mp hi) (by simp; omega)
  have hs : sRng (lift1 dLen (eV 2)) [some (false, eL L), some (false, eW ws), some (false, eS s), some (true, .list []), none, none, none, none, none, none, none] = some (.ok ((List.range ws.length).map fun i => PyData.int ((i : Nat) : Int))) := sRng_of (by simp [hl]) (by omega)
  unfold lenv at g
  simp only [P_l_moves, runFn, g_l_moves, startE]
  simp [sFor_of hs, g, movesOf]
end DS
namespace DS
open PySem PySem.Spec PyProof.Rows L2
theorem mem_keys {β : Type} {n : Bool} {g : β → PyData} {V : List Stand} {f : Stand → β} {h : Stand} : dIn n (eS h) (.dict (dD g (V.map fun x => (x, f x)))) = some (.bool (if n then !decide (h ∈ V) else decide (h ∈ V))) := by
  have := dIn_dD (n := n) (g := g) (F := V.map fun x => (x, f x)) (a := h)
  rw [map_fst_self] at this
  refine this.trans ?_
  cases n
  · exact congrArg (fun b => some (PyData.bool b)) (decide_eq_decide.mpr Iff.rfl)
  · exact congrArg (fun b => some (PyData.bool (!b))) (decide_eq_decide.mpr Iff.rfl)
theorem nil_lst {α : Type} [DecidableEq α] [En α] {xs : List α} {n : Bool} : dEq n (.list (xs.map En.d)) (.list []) = some (.bool (if n then !decide (xs = []) else decide (xs = []))) := dEq_lstE xs []
theorem nil_stands {xs : List Stand} {n : Bool} : dEq n (.list (xs.map eS)) (.list []) = some (.bool (if n then !decide (xs = []) else decide (xs = []))) := by
  have := nil_lst (xs := xs) (n := n)
  refine this.trans ?_
  cases n
  · exact congrArg (fun b => some (PyData.bool b)) (decide_eq_decide.mpr Iff.rfl)
  · exact congrArg (fun b => some (PyData.bool (!b))) (decide_eq_decide.mpr Iff.rfl)
def envC (L : List Int) (ws : List Bool) (s : Stand) (V W : List Stand) (z : Option (Bool × PyData)) : DS.Env :=
  [some (false, eL L), some (false, eW ws), some (false, eS s), some (true, .dict (dD PyData.bool (V.map fun x => (x, true)))), some (true, .list (W.map eS)), z, none, none]
theorem c1_come_t {L : List Int} {ws : List Bool} {h : Stand} {a b c d e : Option (Bool × PyData)} (hh : InU L.length ws.length h) (hw : ws.length ≤ 100) :
    c1_l_come_to [some (false, eL L), some (false, eW ws), a, b, c, some (false, eS h), d, e] = some (.ok (.list ((nextOf L ws h).map eS))) := by
  have e2 := law_moves_t hh hw
  refine eLC_of (ds := (movesOf L ws h).map stepD) (sLst_of (by simp [e2])) ?_
  unfold nextOf
  rw [List.map_map]
  exact lcGo_map fun x hx => step_yes rfl rfl
/-- both searches end alike -/
theorem come_loop {L : List Int} {ws : List Bool} {s : Stand} (hs : InU L.length ws.length s) (hw : ws.length ≤ 6) (sm : Small L.length ws.length) : ReachL L ws s (reachL L ws s) ∧ P_l_come_to [eL L, eW ws, eS s] = some (.ok (true, .dict (dD PyData.bool ((reachL L ws s).map fun x => (x, true))))) := by
  have hz := sizeLine_eq
  have hp := small_pow sm
  have hul : (allS L.length ws.length).length ≤ 117649 := by rw [allS_len]; exact hp
  obtain ⟨z, r, g⟩ := loop_dfs (succ := nextOf L ws) (U := allS L.length ws.length) (s := s) (M := 18) (B := 3000000) (fun x hx y hy => inU_allS (next_inU (allS_inU hx) hy)) (fun x hx => Nat.le_trans next_len (by omega)) (cond := w3_l_come_to) (body := b2_l_come_to) (Z := Option (Bool × PyData)) (E := fun V W z => envC L ws s V W z)
    (fun V W z => by
      unfold w3_l_come_to envC
      have e := nil_stands (xs := W) (n := true)
      simp [e])
    (fun V W h z hV hW hh => by
      have hi := allS_inU hh
      have ep : sPop 5 4 (envC L ws s V (W ++ [h]) z) = some (.nx (envC L ws s V W (some (false, eS h)))) := by
        unfold sPop envC ownL
        simp
      have e := mem_keys (n := true) (g := PyData.bool) (V := V) (f := fun _ => true) (h := h)
      refine ⟨some (false, eS h), fun hm => .inl ?_, fun hm hlt hW2 => ?_⟩
      · unfold b2_l_come_to
        rw [sSeq_s, ep]
        unfold envC
        simp [e, hm]
      · have ec := c1_come_t (L := L) (ws := ws) (h := h) (a := some (false, eS s)) (b := some (true, .dict (dD PyData.bool ((V ++ [h]).map fun x => (x, true))))) (c := some (true, .list (W.map eS))) (d := none) (e := none) hi (by omega)
        have hk : kOk (eS h) = some (Ky.k h) := kOk_d h
        have hpd : putD (dD PyData.bool (V.map fun x => (x, true))) (Ky.k h) (eS h) (.bool true) = dD PyData.bool ((V ++ [h]).map fun x => (x, true)) := by
          rw [List.map_append]
          exact putD_new (g := PyData.bool) (by rw [map_fst_self (f := fun _ => true)]; exact hm)
        have hlen : (dD PyData.bool (V.map fun x => (x, true))).length < sizeLine := by
          unfold dD
          rw [List.length_map, List.length_map]
          omega
        have eput : sPut 3 (eV 5) (eC (.bool true)) (envC L ws s V W (some (false, eS h))) = some (.nx (envC L ws s (V ++ [h]) W (some (false, eS h)))) := by
          unfold sPut envC
          simp [ownD, putO, hk, hlen, hpd]
        have hl2 : W.length + (nextOf L ws h).length ≤ sizeLine := by
          rw [List.length_append] at hW2
          omega
        have eown : (sOwn 4 (lift2 iCat (rV 4) c1_l_come_to)) (envC L ws s (V ++ [h]) W (some (false, eS h))) = some (.nx (envC L ws s (V ++ [h]) (W ++ nextOf L ws h) (some (false, eS h)))) := by
          unfold envC
          generalize dD PyData.bool ((V ++ [h]).map fun x => (x, true)) = DD at ec ⊢
          have ei : iCat (.list (W.map eS)) (.list ((nextOf L ws h).map eS)) = some (.list (W.map eS ++ (nextOf L ws h).map eS)) := iCat_l (by simpa using hl2)
          simp [ec, ei]
        have e5 : (sIf (lift2 (dIn true) (eV 5) (rV 3)) (sSeq (sPut 3 (eV 5) (eC (.bool true))) (sOwn 4 (lift2 iCat (rV 4) c1_l_come_to))) sNx) (envC L ws s V W (some (false, eS h))) = some (.nx (envC L ws s (V ++ [h]) (W ++ nextOf L ws h) (some (false, eS h)))) := by
          rw [sIf_s, sSeq_s, eput, seqO_nx, eown]
          have : (lift2 (dIn true) (eV 5) (rV 3)) (envC L ws s V W (some (false, eS h))) = some (.ok (.bool true)) := by
            unfold envC
            simp [e, hm]
          rw [this]
          rfl
        unfold b2_l_come_to
        rw [sSeq_s, ep, seqO_nx, e5])
    2999999 10000000 [] [s] none ⟨List.nodup_nil, (by intro x hx; cases hx), (by intro x hx; rw [List.mem_singleton.mp hx]; exact inU_allS hs), .inr (by simp), (by intro x hx; cases hx), fun P h1 h2 => ⟨(by intro x hx; cases hx), (by intro x hx; rw [List.mem_singleton.mp hx]; exact h1)⟩⟩ (by simp; omega) (by omega) (by omega)
  refine ⟨r, ?_⟩
  have g' : whileGo w3_l_come_to b2_l_come_to 10000000 [some (false, eL L), some (false, eW ws), some (false, eS s), some (true, .dict []), some (true, .list [eS s]), none, none, none] = _ := g
  simp only [P_l_come_to, runFn, g_l_come_to, startE]
  simp [sWhile, g']
  rfl
theorem dEq_refl {n : Bool} {x : PyData} (h : SeqAt.shaped x = true) : dEq n x x = some (.bool (if n then false else true)) := by
  unfold dEq
  rw [h, Bool.and_self, if_pos rfl, SeqAt.eqv_refl x (SeqAt.canLay_of_shaped h)]
  cases n <;> rfl
theorem alike_spot (a b : Spot) : PySem.W.alike a.d b.d = true := by
  cases a <;> cases b <;> simp [Spot.d, PySem.W.alike, PySem.W.alikeAll]
theorem alike_spots : ∀ a b : Stand, PySem.W.alikeAll (a.map Spot.d) (b.map Spot.d) = true
  | [], _ => by simp [PySem.W.alikeAll]
  | _ :: _, [] => by simp [PySem.W.alikeAll]
  | x :: a, y :: b => by rw [List.map_cons, List.map_cons, PySem.W.alikeAll, alike_spot, alike_spots a b]; rfl
theorem alike_eS (a b : Stand) : PySem.W.alike (eS a) (eS b) = true := by
  show PySem.W.alike (.tuple (a.map Spot.d)) (.tuple (b.map Spot.d)) = true
  rw [PySem.W.alike]
  exact alike_spots a b
theorem imms_S : ∀ a : Stand, imms (a.map Spot.d) = true
  | [] => rfl
  | x :: a => by rw [List.map_cons, imms, imms_S a, imm_d]; rfl
theorem imm_eS (a : Stand) : imm (eS a) = true := by
  show imm (.tuple (a.map Spot.d)) = true
  rw [imm]
  exact imms_S a
theorem stands_ok {V : List Stand} (h : ∀ x ∈ V, x ≠ []) : sortOk (V.map eS) = true := by
  unfold sortOk
  rw [List.all_eq_true]
  intro d hd
  obtain ⟨a, ha, rfl⟩ := List.mem_map.mp hd
  have t : tup1 (eS a) = true := by
    cases a with
    | nil => exact absurd rfl (h _ ha)
    | cons x a => rfl
  have l : (eS a).canLay0 = true := En.lay a
  have dp : (eS a).depth ≤ 60 := Nat.le_trans (En.dep a) (by decide)
  simp only [t, imm_eS, l, dp, decide_true, Bool.true_and, List.all_eq_true]
  intro d' hd'
  obtain ⟨b, hb, rfl⟩ := List.mem_map.mp hd'
  exact alike_eS a b
theorem shaped_stands {V : List Stand} : SeqAt.shaped (.list (V.map eS)) = true := sh_lst V
theorem sort_shaped {V : List Stand} : SeqAt.shaped (.list (sortD (V.map eS))) = true := by
  have hp : (sortD (V.map eS)).Perm (V.map eS) := List.mergeSort_perm _ _
  have h : ∃ V' : List Stand, sortD (V.map eS) = V'.map eS := by
    have : ∀ l : List PyData, (∀ d ∈ l, ∃ a : Stand, d = eS a) → ∃ V' : List Stand, l = V'.map eS := by
      intro l
      induction l with
      | nil => exact fun _ => ⟨[], rfl⟩
      | cons d l ih =>
        intro h
        obtain ⟨a, rfl⟩ := h d List.mem_cons_self
        obtain ⟨V', rfl⟩ := ih fun d' hd' => h d' (List.mem_cons_of_mem _ hd')
        exact ⟨a :: V', rfl⟩
    refine this _ fun d hd => ?_
    obtain ⟨a, _, rfl⟩ := List.mem_map.mp (hp.mem_iff.mp hd)
    exact ⟨a, rfl⟩
  obtain ⟨V', e⟩ := h
  rw [e]
  exact shaped_stands
theorem c1_right_t {V : List Stand} {a : Option (Bool × PyData)} (hz : V.length ≤ sizeLine) : c1_l_right [some (false, .list (V.map eS)), a, none] = some (.ok (.list (List.replicate V.length (.bool true)))) := by
  refine eLC_of (ds := V.map eS) (sLst_of rfl) ?_
  rw [← List.map_const']
  exact lcGo_map fun x hx => step_yes rfl rfl
theorem right_t {V : List Stand} (h : ∀ x ∈ V, x ≠ []) (hz : V.length ≤ sizeLine) : P_l_right [.list (V.map eS), .dict (dD PyData.bool (V.map fun x => (x, true)))] = some (.ok (false, .bool true)) := by
  have e1 := c1_right_t (V := V) (a := some (false, .dict (dD PyData.bool (V.map fun x => (x, true))))) hz
  have e2 := dLen_dD (g := PyData.bool) (F := V.map fun x => (x, true))
  have s1 : dSort (.list (V.map eS)) = some (.list (sortD (V.map eS))) := by
    unfold dSort
    simp only [stands_ok h, if_true]
  have s2 : dSort (.dict (dD PyData.bool (V.map fun x => (x, true)))) = some (.list (sortD (V.map eS))) := by
    have ek : (dD PyData.bool (V.map fun x => (x, true))).map (·.1) = V.map eS := by
      unfold dD
      rw [List.map_map, List.map_map]
      rfl
    show (if isScr (dD PyData.bool (V.map fun x => (x, true))) = true then none else if sortOk ((dD PyData.bool (V.map fun x => (x, true))).map (·.1)) = true then some (PyData.list (sortD ((dD PyData.bool (V.map fun x => (x, true))).map (·.1)))) else none) = _
    rw [dD_scr, ek, stands_ok h]
    rfl
  have e3 := dEq_refl (n := false) (sort_shaped (V := V))
  have e4 : dIs .list (.list (V.map eS)) = some (.bool true) := rfl
  generalize dD PyData.bool (V.map fun x => (x, true)) = DD at *
  generalize sortD (V.map eS) = SS at *
  simp only [P_l_right, runFn, g_l_right, startE]
  simp [e1, e2, e3, e4, s1, s2]
theorem handed_shaped {L : List Int} {ws : List Bool} : SeqAt.shaped (.list [eL L, eW ws]) = true := by
  unfold SeqAt.shaped
  have l1 : PyData.canLay0 (eL L) = true := by
    show PyData.canLay0 (.list (L.map En.d)) = true
    rw [PyData.canLay0, layAll_map]
  have l2 : ∀ ws : List Bool, PyData.canLayAll0 (ws.map wD) = true := by
    intro ws
    induction ws with
    | nil => rfl
    | cons b ws ih =>
      rw [List.map_cons, PyData.canLayAll0, ih, Bool.and_true]
      cases b <;> (simp only [wD, PyData.canLay0]; decide +kernel)
  have l3 : PyData.canLay0 (eW ws) = true := by
    show PyData.canLay0 (.list (ws.map wD)) = true
    rw [PyData.canLay0, l2]
  have d1 : PyData.depth (eL L) ≤ 1 := by
    show PyData.depth (.list (L.map PyData.int)) ≤ 1
    rw [PyData.depth, PySem.W.depth_ints]
    exact Nat.le_refl _
  have d2 : ∀ ws : List Bool, PyData.depthAll (ws.map wD) = 0 := by
    intro ws
    induction ws with
    | nil => simp [PyData.depthAll]
    | cons b ws ih => rw [List.map_cons, PyData.depthAll, ih]; simp [wD, PyData.depth]
  have d3 : PyData.depth (eW ws) ≤ 1 := by
    show PyData.depth (.list (ws.map wD)) ≤ 1
    rw [PyData.depth, d2]
    exact Nat.le_refl _
  simp only [PyData.canLay0, PyData.canLayAll0, l1, l3, Bool.and_self, Bool.true_and, PyData.depth, PyData.depthAll, decide_eq_true_eq]
  refine decide_eq_true (Nat.le_trans (Nat.succ_le_succ (Nat.max_le.mpr ⟨d1, Nat.max_le.mpr ⟨d3, Nat.zero_le _⟩⟩)) (by decide))
@[simp] theorem dLst1_eL {L} : dLst1 (eL L) = some (eL L) := rfl
@[simp] theorem dLst1_eW {L} : dLst1 (eW L) = some (eW L) := rfl
theorem kept_shaped {V : List Stand} : SeqAt.shaped (.list (V.map eS ++ [.tuple []])) = true := by
  have e : V.map eS ++ [PyData.tuple []] = (V ++ [[]]).map eS := by simp [eS]
  rw [e]
  exact shaped_stands
theorem Rch.len {L : List Int} {ws : List Bool} {s : Stand} {V : List Stand} (r : ReachL L ws s V) (sm : Small L.length ws.length) : V.length ≤ 117649 := by
  have h1 := r.nd.length_le_of_subset r.sub
  rw [allS_len] at h1
  exact Nat.le_trans h1 (small_pow sm)
theorem law04_t {ns : List Int} : P_law04 [scrD ns] = some (.ok (false, .bool true)) := by
  obtain ⟨L, ws, s, v, sm, e0⟩ := built_t (ns := ns)
  obtain ⟨r, e1⟩ := come_loop (L := L) (ws := ws) (s := s) ⟨v.len, v.inr⟩ v.w6 sm
  have e2 := reached_t v sm
  have hne : ∀ x ∈ reachL L ws s, x ≠ [] := fun x hx e => by
    have v' := r.valid v x hx
    have h1 := v'.len
    have h2 := v'.w1
    rw [e, List.length_nil] at h1
    omega
  have hz := sizeLine_eq
  have hlen := r.len sm
  have e3 := right_t hne (by omega)
  have e4 := dEq_refl (n := true) (handed_shaped (L := L) (ws := ws))
  have e5 := dEq_refl (n := false) (handed_shaped (L := L) (ws := ws))
  have e6 := dEq_refl (n := false) (kept_shaped (V := reachL L ws s))
  have e7 : iCat (.list ((reachL L ws s).map eS)) (.list [.tuple []]) = some (.list ((reachL L ws s).map eS ++ [.tuple []])) := iCat_l (by rw [List.length_map, List.length_singleton]; omega)
  have hl1 : ((reachL L ws s).map eS).length < sizeLine := by rw [List.length_map]; omega
  generalize (reachL L ws s).map eS = A at *
  generalize dD PyData.bool ((reachL L ws s).map fun x => (x, true)) = DD at *
  have ea : ∀ (a b c d e f g h : Option (Bool × PyData)), sApp 3 (liftA dTup aN) [a, b, c, some (true, .list A), d, e, f, g, h] = some (.nx [a, b, c, some (true, .list (A ++ [.tuple []])), d, e, f, g, h]) := fun a b c d e f g h => sApp_of rfl (by simp) hl1
  simp only [P_law04, runFn, g_law04, startE]
  simp [e0, e1, e2, e3, e4, e5, e6, e7, ea, imm]
end DS
namespace DS
open PySem PySem.Spec PyProof.Rows L2
/-- a thing that is no allowed move -/
inductive BadMv (L : List Int) (ws : List Bool) (s : List Spot) : PyData → Prop
  | kind {d : PyData} : dIs .tuple d = some (.bool false) → BadMv L ws s d
  | len {ds : List PyData} : ds.length ≠ 2 → BadMv L ws s (.tuple ds)
  | num {a b : PyData} : P_is_among [b, .int 0, .int ((ws.length : Int) - 1)] = some (.ok (false, .bool false)) → BadMv L ws s (.tuple [a, b])
  | none {a : PyData} {k : Int} : 0 ≤ k → k < ws.length → (∀ q ∈ movesOf L ws s, dEq false (mvD q.1) (.tuple [a, .int k]) = some (.bool false)) → BadMv L ws s (.tuple [a, .int k])
theorem behind_none {L : List Int} {ws : List Bool} {s : List Spot} {d : PyData} : ∀ (qs : List Step) (u v : Option (Bool × PyData)), (∀ q ∈ qs, dEq false (mvD q.1) d = some (.bool false)) →
    ∃ u' v', forGo (bTup [4, 5]) b1_behind (qs.map stepD) [some (false, eL L), some (false, eW ws), some (false, eS s), some (false, d), u, v] = some (.nx [some (false, eL L), some (false, eW ws), some (false, eS s), some (false, d), u', v'])
  | [], u, v, _ => ⟨u, v, rfl⟩
  | q :: qs, u, v, h => by
    obtain ⟨u', v', ih⟩ := behind_none (L := L) (ws := ws) (s := s) (d := d) qs (some (false, mvD q.1)) (some (false, eS q.2)) fun q' hq => h q' (List.mem_cons_of_mem _ hq)
    refine ⟨u', v', ?_⟩
    rw [← ih]
    refine forGo_nx rfl ?_
    have := h q List.mem_cons_self
    simp [b1_behind, this]
theorem behind_bad {L : List Int} {ws : List Bool} {s : List Spot} {d : PyData} (v : Valid L ws s) (h : BadMv L ws s d) : P_behind [eL L, eW ws, eS s, d] = some (.error .move) := by
  have e1 := need_stand_t v
  cases h with
  | kind h => simp [P_behind, runFn, g_behind, startE, e1, h, sRaise]
  | @len ds h =>
    have h1 : dIs .tuple (.tuple ds) = some (.bool true) := rfl
    have h2 : dLen (.tuple ds) = some (.int ds.length) := rfl
    have h3 : decide ((ds.length : Int) = 2) = false := decide_eq_false (by omega)
    simp [P_behind, runFn, g_behind, startE, e1, h1, h2, h3, sRaise]
  | @num a b h =>
    have h1 : dIs .tuple (.tuple [a, b]) = some (.bool true) := rfl
    have h2 : dLen (.tuple [a, b]) = some (.int 2) := rfl
    have h3 : dIx (.tuple [a, b]) (.int 1) = some b := rfl
    simp [P_behind, runFn, g_behind, startE, e1, h1, h2, h3, h, sRaise]
  | @none a k h0 h1 h =>
    have e2 := moves_of_t (L := L) v.len v.inr (by have := v.w6; omega)
    have e3 := is_among_t (x := k) (a := 0) (b := (ws.length : Int) - 1) (by omega) (by omega)
    obtain ⟨u', v', e4⟩ := behind_none (L := L) (ws := ws) (s := s) (d := .tuple [a, .int k]) (movesOf L ws s) none none h
    have hs : sLst (noD (eCall P_moves_of true (aC (eV 0) (aC (eV 1) (aC (eV 2) aN))))) [some (false, eL L), some (false, eW ws), some (false, eS s), some (false, .tuple [a, .int k]), none, none] = some (.ok ((movesOf L ws s).map stepD)) := sLst_of (by simp [e2])
    have g1 : dIs .tuple (.tuple [a, .int k]) = some (.bool true) := rfl
    have g2 : dLen (.tuple [a, .int k]) = some (.int 2) := rfl
    have g3 : dIx (.tuple [a, .int k]) (.int 1) = some (.int k) := rfl
    simp [P_behind, runFn, g_behind, startE, e1, g1, g2, g3, e3, sFor_of hs, e4, sRaise]
theorem kind_move : k2_l_refused .move (exEnv 5 4) = some (.rt false (.bool true)) := by
  have e : dEq false (.list [.str "move", .str "value"]) (.list [.str "move", .str "value"]) = some (.bool true) := dEq_refl (n := false) (by decide +kernel)
  have e1 : eKind (kindD .move) (eV 4) (exEnv 5 4) = some (.ok (.list [.str "move", .str "value"])) := rfl
  simp [k2_l_refused, e1, e]
theorem refused_t {L : List Int} {ws : List Bool} {s : List Spot} {d : PyData} (v : Valid L ws s) (h : BadMv L ws s d) : P_l_refused [eL L, eW ws, eS s, d] = some (.ok (false, .bool true)) := by
  have e1 := behind_bad v h
  have e2 : t1_l_refused [some (false, eL L), some (false, eW ws), some (false, eS s), some (false, d), none] = some (.xc .move) := by
    simp [t1_l_refused, e1]
  have e3 : sTry 5 4 t1_l_refused k2_l_refused [some (false, eL L), some (false, eW ws), some (false, eS s), some (false, d), none] = some (.rt false (.bool true)) := by
    unfold sTry
    simp only [List.map_cons, List.map_nil, dropO]
    rw [e2]
    simp only [kind_move]
    rfl
  simp only [P_l_refused, runFn, g_l_refused, startE]
  simp [e3]
theorem among_t {b : PyData} {m : Int} (h : (∃ k : Int, b = .int k ∧ ¬ (0 ≤ k ∧ k ≤ m)) ∨ dIs .int b = some (.bool false) ∨ ∃ c, b = .bool c) : P_is_among [b, .int 0, .int m] = some (.ok (false, .bool false)) := by
  rcases h with ⟨k, rfl, h⟩ | h | ⟨c, rfl⟩
  · by_cases h0 : 0 ≤ k
    · have h1 : ¬ k ≤ m := fun z => h ⟨h0, z⟩
      simp [P_is_among, runFn, g_is_among, startE, dIs, lChain, h0, h1]
    · simp [P_is_among, runFn, g_is_among, startE, dIs, lChain, h0]
  · simp [P_is_among, runFn, g_is_among, startE, h]
  · simp [P_is_among, runFn, g_is_among, startE, dIs]
theorem word_none {L : List Int} {ws : List Bool} {s : List Spot} {a : PyData} {k : Int} (h0 : 0 ≤ k) (h1 : k < ws.length) (hs : SeqAt.shaped (.tuple [a, .int k]) = true) (h : ∀ m : Mv, PyData.eqv m.d a = false) : BadMv L ws s (.tuple [a, .int k]) := by
  refine .none h0 h1 fun q hq => ?_
  have s1 : SeqAt.shaped (mvD q.1) = true := sh_en q.1
  unfold dEq
  rw [s1, hs, Bool.and_self, if_pos rfl]
  have : PyData.eqv (mvD q.1) (.tuple [a, .int k]) = false := by
    unfold mvD
    simp only [PyData.eqv, PyData.eqvAll, h, Bool.false_and]
  rw [this]
  rfl
theorem move_none {L : List Int} {ws : List Bool} {s : List Spot} {m : Mv} {k : Nat} (h1 : k < ws.length) (h : (m, k) ∉ (movesOf L ws s).map (·.1)) : BadMv L ws s (mvD (m, k)) := by
  refine .none (by omega) (by omega) fun q hq => ?_
  have e := mvD_eq (n := false) (a := q.1) (b := (m, k))
  have : decide (q.1 = (m, k)) = false := decide_eq_false fun z => h (z ▸ List.mem_map.mpr ⟨q, hq, rfl⟩)
  rw [this] at e
  exact e
def oddL (n far : Int) : List PyData := [.tuple [.str "go", .int n], .tuple [.str "aside", .int (-1)], .tuple [.str "on", .int far], .tuple [.str "go", .bool true], .tuple [.str "on", .bool false], .tuple [.str "go", .none], .tuple [.str "go", .str "0"],
  .tuple [.str "go"], .tuple [.str "go", .int 0, .int 0], .list [.str "go", .int 0], .tuple [.str "Go", .int 0], .tuple [.str "back", .int 0], .none, .str "go", .int 0, .tuple [], .tuple [.str "out", .int 0],
  .tuple [.list [.str "go"], .int 0], .tuple [.int 0, .str "go"], .tuple [.str "aside", .list [.int 0]]]
theorem odd_eq {c n : Int} : ∃ far, n ≤ far ∧ P_l_odd [.int c, .int n] = (dIx (.list (oddL n far)) (.int (c % 20))).map fun d => .ok (false, d) := by
  refine ⟨n + c / 20 % 100000000000000000000, by have := Int.emod_nonneg (c / 20) (b := 100000000000000000000) (by decide); omega, ?_⟩
  generalize hf : n + c / 20 % 100000000000000000000 = far
  have i1 : iDiv (.int c) (.int 20) = some (.int (c / 20)) := rfl
  have i2 : iPow (.int 10) (.int 20) = some (.int 100000000000000000000) := by rfl
  have i3 : iMod (.int (c / 20)) (.int 100000000000000000000) = some (.int (c / 20 % 100000000000000000000)) := rfl
  have i4 : iAdd (.int n) (.int (c / 20 % 100000000000000000000)) = some (.int far) := by rw [← hf]; rfl
  have i5 : dNeg (.int 1) = some (.int (-1)) := rfl
  have i6 : iMod (.int c) (.int 20) = some (.int (c % 20)) := rfl
  have hz := sizeLine_eq
  simp only [P_l_odd, runFn, g_l_odd, startE]
  simp [i1, i2, i3, i4, i5, i6, dLst, iCat, hz]
  have fin : ∀ o : Option PyData, (match bindS (Option.map Except.ok o) fun d => some (Out.rt false d) with
    | some (Out.rt b d) => some (Except.ok (b, d))
    | some (Out.nx e) => some (Except.ok (false, PyData.none))
    | some (Out.xc c) => some (Except.error c)
    | x => none) = Option.map (fun d => (Except.ok (false, d) : Rt)) o := fun o => by cases o <;> rfl
  exact fin (atI (oddL n far) (c % 20))
theorem odd_t {L : List Int} {ws : List Bool} {s : List Spot} {c : Int} (hw : 1 ≤ ws.length) : ∃ d, P_l_odd [.int c, .int ws.length] = some (.ok (false, d)) ∧ BadMv L ws s d := by
  obtain ⟨far, hf, e⟩ := odd_eq (c := c) (n := ws.length)
  rw [e]
  have i0 := Int.emod_nonneg c (b := 20) (by decide)
  have i1 := Int.emod_lt_of_pos c (b := 20) (by decide)
  have num : ∀ (w : Str) (k : Int), ¬ (0 ≤ k ∧ k ≤ (ws.length : Int) - 1) → BadMv L ws s (.tuple [.str w, .int k]) := fun w k h => .num (among_t (.inl ⟨k, rfl, h⟩))
  have non : ∀ (w b : PyData), dIs .int b = some (.bool false) → BadMv L ws s (.tuple [w, b]) := fun w b h => .num (among_t (.inr (.inl h)))
  have bln : ∀ (w : PyData) (b : Bool), BadMv L ws s (.tuple [w, .bool b]) := fun w b => .num (among_t (.inr (.inr ⟨b, rfl⟩)))
  have word : ∀ (w : Str), SeqAt.shaped (.tuple [.str w, .int 0]) = true → (∀ m : Mv, PyData.eqv m.d (.str w) = false) → BadMv L ws s (.tuple [.str w, .int 0]) := fun w h1 h2 => word_none (by decide) (by omega) h1 h2
  rcases (by omega : c % 20 = 0 ∨ c % 20 = 1 ∨ c % 20 = 2 ∨ c % 20 = 3 ∨ c % 20 = 4 ∨ c % 20 = 5 ∨ c % 20 = 6 ∨ c % 20 = 7 ∨ c % 20 = 8 ∨ c % 20 = 9 ∨ c % 20 = 10 ∨ c % 20 = 11 ∨ c % 20 = 12 ∨ c % 20 = 13 ∨ c % 20 = 14 ∨ c % 20 = 15 ∨ c % 20 = 16 ∨ c % 20 = 17 ∨ c % 20 = 18 ∨ c % 20 = 19) with h | h | h | h | h | h | h | h | h | h | h | h | h | h | h | h | h | h | h | h <;> rw [h]
  · exact ⟨_, rfl, num _ _ (by omega)⟩
  · exact ⟨_, rfl, num _ _ (by omega)⟩
  · exact ⟨_, rfl, num _ _ (by omega)⟩
  · exact ⟨_, rfl, bln _ _⟩
  · exact ⟨_, rfl, bln _ _⟩
  · exact ⟨_, rfl, non _ _ rfl⟩
  · exact ⟨_, rfl, non _ _ rfl⟩
  · exact ⟨_, rfl, .len (by decide)⟩
  · exact ⟨_, rfl, .len (by decide)⟩
  · exact ⟨_, rfl, .kind rfl⟩
  · exact ⟨_, rfl, word _ (by decide +kernel) fun m => by cases m <;> decide +kernel⟩
  · exact ⟨_, rfl, word _ (by decide +kernel) fun m => by cases m <;> decide +kernel⟩
  · exact ⟨_, rfl, .kind rfl⟩
  · exact ⟨_, rfl, .kind rfl⟩
  · exact ⟨_, rfl, .kind rfl⟩
  · exact ⟨_, rfl, .len (by decide)⟩
  · exact ⟨_, rfl, word _ (by decide +kernel) fun m => by cases m <;> decide +kernel⟩
  · exact ⟨_, rfl, word_none (by decide) (by omega) (by decide +kernel) fun m => by cases m <;> decide +kernel⟩
  · exact ⟨_, rfl, non _ _ rfl⟩
  · exact ⟨_, rfl, non _ _ rfl⟩
theorem behind_of {L : List Int} {ws : List Bool} {s : List Spot} {q : Step} (h : q ∈ movesOf L ws s) : behindOf L ws s q.1 = some q.2 := by
  obtain ⟨f, hf, hm⟩ := first_of (List.mem_map.mpr ⟨q, h, rfl⟩)
  obtain ⟨i, m, b, x, g, hb, hx, hg, rfl⟩ := mem_movesOf h
  obtain ⟨i', m', b', x', g', hb', hx', hg', e⟩ := mem_movesOf hm
  simp only [Prod.mk.injEq] at e
  obtain ⟨⟨rfl, rfl⟩, rfl⟩ := e
  rw [hb] at hb'
  cases hb'
  rw [hx] at hx'
  cases hx'
  rw [hg] at hg'
  cases hg'
  exact hf
theorem c1_are_t {ms : List Move} {a : Option (Bool × PyData)} : c1_l_are_moves [some (false, .list (ms.map mvD)), a, none] = some (.ok (.list (List.replicate ms.length (.bool true)))) := by
  refine eLC_of (ds := ms.map mvD) (sLst_of rfl) ?_
  rw [← List.map_const']
  refine lcGo_map fun m hm => step_yes rfl ?_
  have e1 : dIs .tuple (mvD m) = some (.bool true) := rfl
  have e2 : dIx (mvD m) (.int 0) = some m.1.d := rfl
  have e3 : dIx (mvD m) (.int 1) = some (.int m.2) := rfl
  have e4 : dIs .str m.1.d = some (.bool true) := by cases m.1 <;> rfl
  have e5 := whole_t (i := (m.2 : Int))
  simp [e1, e2, e3, e4, e5]
theorem are_moves_t {ms : List Move} : P_l_are_moves [.list (ms.map mvD), .list (ms.map mvD)] = some (.ok (false, .bool true)) := by
  have e1 := c1_are_t (ms := ms) (a := some (false, .list (ms.map mvD)))
  have e2 : dEq true (.list (ms.map mvD)) (.list (ms.map mvD)) = some (.bool false) := dEq_refl (n := true) (sh_lst ms)
  have e3 : dIs .list (.list (ms.map mvD)) = some (.bool true) := rfl
  generalize PyData.list (ms.map mvD) = A at *
  simp [P_l_are_moves, runFn, g_l_are_moves, startE, e1, e2, e3]
def env02 (ns : List Int) (L : List Int) (ws : List Bool) (s : List Spot) (w m f t k z : Option (Bool × PyData)) : DS.Env :=
  [some (false, scrD ns), some (false, .list ((movesOf L ws s).map stepD)), some (true, .list (((movesOf L ws s).map (·.1)).map mvD)), some (false, .list [eL L, eW ws]), some (true, .list (((movesOf L ws s).map (·.1)).map mvD ++ [mvD (.go, 0)])), w, none, some (false, eL L), some (false, eW ws), some (false, eS s), m, f, t, k, z]
section
variable {ns : List Int} {L : List Int} {ws : List Bool} {s : List Spot}
theorem c2_02 {g : List Spot} {w m f k z : Option (Bool × PyData)} (hz : g.length ≤ 1000) : c2_law02 (env02 ns L ws s w m f (some (false, eS g)) k z) = some (.ok (.list (List.replicate g.length (.bool true)))) := by
  have hz2 := sizeLine_eq
  refine eLC_of (ds := g.map Spot.d) (sTup_of rfl (by rw [List.length_map]; omega)) ?_
  rw [← List.map_const']
  refine lcGo_map fun x hx => step_yes rfl ?_
  have : dIs .tuple x.d = some (.bool true) := by cases x <;> rfl
  simp [env02, this]
theorem loop1_02 (v : Valid L ws s) : ∀ (qs : List Step) (w m f t k z : Option (Bool × PyData)), (∀ q ∈ qs, q ∈ movesOf L ws s) → ∃ m' f' t', forGo (bTup [10, 11]) b3_law02 (qs.map stepD) (env02 ns L ws s w m f t k z) = some (.nx (env02 ns L ws s w m' f' t' k z))
  | [], w, m, f, t, k, z, _ => ⟨m, f, t, rfl⟩
  | q :: qs, w, m, f, t, k, z, h => by
    have hq := h q List.mem_cons_self
    obtain ⟨m', f', t', ih⟩ := loop1_02 v qs w (some (false, mvD q.1)) (some (false, eS q.2)) (some (false, eS q.2)) k z fun q' h' => h q' (List.mem_cons_of_mem _ h')
    refine ⟨m', f', t', ?_⟩
    rw [← ih]
    have e1 := behind_t v (behind_of hq)
    have v' := (move_ok v hq).1
    have hl : q.2.length ≤ 1000 := by have := v'.len; have := v'.w6; omega
    have e2 := c2_02 (ns := ns) (L := L) (ws := ws) (s := s) (w := w) (m := some (false, mvD q.1)) (f := some (false, eS q.2)) (k := k) (z := z) hl
    have e3 : dEq true (eS q.2) (eS q.2) = some (.bool false) := dEq_refl (n := true) (sh_tup q.2)
    have hb : (bTup [10, 11]) (stepD q) (env02 ns L ws s w m f t k z) = some (env02 ns L ws s w (some (false, mvD q.1)) (some (false, eS q.2)) t k z) := rfl
    refine forGo_nx hb ?_
    unfold b3_law02
    have ha : sAsg (bName 12) (eCall P_behind false (aC (lift2 dIx (eV 3) (eC (.int 0))) (aC (lift2 dIx (eV 3) (eC (.int 1))) (aC (eV 9) (aC (eV 10) aN))))) (env02 ns L ws s w (some (false, mvD q.1)) (some (false, eS q.2)) t k z) = some (.nx (env02 ns L ws s w (some (false, mvD q.1)) (some (false, eS q.2)) (some (false, eS q.2)) k z)) := by
      unfold env02
      generalize (movesOf L ws s).map stepD = A
      generalize ((movesOf L ws s).map (·.1)).map mvD = B
      simp [e1]
    rw [sSeq_s, ha, seqO_nx]
    unfold env02 at e2 ⊢
    generalize (movesOf L ws s).map stepD = A at *
    generalize ((movesOf L ws s).map (·.1)).map mvD = B at *
    simp [e2, e3]
theorem inner_02 (v : Valid L ws s) (mv : Mv) : ∀ (is : List Nat) (m f t k z : Option (Bool × PyData)), (∀ i ∈ is, i < ws.length) → ∃ k', forGo (bName 13) b4_law02 (is.map fun i => .int ((i : Nat) : Int)) (env02 ns L ws s (some (false, mv.d)) m f t k z) = some (.nx (env02 ns L ws s (some (false, mv.d)) m f t k' z))
  | [], m, f, t, k, z, _ => ⟨k, rfl⟩
  | i :: is, m, f, t, k, z, h => by
    have hi := h i List.mem_cons_self
    obtain ⟨k', ih⟩ := inner_02 v mv is m f t (some (false, .int i)) z fun j hj => h j (List.mem_cons_of_mem _ hj)
    refine ⟨k', ?_⟩
    rw [← ih]
    have hb : (bName 13) (.int (i : Nat)) (env02 ns L ws s (some (false, mv.d)) m f t k z) = some (env02 ns L ws s (some (false, mv.d)) m f t (some (false, .int i)) z) := rfl
    refine forGo_nx hb ?_
    have e1 : dIn true (.tuple [mv.d, .int (i : Nat)]) (.list (((movesOf L ws s).map (·.1)).map mvD)) = some (.bool (!decide ((mv, i) ∈ (movesOf L ws s).map (·.1)))) := by
      have := dIn_lstE (n := true) ((mv, i) : Move) ((movesOf L ws s).map fun q : Step => q.1)
      refine Eq.trans this ?_
      exact congrArg (fun b => some (PyData.bool (!b))) (decide_eq_decide.mpr Iff.rfl)
    unfold b4_law02 env02
    by_cases hm : (mv, i) ∈ (movesOf L ws s).map (·.1)
    · rw [decide_eq_true hm] at e1
      generalize (movesOf L ws s).map stepD = A at *
      generalize ((movesOf L ws s).map (·.1)).map mvD = B at *
      simp [e1]
    · rw [decide_eq_false hm] at e1
      have e2 := refused_t v (move_none hi hm)
      have e3 : PyData.tuple [mv.d, .int (i : Nat)] = mvD (mv, i) := rfl
      rw [← e3] at e2
      generalize (movesOf L ws s).map stepD = A at *
      generalize ((movesOf L ws s).map (·.1)).map mvD = B at *
      simp [e1, e2]
theorem b5_02 (v : Valid L ws s) (mv : Mv) {m f t k z : Option (Bool × PyData)} : ∃ k', b5_law02 (env02 ns L ws s (some (false, mv.d)) m f t k z) = some (.nx (env02 ns L ws s (some (false, mv.d)) m f t k' z)) := by
  obtain ⟨k', h⟩ := inner_02 (ns := ns) v mv (List.range ws.length) m f t k z fun i hi => List.mem_range.mp hi
  refine ⟨k', ?_⟩
  have hs : sRng (lift1 dLen (eV 8)) (env02 ns L ws s (some (false, mv.d)) m f t k z) = some (.ok ((List.range ws.length).map fun i => PyData.int ((i : Nat) : Int))) := sRng_of (by unfold env02; simp) (by have := v.w6; omega)
  unfold b5_law02
  rw [sFor_of hs]
  exact h
theorem loop2_02 (v : Valid L ws s) {w m f t k z : Option (Bool × PyData)} : ∃ w' k', forGo (bName 5) b5_law02 [.str "go", .str "aside", .str "on"] (env02 ns L ws s w m f t k z) = some (.nx (env02 ns L ws s w' m f t k' z)) := by
  obtain ⟨k1, h1⟩ := b5_02 (ns := ns) (m := m) (f := f) (t := t) (k := k) (z := z) v .go
  obtain ⟨k2, h2⟩ := b5_02 (ns := ns) (m := m) (f := f) (t := t) (k := k1) (z := z) v .aside
  obtain ⟨k3, h3⟩ := b5_02 (ns := ns) (m := m) (f := f) (t := t) (k := k2) (z := z) v .on
  refine ⟨some (false, Mv.on.d), k3, ?_⟩
  rw [forGo_nx (env1 := env02 ns L ws s (some (false, Mv.go.d)) m f t k z) rfl h1, forGo_nx (env1 := env02 ns L ws s (some (false, Mv.aside.d)) m f t k1 z) rfl h2, forGo_nx (env1 := env02 ns L ws s (some (false, Mv.on.d)) m f t k2 z) rfl h3]
  rfl
end
theorem law02_t {ns : List Int} : P_law02 [scrD ns] = some (.ok (false, .bool true)) := by
  obtain ⟨L, ws, s, v, sm, e0⟩ := built_t (ns := ns)
  have hw : ws.length ≤ 6 := v.w6
  have e1 := law_moves_t (L := L) (ws := ws) (s := s) ⟨v.len, v.inr⟩ (by omega)
  have e2 := allowed_t v
  have e3 := are_moves_t (ms := (movesOf L ws s).map (·.1))
  have e4 := dEq_refl (n := true) (handed_shaped (L := L) (ws := ws))
  have e5 := dEq_refl (n := false) (handed_shaped (L := L) (ws := ws))
  have hlen : ((movesOf L ws s).map (·.1)).length ≤ 18 := by
    rw [List.length_map]
    have := movesOf_len (L := L) (ws := ws) (s := s)
    omega
  have hz := sizeLine_eq
  have c1 : c1_law02 [some (false, scrD ns), some (false, .list ((movesOf L ws s).map stepD)), none, none, none, none, none, some (false, eL L), some (false, eW ws), some (false, eS s), none, none, none, none, none] = some (.ok (.list (((movesOf L ws s).map (·.1)).map mvD))) := by
    refine eLC_of (ds := (movesOf L ws s).map stepD) (sLst_of rfl) ?_
    rw [List.map_map]
    exact lcGo_map fun x hx => step_yes rfl rfl
  have ea : ∀ (a0 a1 a2 a3 a5 a6 a7 a8 a9 b0 b1 b2 b3 b4 : Option (Bool × PyData)), sApp 4 (liftA dTup (aC (eC (.str "go")) (aC (eC (.int 0)) aN))) [a0, a1, a2, a3, some (true, .list (((movesOf L ws s).map (·.1)).map mvD)), a5, a6, a7, a8, a9, b0, b1, b2, b3, b4] = some (.nx [a0, a1, a2, a3, some (true, .list (((movesOf L ws s).map (·.1)).map mvD ++ [mvD (.go, 0)])), a5, a6, a7, a8, a9, b0, b1, b2, b3, b4]) := fun _ _ _ _ _ _ _ _ _ _ _ _ _ _ => sApp_of rfl (by rfl) (by rw [List.length_map]; omega)
  obtain ⟨m1, f1, t1, l1⟩ := loop1_02 (ns := ns) v (movesOf L ws s) none none none none none none fun q h => h
  obtain ⟨w2, k2, l2⟩ := loop2_02 (ns := ns) (L := L) (ws := ws) (s := s) (w := none) (m := m1) (f := f1) (t := t1) (k := none) (z := none) v
  obtain ⟨d, ho, hb⟩ := odd_t (L := L) (ws := ws) (s := s) (c := cell ns 16) v.w1
  have e6 := refused_t v hb
  have e7 := cell_at_t' (ns := ns) (i := 16) (by decide)
  have e7' : P_l_cell_at [scrD ns, .int 16] = some (.ok (false, .int (cell ns 16))) := e7
  have s1 : sFor (sLst (eV 1)) (bTup [10, 11]) b3_law02 (env02 ns L ws s none none none none none none) = some (.nx (env02 ns L ws s none m1 f1 t1 none none)) := by
    rw [sFor_of (sLst_of (ds := (movesOf L ws s).map stepD) rfl)]
    exact l1
  have s2 : sFor (sTup (liftA dTup (aC (eC (.str "go")) (aC (eC (.str "aside")) (aC (eC (.str "on")) aN))))) (bName 5) b5_law02 (env02 ns L ws s none m1 f1 t1 none none) = some (.nx (env02 ns L ws s w2 m1 f1 t1 k2 none)) := by
    rw [sFor_of (sTup_of (ds := [.str "go", .str "aside", .str "on"]) rfl (by rw [hz]; decide))]
    exact l2
  simp only [P_law02, runFn, g_law02, startE]
  unfold env02 at s1 s2
  have el : (((movesOf L ws s).map (·.1)).map mvD ++ [mvD (.go, 0)]).length = (((movesOf L ws s).map (·.1)).map mvD).length + 1 := by simp
  generalize ((movesOf L ws s).map (·.1)).map mvD ++ [mvD (.go, 0)] = C at *
  generalize ((movesOf L ws s).map (·.1)).map mvD = B at *
  generalize (movesOf L ws s).map stepD = A at *
  simp [e0, e1, e2, e3, e4, e5, c1, ea, s1, s2, e6, e7', ho, el, imm]
end DS
namespace DS
open PySem PySem.Spec PyProof.Rows L2
def isSide : Spot → Bool
  | .side _ => true
  | _ => false
theorem fm_congr {α β : Type} {f g : α → Option β} : ∀ {xs : List α}, (∀ x ∈ xs, f x = g x) → xs.filterMap f = xs.filterMap g
  | [], _ => rfl
  | x :: xs, h => by
    have h1 := h x List.mem_cons_self
    have h2 := fm_congr (xs := xs) fun y hy => h y (List.mem_cons_of_mem _ hy)
    rw [List.filterMap_cons, List.filterMap_cons, h1, h2]
theorem sideSum {s : Stand} : (s.map sideN).sum = ((s.filterMap fun x => if isSide x = true then some x.d else none).length : Nat) := by
  induction s with
  | nil => rfl
  | cons x s ih =>
    rw [List.map_cons, List.sum_cons, ih, List.filterMap_cons]
    cases x <;> simp [sideN, isSide] <;> omega
theorem rank_t {L : List Int} {ws : List Bool} {s : Stand} (h : s.length = ws.length) (hz : s.length ≤ 1000) : P_rank [eL L, eW ws, eS s] = some (.ok (false, .int (rank L.length ws s))) := by
  have e1 := left_of_t (L := L) h
  have e2 : c1_rank [some (false, eL L), some (false, eW ws), some (false, eS s), none] = some (.ok (.list (s.filterMap fun x => if isSide x = true then some x.d else none))) := by
    refine eLC_of (ds := s.map Spot.d) (sTup_of rfl (by rw [List.length_map, sizeLine_eq]; omega)) (lcGo_eq fun x hx => step_if (b := isSide x) rfl ?_ fun _ => rfl)
    cases x <;> simp [Spot.d, isSide]
  have m1 : iMul (.int 2) (.int (leftOf L.length ws s)) = some (.int (2 * leftOf L.length ws s)) := iMul_l (by omega)
  simp only [P_rank, runFn, g_rank, startE]
  unfold rank
  rw [sideSum]
  generalize (s.filterMap fun x => if isSide x = true then some x.d else none) = A at *
  simp [e1, e2, m1]
def priceN (L : List Int) (ws : List Bool) : Nat → Stand → Option Int
  | 0, _ => none
  | n + 1, s => if leftOf L.length ws s = 0 then some 0 else minI ((nextOf L ws s).filterMap fun t => (priceN L ws n t).map (· + 1))
def price (L : List Int) (ws : List Bool) (s : Stand) : Option Int := priceN L ws ((rank L.length ws s).toNat + 1) s
theorem next_valid {L : List Int} {ws : List Bool} {s t : Stand} (v : Valid L ws s) (ht : t ∈ nextOf L ws s) : Valid L ws t ∧ rank L.length ws t < rank L.length ws s := by
  obtain ⟨q, hq, rfl⟩ := List.mem_map.mp ht
  exact ⟨(move_ok v hq).1, (move_ok v hq).2.2⟩
theorem priceN_eq {L : List Int} {ws : List Bool} : ∀ (n m : Nat) {s : Stand}, Valid L ws s → (rank L.length ws s).toNat < n → (rank L.length ws s).toNat < m → priceN L ws n s = priceN L ws m s
  | 0, _, _, _, h, _ => absurd h (Nat.not_lt_zero _)
  | _ + 1, 0, _, _, _, h => absurd h (Nat.not_lt_zero _)
  | n + 1, m + 1, s, v, h1, h2 => by
    rw [priceN, priceN]
    by_cases e : leftOf L.length ws s = 0
    · rw [if_pos e, if_pos e]
    · rw [if_neg e, if_neg e]
      congr 1
      apply fm_congr
      intro t ht
      obtain ⟨vt, hr⟩ := next_valid v ht
      have nn := rank_nn vt.len vt.inr
      rw [priceN_eq n m vt (by omega) (by omega)]
theorem price_eq {L : List Int} {ws : List Bool} {s : Stand} (v : Valid L ws s) : price L ws s = if leftOf L.length ws s = 0 then some 0 else minI ((nextOf L ws s).filterMap fun t => (price L ws t).map (· + 1)) := by
  unfold price
  rw [priceN]
  by_cases e : leftOf L.length ws s = 0
  · rw [if_pos e, if_pos e]
  · rw [if_neg e, if_neg e]
    congr 1
    apply fm_congr
    intro t ht
    obtain ⟨vt, hr⟩ := next_valid v ht
    have nn := rank_nn vt.len vt.inr
    rw [priceN_eq _ _ vt (by omega) (Nat.lt_succ_self _)]
def rkD (L : List Int) (ws : List Bool) (s : Stand) : PyData := .tuple [.int (rank L.length ws s), eS s]
def leR (L : List Int) (ws : List Bool) (a b : Stand) : Bool := PySem.W.dataLe false id (rkD L ws a) (rkD L ws b)
def byRank (L : List Int) (ws : List Bool) (V : List Stand) : List Stand := V.mergeSort (leR L ws)
theorem byRank_perm {L : List Int} {ws : List Bool} {V : List Stand} : (byRank L ws V).Perm V := List.mergeSort_perm _ _
theorem leR_rank {L : List Int} {ws : List Bool} {a b : Stand} (h : leR L ws a b = true) : rank L.length ws a ≤ rank L.length ws b := by
  unfold leR at h
  rw [PySem.W.dataLe_eq] at h
  simp only [cond_false, id, rkD] at h
  rw [PySem.W.dataLt_pair (by simp [PySem.W.alike]) (alike_eS b a)] at h
  by_cases e : rank L.length ws b = rank L.length ws a
  · omega
  · have e1 : PyData.eqv (.int (rank L.length ws b)) (.int (rank L.length ws a)) = false := by
      rw [int_eqv, beq_dec]
      exact decide_eq_false e
    rw [e1, PySem.W.dataLt_int] at h
    simp at h
    exact h
theorem byRank_sorted {L : List Int} {ws : List Bool} {V : List Stand} : (byRank L ws V).Pairwise fun a b => rank L.length ws a ≤ rank L.length ws b := by
  have h := List.pairwise_mergeSort (le := leR L ws) (fun a b c h1 h2 => by
    unfold leR at *
    rw [PySem.W.dataLe_eq] at *
    simp only [cond_false, id, Bool.not_eq_true', PySem.W.dataLt] at *
    cases h3 : PyProof.Rows.lexLt itemOrd (PySem.W.keyToks (rkD L ws c)) (PySem.W.keyToks (rkD L ws a)) with
    | false => rfl
    | true =>
      rcases PyProof.Rows.lex_negTrans _ (PySem.W.keyToks (rkD L ws b)) _ h3 with h | h
      · rw [h2] at h; cases h
      · rw [h1] at h; cases h) (fun a b => by
    unfold leR
    rw [PySem.W.dataLe_eq]
    simp only [cond_false, id, PySem.W.dataLt]
    cases h3 : PyProof.Rows.lexLt itemOrd (PySem.W.keyToks (rkD L ws b)) (PySem.W.keyToks (rkD L ws a)) with
    | false => rfl
    | true =>
      cases h4 : PyProof.Rows.lexLt itemOrd (PySem.W.keyToks (rkD L ws a)) (PySem.W.keyToks (rkD L ws b)) with
      | false => rfl
      | true =>
        have := PyProof.Rows.lex_trans _ _ _ h3 h4
        rw [PyProof.Rows.lex_irrefl] at this
        cases this) V
  exact h.imp leR_rank
theorem rk_ok {L : List Int} {ws : List Bool} {V : List Stand} : sortOk (V.map (rkD L ws)) = true := by
  unfold sortOk
  rw [List.all_eq_true]
  intro d hd
  obtain ⟨a, ha, rfl⟩ := List.mem_map.mp hd
  have i : imm (rkD L ws a) = true := by simp [rkD, imm, imms, imm_eS]
  have l : (rkD L ws a).canLay0 = true := by
    have : (eS a).canLay0 = true := En.lay a
    simp [rkD, PyData.canLay0, PyData.canLayAll0, this]
  have dp : (rkD L ws a).depth ≤ 60 := by
    have h : (eS a).depth ≤ 8 := En.dep a
    simp only [rkD, PyData.depth, PyData.depthAll]
    exact Nat.le_trans (Nat.succ_le_succ (Nat.max_le.mpr ⟨Nat.zero_le _, Nat.max_le.mpr ⟨h, Nat.zero_le _⟩⟩)) (by decide)
  have t : tup1 (rkD L ws a) = true := rfl
  simp only [t, i, l, dp, decide_true, Bool.true_and, List.all_eq_true]
  intro d' hd'
  obtain ⟨b, hb, rfl⟩ := List.mem_map.mp hd'
  simp [rkD, PySem.W.alike, PySem.W.alikeAll, alike_eS a b]
theorem sort_rk {L : List Int} {ws : List Bool} {V : List Stand} : dSort (.list (V.map (rkD L ws))) = some (.list ((byRank L ws V).map (rkD L ws))) := by
  unfold dSort
  simp only [rk_ok, if_true]
  unfold sortD byRank
  rw [← List.map_mergeSort (r := leR L ws) (s := PySem.W.dataLe false id) (f := rkD L ws) fun a _ b _ => rfl]
def optI (x : Option Int) : PyData := match x with | none => .none | some i => .int i
@[simp] theorem dMinN_i (ns : List Int) : dMinN (.list (ns.map PyData.int)) = some (optI (minI ns)) := by
  unfold dMinN
  simp only [ints_map, Option.map_some]
  cases minI ns <;> rfl
end DS
namespace DS
open PySem PySem.Spec PyProof.Rows L2
/-- the stands' prices, as told: the order, its prices -/
def prD (L : List Int) (ws : List Bool) (P : List Stand) : List (PyData × PyData) := dD optI (P.map fun x => (x, price L ws x))
def envP (L : List Int) (ws : List Bool) (s : Stand) (V P : List Stand) (a b c : Option (Bool × PyData)) : DS.Env :=
  [some (false, eL L), some (false, eW ws), some (false, eS s), some (false, .dict (dD sucsD (V.map fun x => (x, nextOf L ws x)))), some (true, .dict (prD L ws P)), a, b, c, none, none]
theorem pr_look {L : List Int} {ws : List Bool} {P : List Stand} {t : Stand} (h : t ∈ P) : dIx (.dict (prD L ws P)) (eS t) = some (optI (price L ws t)) := by
  have e := dIx_dD (g := optI) (F := P.map fun x => (x, price L ws x)) (a := t)
  rw [look_self h] at e
  exact e
theorem pr_put {L : List Int} {ws : List Bool} {P : List Stand} {t : Stand} (h : t ∉ P) : putD (prD L ws P) (Ky.k t) (eS t) (optI (price L ws t)) = prD L ws (P ++ [t]) := by
  unfold prD
  rw [List.map_append]
  exact putD_new (g := optI) (by rw [map_fst_self (f := price L ws)]; exact h)
theorem pr_len {L : List Int} {ws : List Bool} {P : List Stand} : (prD L ws P).length = P.length := by
  unfold prD dD
  rw [List.length_map, List.length_map]
theorem sputP {L : List Int} {ws : List Bool} {s h : Stand} {V P : List Stand} {a c : Option (Bool × PyData)} {fv : Ef} (hm : h ∉ P) (hz : P.length < sizeLine) (hv : fv (envP L ws s V P a (some (false, eS h)) c) = some (.ok (optI (price L ws h)))) :
    sPut 4 (eV 6) fv (envP L ws s V P a (some (false, eS h)) c) = some (.nx (envP L ws s V (P ++ [h]) a (some (false, eS h)) c)) := by
  have hk : kOk (eS h) = some (Ky.k h) := kOk_d h
  have hp := pr_put (L := L) (ws := ws) hm
  have hl : (prD L ws P).length < sizeLine := by rw [pr_len]; exact hz
  unfold sPut
  rw [hv]
  unfold envP
  simp [ownD, putO, hk, hl, hp]
@[simp] theorem dIsN_s {n : Bool} {x : PyData} : dIsN n x .none = some (.bool (match x with | .none => !n | _ => n)) := rfl
theorem optI_none {x : Option Int} : dIsN true (optI x) .none = some (.bool x.isSome) := by cases x <;> rfl
theorem c2_prices_t {L : List Int} {ws : List Bool} {s h : Stand} {V P : List Stand} {a c : Option (Bool × PyData)} (hV : h ∈ V) (hP : ∀ t ∈ nextOf L ws h, t ∈ P) :
    c2_all_prices (envP L ws s V P a (some (false, eS h)) c) = some (.ok (.list (((nextOf L ws h).filterMap fun t => (price L ws t).map (· + 1)).map PyData.int))) := by
  have e1 := dIx_dD (g := sucsD) (F := V.map fun x => (x, nextOf L ws x)) (a := h)
  rw [look_self hV] at e1
  have e1' : dIx (.dict (dD sucsD (V.map fun x => (x, nextOf L ws x)))) (eS h) = some (.list ((nextOf L ws h).map eS)) := e1
  refine eLC_of (ds := (nextOf L ws h).map eS) (sLst_of (by unfold envP; simp [e1'])) ?_
  have e2 : ((nextOf L ws h).filterMap fun t => (price L ws t).map (· + 1)).map PyData.int = (nextOf L ws h).filterMap fun t => ((price L ws t).map (· + 1)).map PyData.int := List.map_filterMap
  rw [e2]
  refine lcGo_eq fun t ht => ?_
  have e3 := pr_look (L := L) (ws := ws) (hP t ht)
  have e4 := optI_none (x := price L ws t)
  cases hp : price L ws t with
  | none =>
    rw [hp] at e3 e4
    refine (step_if (b := false) (y := .none) rfl ?_ (fun z => by cases z)).trans rfl
    unfold envP
    simp [e3]
    rfl
  | some i =>
    rw [hp] at e3 e4
    refine (step_if (b := true) (y := .int (i + 1)) rfl ?_ (fun _ => ?_)).trans rfl
    · unfold envP
      simp [e3]
      rfl
    · unfold envP
      simp [e3, optI]
theorem b3_prices_t {L : List Int} {ws : List Bool} {s h : Stand} {V P : List Stand} {a c : Option (Bool × PyData)} (v : Valid L ws h) (hV : h ∈ V) (hP : ∀ t ∈ nextOf L ws h, t ∈ P) (hm : h ∉ P) (hz : P.length < sizeLine) :
    ∃ c', b3_all_prices (envP L ws s V P a (some (false, eS h)) c) = some (.nx (envP L ws s V (P ++ [h]) a (some (false, eS h)) c')) := by
  have e1 := left_of_t (L := L) v.len
  have ec : (lift2 (dEq false) (eCall P_left_of false (aC (eV 0) (aC (eV 1) (aC (eV 6) aN)))) (eC (.int 0))) (envP L ws s V P a (some (false, eS h)) c) = some (.ok (.bool (decide (leftOf L.length ws h = 0)))) := by
    unfold envP
    simp [e1]
  have pe := price_eq v
  by_cases h0 : leftOf L.length ws h = 0
  · rw [if_pos h0] at pe
    refine ⟨c, ?_⟩
    unfold b3_all_prices
    rw [sIf_s, ec, bindS_ok, orS_b, if_pos (by simpa using h0)]
    exact sputP hm hz (by rw [pe]; rfl)
  · rw [if_neg h0] at pe
    have e2 := c2_prices_t (L := L) (ws := ws) (s := s) (a := a) (c := c) hV hP
    refine ⟨some (true, .list (((nextOf L ws h).filterMap fun t => (price L ws t).map (· + 1)).map PyData.int)), ?_⟩
    have eo : (sOwn 7 c2_all_prices) (envP L ws s V P a (some (false, eS h)) c) = some (.nx (envP L ws s V P a (some (false, eS h)) (some (true, .list (((nextOf L ws h).filterMap fun t => (price L ws t).map (· + 1)).map PyData.int))))) := by
      rw [sOwn_s, e2]
      rfl
    unfold b3_all_prices
    rw [sIf_s, ec, bindS_ok, orS_b, if_neg (by simpa using h0), sSeq_s, eo, seqO_nx]
    refine sputP hm hz ?_
    have e3 := dMinN_i ((nextOf L ws h).filterMap fun t => (price L ws t).map (· + 1))
    rw [pe]
    generalize (nextOf L ws h).filterMap (fun t => (price L ws t).map (· + 1)) = ns at e3 ⊢
    generalize ns.map PyData.int = A at e3 ⊢
    unfold envP
    simp [e3]
theorem prices_loop {L : List Int} {ws : List Bool} {s : Stand} {V : List Stand} (r : ReachL L ws s V) (v : Valid L ws s) (hz : V.length < sizeLine) : ∀ (R P : List Stand) (a b c : Option (Bool × PyData)), P ++ R = byRank L ws V → ∃ a' b' c', forGo (bTup [5, 6]) b3_all_prices (R.map (rkD L ws)) (envP L ws s V P a b c) = some (.nx (envP L ws s V (P ++ R) a' b' c'))
  | [], P, a, b, c, _ => ⟨a, b, c, by simp⟩
  | h :: R, P, a, b, c, e => by
    have hp := byRank_perm (L := L) (ws := ws) (V := V)
    have hs := byRank_sorted (L := L) (ws := ws) (V := V)
    have nd : (P ++ h :: R).Nodup := by rw [e]; exact hp.nodup_iff.mpr r.nd
    have mem : ∀ x, x ∈ P ++ h :: R ↔ x ∈ V := fun x => by rw [e]; exact hp.mem_iff
    rw [← e] at hs
    have hV : h ∈ V := (mem h).mp (by simp)
    have vh := r.valid v h hV
    have hm : h ∉ P := fun q => by
      rw [List.nodup_append] at nd
      exact nd.2.2 h q h List.mem_cons_self rfl
    have hP : ∀ t ∈ nextOf L ws h, t ∈ P := fun t ht => by
      have hr := (next_valid vh ht).2
      have ht' := (mem t).mpr (r.clo h hV t ht)
      rcases List.mem_append.mp ht' with q | q
      · exact q
      · rcases List.mem_cons.mp q with rfl | q
        · omega
        · rw [List.pairwise_append] at hs
          have := (List.pairwise_cons.mp hs.2.1).1 t q
          omega
    have hl : P.length < sizeLine := by
      have h1 := hp.length_eq
      rw [← e, List.length_append, List.length_cons] at h1
      omega
    obtain ⟨c', g⟩ := b3_prices_t (s := s) (V := V) (P := P) (a := some (false, .int (rank L.length ws h))) (c := c) vh hV hP hm hl
    obtain ⟨a2, b2, c2, g2⟩ := prices_loop r v hz R (P ++ [h]) (some (false, .int (rank L.length ws h))) (some (false, eS h)) c' (by rw [List.append_assoc]; exact e)
    refine ⟨a2, b2, c2, ?_⟩
    rw [List.map_cons, forGo_nx (env1 := envP L ws s V P (some (false, .int (rank L.length ws h))) (some (false, eS h)) c) rfl g, g2, List.append_assoc]
    rfl
/-- the stands reached, by rank -/
def ranked (L : List Int) (ws : List Bool) (s : Stand) : List Stand := byRank L ws (reachL L ws s)
theorem c1_prices_t {L : List Int} {ws : List Bool} {s : Stand} {V : List Stand} {a b c d e : Option (Bool × PyData)} (h : ∀ x ∈ V, x.length = ws.length ∧ x.length ≤ 1000) :
    c1_all_prices [some (false, eL L), some (false, eW ws), some (false, eS s), some (false, .dict (dD sucsD (V.map fun x => (x, nextOf L ws x)))), a, b, c, d, none, e] = some (.ok (.list (V.map (rkD L ws)))) := by
  have hk : (dD sucsD (V.map fun x => (x, nextOf L ws x))).map (·.1) = V.map eS := by
    unfold dD
    rw [List.map_map, List.map_map]
    rfl
  refine eLC_of (ds := V.map eS) ?_ (lcGo_map fun x hx => step_yes rfl ?_)
  · have hs := dD_scr (g := sucsD) (F := V.map fun x => (x, nextOf L ws x))
    unfold sDic
    simp [hs, hk]
  · have e1 := rank_t (L := L) (ws := ws) (s := x) (h x hx).1 (h x hx).2
    simp [e1, rkD]
theorem all_prices_t {L : List Int} {ws : List Bool} {s : Stand} (v : Valid L ws s) (sm : Small L.length ws.length) : P_all_prices [eL L, eW ws, eS s] = some (.ok (true, .dict (prD L ws (ranked L ws s)))) := by
  obtain ⟨r, e1⟩ := all_reached_t (L := L) (ws := ws) (s := s) ⟨v.len, v.inr⟩ v.w6 sm
  have hz := sizeLine_eq
  have hl := r.len sm
  obtain ⟨a', b', c', g⟩ := prices_loop (V := reachL L ws s) r v (by omega) (byRank L ws (reachL L ws s)) [] none none none rfl
  have e2 := c1_prices_t (L := L) (ws := ws) (s := s) (V := reachL L ws s) (a := some (true, .dict [])) (b := none) (c := none) (d := none) (e := none) fun x hx => by
    have v' := r.valid v x hx
    have h1 := v'.len
    have h2 := v'.w6
    exact ⟨h1, by omega⟩
  have e3 := sort_rk (L := L) (ws := ws) (V := reachL L ws s)
  unfold envP at g
  simp only [P_all_prices, runFn, g_all_prices, startE]
  unfold ranked
  have g' : forGo (bTup [5, 6]) b3_all_prices ((byRank L ws (reachL L ws s)).map (rkD L ws)) [some (false, eL L), some (false, eW ws), some (false, eS s), some (false, .dict (dD sucsD ((reachL L ws s).map fun x => (x, nextOf L ws x)))), some (true, .dict []), none, none, none, none, none] = _ := g
  generalize dD sucsD ((reachL L ws s).map fun x => (x, nextOf L ws x)) = DD at *
  generalize (reachL L ws s).map (rkD L ws) = RD at *
  generalize (byRank L ws (reachL L ws s)).map (rkD L ws) = BD at *
  have hs : sLst (lift1 dSort c1_all_prices) [some (false, eL L), some (false, eW ws), some (false, eS s), some (false, .dict DD), some (true, .dict []), none, none, none, none, none] = some (.ok BD) := sLst_of (by simp [e2, e3])
  simp [e1, sFor_of hs, g']
/-- a dict's pairs -/
def pairsP (L : List Int) (ws : List Bool) (P : List Stand) : List PyData := (P.map fun x => (x, price L ws x)).map fun p => .tuple [En.d p.1, optI p.2]
theorem prices_t {L : List Int} {ws : List Bool} {s : Stand} (v : Valid L ws s) (sm : Small L.length ws.length) : P_prices [eL L, eW ws, eS s] = some (.ok (true, .list (pairsP L ws (ranked L ws s)))) := by
  have e1 := need_stand_t v
  have e2 := all_prices_t v sm
  have e3 := dItems_dD (g := optI) (F := (ranked L ws s).map fun x => (x, price L ws x))
  have e3' : dItems (.dict (prD L ws (ranked L ws s))) = some (.list (pairsP L ws (ranked L ws s))) := e3
  simp only [P_prices, runFn, g_prices, startE]
  simp [e1, e2, e3']
theorem ranked_mem {L : List Int} {ws : List Bool} {s x : Stand} : x ∈ ranked L ws s ↔ x ∈ reachL L ws s := byRank_perm.mem_iff
theorem dict_pairs {L : List Int} {ws : List Bool} {P : List Stand} (h : P.Nodup) : dDict (.list (pairsP L ws P)) = some (.dict (prD L ws P)) := dDict_dD (g := optI) (by rw [map_fst_self (f := price L ws)]; exact h)
end DS
namespace DS
open PySem PySem.Spec PyProof.Rows L2
theorem foldl_min : ∀ (ns : List Int) (m : Int), ns.foldl min m ≤ m ∧ (∀ x ∈ ns, ns.foldl min m ≤ x) ∧ (ns.foldl min m = m ∨ ns.foldl min m ∈ ns)
  | [], m => ⟨Int.le_refl _, (by intro x h; cases h), .inl rfl⟩
  | n :: ns, m => by
    obtain ⟨h1, h2, h3⟩ := foldl_min ns (min m n)
    have e1 : min m n ≤ m := Int.min_le_left _ _
    have e2 : min m n ≤ n := Int.min_le_right _ _
    rw [List.foldl_cons]
    refine ⟨Int.le_trans h1 e1, fun x hx => ?_, ?_⟩
    · rcases List.mem_cons.mp hx with rfl | hx
      · exact Int.le_trans h1 e2
      · exact h2 x hx
    · rcases h3 with h3 | h3
      · rw [h3]
        by_cases q : m ≤ n
        · exact .inl (Int.min_eq_left q)
        · exact .inr (by rw [Int.min_eq_right (by omega)]; exact List.mem_cons_self)
      · exact .inr (List.mem_cons_of_mem _ h3)
theorem minI_some {ns : List Int} {m : Int} (h : minI ns = some m) : m ∈ ns ∧ ∀ x ∈ ns, m ≤ x := by
  cases ns with
  | nil => cases h
  | cons n ns =>
    simp only [minI, Option.some.injEq] at h
    subst h
    obtain ⟨h1, h2, h3⟩ := foldl_min ns n
    refine ⟨?_, fun x hx => ?_⟩
    · rcases h3 with h3 | h3
      · rw [h3]; exact List.mem_cons_self
      · exact List.mem_cons_of_mem _ h3
    · rcases List.mem_cons.mp hx with rfl | hx
      · exact h1
      · exact h2 x hx
theorem minI_none {ns : List Int} : minI ns = none ↔ ns = [] := by
  cases ns with
  | nil => exact ⟨fun _ => rfl, fun _ => rfl⟩
  | cons n ns => exact ⟨fun h => (by cases h), fun h => (by cases h)⟩
section
variable {L : List Int} {ws : List Bool} {s t : Stand}
theorem left_nn (v : Valid L ws s) : 0 ≤ leftOf L.length ws s := by
  have := rank_bounds (n := L.length) v.len v.inr
  omega
theorem left_next (v : Valid L ws s) (ht : t ∈ nextOf L ws s) : leftOf L.length ws s - 1 ≤ leftOf L.length ws t ∧ leftOf L.length ws t ≤ leftOf L.length ws s := by
  obtain ⟨q, hq, rfl⟩ := List.mem_map.mp ht
  have := (move_ok v hq).2.1
  split at this <;> omega
/-- where it leads on -/
theorem price_pos (v : Valid L ws s) {p : Int} (h : price L ws s = some p) (h0 : leftOf L.length ws s ≠ 0) : ∃ t ∈ nextOf L ws s, price L ws t = some (p - 1) := by
  rw [price_eq v, if_neg h0] at h
  obtain ⟨hm, _⟩ := minI_some h
  obtain ⟨t, ht, e⟩ := List.mem_filterMap.mp hm
  obtain ⟨i, hi, rfl⟩ := Option.map_eq_some_iff.mp e
  exact ⟨t, ht, by rw [hi]; congr 1; omega⟩
theorem price_le (v : Valid L ws s) (h0 : leftOf L.length ws s ≠ 0) (ht : t ∈ nextOf L ws s) {q : Int} (hq : price L ws t = some q) : ∃ p, price L ws s = some p ∧ p ≤ q + 1 := by
  have hm : q + 1 ∈ (nextOf L ws s).filterMap fun t => (price L ws t).map (· + 1) := List.mem_filterMap.mpr ⟨t, ht, by rw [hq]; rfl⟩
  rw [price_eq v, if_neg h0]
  cases e : minI ((nextOf L ws s).filterMap fun t => (price L ws t).map (· + 1)) with
  | none =>
    rw [minI_none.mp e] at hm
    cases hm
  | some p => exact ⟨p, rfl, (minI_some e).2 _ hm⟩
/-- induction along moves -/
theorem valid_ind {P : Stand → Prop} (h : ∀ s, Valid L ws s → (∀ t ∈ nextOf L ws s, P t) → P s) : ∀ {s : Stand}, Valid L ws s → P s := by
  have key : ∀ (n : Nat) (s : Stand), Valid L ws s → (rank L.length ws s).toNat < n → P s := by
    intro n
    induction n with
    | zero => exact fun s _ q => absurd q (Nat.not_lt_zero _)
    | succ n ih =>
      intro s v q
      refine h s v fun t ht => ?_
      obtain ⟨vt, hr⟩ := next_valid v ht
      have nn := rank_nn vt.len vt.inr
      exact ih t vt (by omega)
  exact fun {s} v => key _ s v (Nat.lt_succ_self _)
theorem price_left (v : Valid L ws s) : ∀ {p : Int}, price L ws s = some p → leftOf L.length ws s ≤ p := by
  refine valid_ind (L := L) (ws := ws) (P := fun s => ∀ {p : Int}, price L ws s = some p → leftOf L.length ws s ≤ p) (fun s v ih => ?_) v
  intro p h
  by_cases h0 : leftOf L.length ws s = 0
  · rw [price_eq v, if_pos h0] at h
    cases h
    omega
  · obtain ⟨t, ht, hp⟩ := price_pos v h h0
    have := ih t ht hp
    have := left_next v ht
    omega
theorem price_zero (v : Valid L ws s) : price L ws s = some 0 ↔ leftOf L.length ws s = 0 := by
  constructor
  · intro h
    have := price_left v h
    have := left_nn v
    omega
  · intro h
    rw [price_eq v, if_pos h]
end
def stepP (L : List Int) (ws : List Bool) (s : Stand) (p : Int) : Option Step := (movesOf L ws s).find? fun q => decide (price L ws q.2 = some p)
def rowP (L : List Int) (ws : List Bool) : Nat → Stand → List Move
  | 0, _ => []
  | p + 1, s => match stepP L ws s p with
    | some q => q.1 :: rowP L ws p q.2
    | none => []
theorem stepP_some {L : List Int} {ws : List Bool} {s : Stand} {p : Nat} (v : Valid L ws s) (h : price L ws s = some ((p + 1 : Nat) : Int)) : ∃ q, stepP L ws s p = some q ∧ q ∈ movesOf L ws s ∧ price L ws q.2 = some (p : Int) := by
  have h0 : leftOf L.length ws s ≠ 0 := fun e => by
    rw [(price_zero v).mpr e] at h
    simp only [Option.some.injEq] at h
    omega
  obtain ⟨t, ht, hp⟩ := price_pos v h h0
  have hp' : price L ws t = some (p : Int) := by rw [hp]; congr 1; omega
  obtain ⟨q, hq, rfl⟩ := List.mem_map.mp ht
  unfold stepP
  cases e : (movesOf L ws s).find? fun q => decide (price L ws q.2 = some (p : Int)) with
  | none => exact absurd (List.find?_eq_none.mp e q hq) (by simpa using hp')
  | some q' => exact ⟨q', rfl, List.mem_of_find?_eq_some e, of_decide_eq_true (List.find?_some (p := fun q : Step => decide (price L ws q.2 = some (p : Int))) e)⟩
theorem rowP_len {L : List Int} {ws : List Bool} : ∀ {p : Nat} {s : Stand}, Valid L ws s → price L ws s = some (p : Int) → (rowP L ws p s).length = p
  | 0, _, _, _ => rfl
  | p + 1, s, v, h => by
    obtain ⟨q, h1, h2, h3⟩ := stepP_some v h
    rw [rowP, h1]
    simp only [List.length_cons]
    rw [rowP_len (move_ok v h2).1 h3]
section
variable {L : List Int} {ws : List Bool}
def envL (L : List Int) (ws : List Bool) (s0 : Stand) (P : List Stand) (acc : List PyData) (s : Stand) (a b : Option (Bool × PyData)) : DS.Env :=
  [some (false, eL L), some (false, eW ws), some (false, eS s0), some (true, .dict (prD L ws P)), some (true, .list acc), some (false, eS s), a, b]
theorem dEq_opt {x y : Option Int} : dEq false (optI x) (optI y) = some (.bool (decide (x = y))) := by
  have sh : ∀ z : Option Int, SeqAt.shaped (optI z) = true := fun z => by cases z <;> rfl
  unfold dEq
  rw [sh x, sh y, Bool.and_self, if_pos rfl]
  cases x <;> cases y <;> simp [optI, PyData.eqv, beq_dec]
theorem row_inner {s0 s : Stand} {P : List Stand} {acc : List PyData} {p : Nat} (hs : s ∈ P) (hp : price L ws s = some ((p + 1 : Nat) : Int)) (hz : acc.length ≤ 1000) : ∀ (qs : List Step) (a b : Option (Bool × PyData)), (∀ q ∈ qs, q.2 ∈ P) → (match qs.find? fun q => decide (price L ws q.2 = some (p : Int)) with
    | some q => ∃ a' b', forGo (bTup [6, 7]) b1_least_row (qs.map stepD) (envL L ws s0 P acc s a b) = some (.nx (envL L ws s0 P (acc ++ [mvD q.1]) q.2 a' b'))
    | none => True)
  | [], a, b, _ => trivial
  | q :: qs, a, b, h => by
    have hz' := sizeLine_eq
    have e1 := pr_look (L := L) (ws := ws) hs
    have e2 := pr_look (L := L) (ws := ws) (h q List.mem_cons_self)
    rw [hp] at e1
    have e3 := dEq_opt (x := price L ws q.2) (y := some (((p + 1 : Nat) : Int) - 1))
    have e4 : (((p + 1 : Nat) : Int) - 1) = (p : Int) := by omega
    rw [e4] at e3
    have ec : (lift2 (dEq false) (lift2 dIx (rV 3) (eV 7)) (lift2 iSub (lift2 dIx (rV 3) (eV 5)) (eC (.int 1)))) (envL L ws s0 P acc s (some (false, mvD q.1)) (some (false, eS q.2))) = some (.ok (.bool (decide (price L ws q.2 = some (p : Int))))) := by
      have e3' : dEq false (optI (price L ws q.2)) (.int (p : Int)) = some (.bool (decide (price L ws q.2 = some (p : Int)))) := e3
      have e4' : ((p : Int) + 1 - 1) = p := by omega
      unfold envL
      simp only [optI] at e1
      simp [e1, e2, e4', e3']
    by_cases hq : price L ws q.2 = some (p : Int)
    · rw [List.find?_cons_of_pos (by simpa using hq)]
      refine ⟨some (false, mvD q.1), some (false, eS q.2), ?_⟩
      rw [List.map_cons, forGo_c (env1 := envL L ws s0 P acc s (some (false, mvD q.1)) (some (false, eS q.2))) rfl]
      have ea : sApp 4 (eV 6) (envL L ws s0 P acc s (some (false, mvD q.1)) (some (false, eS q.2))) = some (.nx (envL L ws s0 P (acc ++ [mvD q.1]) s (some (false, mvD q.1)) (some (false, eS q.2)))) := sApp_of rfl rfl (by omega)
      have eb : b1_least_row (envL L ws s0 P acc s (some (false, mvD q.1)) (some (false, eS q.2))) = some (.bk (envL L ws s0 P (acc ++ [mvD q.1]) q.2 (some (false, mvD q.1)) (some (false, eS q.2)))) := by
        unfold b1_least_row
        rw [sIf_s, ec, bindS_ok, orS_b, if_pos (by simpa using hq), sSeq_s, ea]
        rfl
      rw [eb]
    · rw [List.find?_cons_of_neg (by simpa using hq)]
      have ih := row_inner (s0 := s0) hs hp hz qs (some (false, mvD q.1)) (some (false, eS q.2)) fun q' h' => h q' (List.mem_cons_of_mem _ h')
      have e0 : forGo (bTup [6, 7]) b1_least_row ((q :: qs).map stepD) (envL L ws s0 P acc s a b) = forGo (bTup [6, 7]) b1_least_row (qs.map stepD) (envL L ws s0 P acc s (some (false, mvD q.1)) (some (false, eS q.2))) := by
        refine forGo_nx (env1 := envL L ws s0 P acc s (some (false, mvD q.1)) (some (false, eS q.2))) rfl ?_
        unfold b1_least_row
        rw [sIf_s, ec, bindS_ok, orS_b, if_neg (by simpa using hq)]
        rfl
      rw [e0]
      exact ih
theorem row_while {s0 : Stand} {P : List Stand} (clo : ∀ x ∈ P, ∀ y ∈ nextOf L ws x, y ∈ P) : ∀ (p : Nat) (s : Stand) (acc : List PyData) (a b : Option (Bool × PyData)) (n : Nat), Valid L ws s → s ∈ P → price L ws s = some (p : Int) → acc.length + p ≤ 900 → p < n →
    ∃ s' a' b', whileGo w3_least_row b2_least_row n (envL L ws s0 P acc s a b) = some (.nx (envL L ws s0 P (acc ++ (rowP L ws p s).map mvD) s' a' b')) := by
  intro p
  induction p with
  | zero =>
    intro s acc a b n v hs hp hz hn
    obtain ⟨n, rfl⟩ : ∃ k, n = k + 1 := ⟨n - 1, by omega⟩
    have e1 := pr_look (L := L) (ws := ws) hs
    rw [hp] at e1
    refine ⟨s, a, b, ?_⟩
    have ew : w3_least_row (envL L ws s0 P acc s a b) = some (.ok (.bool false)) := by
      unfold w3_least_row envL
      simp only [optI] at e1
      simp [e1]
    rw [whileGo, ew]
    simp [rowP]
  | succ p ih =>
    intro s acc a b n v hs hp hz hn
    obtain ⟨n, rfl⟩ : ∃ k, n = k + 1 := ⟨n - 1, by omega⟩
    have e1 := pr_look (L := L) (ws := ws) hs
    rw [hp] at e1
    have ew : w3_least_row (envL L ws s0 P acc s a b) = some (.ok (.bool true)) := by
      unfold w3_least_row envL
      simp only [optI] at e1
      simp [e1] <;> omega
    obtain ⟨q, h1, h2, h3⟩ := stepP_some v hp
    have hq : q.2 ∈ P := clo s hs q.2 (List.mem_map.mpr ⟨q, h2, rfl⟩)
    have inner := row_inner (L := L) (ws := ws) (s0 := s0) (acc := acc) hs hp (by omega) (movesOf L ws s) a b fun q' h' => clo s hs q'.2 (List.mem_map.mpr ⟨q', h', rfl⟩)
    unfold stepP at h1
    rw [h1] at inner
    obtain ⟨a2, b2, g⟩ := inner
    have em := moves_of_t (L := L) (ws := ws) (s := s) v.len v.inr (by have := v.w6; omega)
    have hsrc : sLst (noD (eCall P_moves_of true (aC (eV 0) (aC (eV 1) (aC (eV 5) aN))))) (envL L ws s0 P acc s a b) = some (.ok ((movesOf L ws s).map stepD)) := sLst_of (by unfold envL; simp [em])
    have eb : b2_least_row (envL L ws s0 P acc s a b) = some (.nx (envL L ws s0 P (acc ++ [mvD q.1]) q.2 a2 b2)) := by
      unfold b2_least_row
      rw [sFor_of hsrc, g]
    obtain ⟨s', a', b', g2⟩ := ih q.2 (acc ++ [mvD q.1]) a2 b2 n (move_ok v h2).1 hq h3 (by rw [List.length_append, List.length_singleton]; omega) (by omega)
    refine ⟨s', a', b', ?_⟩
    rw [whileGo, ew]
    simp only [eb]
    rw [g2, rowP]
    unfold stepP
    rw [h1]
    simp
end
/-- prices are small -/
theorem price_small {L : List Int} {ws : List Bool} {s : Stand} (v : Valid L ws s) : ∀ {p : Int}, price L ws s = some p → 0 ≤ p ∧ p ≤ rank L.length ws s := by
  refine valid_ind (L := L) (ws := ws) (P := fun s => ∀ {p : Int}, price L ws s = some p → 0 ≤ p ∧ p ≤ rank L.length ws s) (fun s v ih => ?_) v
  intro p h
  have nn := rank_nn v.len v.inr
  by_cases h0 : leftOf L.length ws s = 0
  · rw [price_eq v, if_pos h0] at h
    cases h
    omega
  · obtain ⟨t, ht, hp⟩ := price_pos v h h0
    have := ih t ht hp
    have := (next_valid v ht).2
    omega
theorem rank_96 {L : List Int} {ws : List Bool} {s : Stand} (v : Valid L ws s) : rank L.length ws s ≤ 96 := by
  have rb := rank_bounds (n := L.length) v.len v.inr
  have : L.length * ws.length ≤ 8 * 6 := Nat.mul_le_mul v.n8 v.w6
  unfold rank
  omega
/-- what least_row tells -/
def rowD (L : List Int) (ws : List Bool) (s : Stand) : Bool × PyData := match price L ws s with
  | some p => (true, .list ((rowP L ws p.toNat s).map mvD))
  | none => (false, .none)
theorem ranked_clo {L : List Int} {ws : List Bool} {s : Stand} (r : ReachL L ws s (reachL L ws s)) : ∀ x ∈ ranked L ws s, ∀ y ∈ nextOf L ws x, y ∈ ranked L ws s := fun x hx y hy => ranked_mem.mpr (r.clo x (ranked_mem.mp hx) y hy)
theorem least_row_t {L : List Int} {ws : List Bool} {s : Stand} (v : Valid L ws s) (sm : Small L.length ws.length) : P_least_row [eL L, eW ws, eS s] = some (.ok (rowD L ws s)) := by
  have e1 := need_stand_t v
  have e2 := all_prices_t v sm
  obtain ⟨r, _⟩ := all_reached_t (L := L) (ws := ws) (s := s) ⟨v.len, v.inr⟩ v.w6 sm
  have hs : s ∈ ranked L ws s := ranked_mem.mpr r.start
  have e3 := pr_look (L := L) (ws := ws) hs
  have e4 := optI_none (x := price L ws s)
  simp only [P_least_row, runFn, g_least_row, startE]
  unfold rowD
  cases hp : price L ws s with
  | none =>
    rw [hp] at e3
    simp [e1, e2, e3, optI]
  | some p =>
    rw [hp] at e3
    have hb := price_small v hp
    have hr := rank_96 v
    obtain ⟨s', a', b', g⟩ := row_while (L := L) (ws := ws) (s0 := s) (ranked_clo r) p.toNat s [] none none 1000 v hs (by rw [hp, Int.toNat_of_nonneg hb.1]) (by simp; omega) (by omega)
    unfold envL at g
    simp only [optI] at e3
    simp [e1, e2, e3, sWhile, g]
theorem closed_t {L : List Int} {ws : List Bool} {s : Stand} (v : Valid L ws s) (sm : Small L.length ws.length) : P_closed [eL L, eW ws, eS s] = some (.ok (match price L ws s with | some _ => (false, .none) | none => (true, .list ((ranked L ws s).map eS)))) := by
  have e1 := need_stand_t v
  have e2 := all_prices_t v sm
  obtain ⟨r, _⟩ := all_reached_t (L := L) (ws := ws) (s := s) ⟨v.len, v.inr⟩ v.w6 sm
  have hs : s ∈ ranked L ws s := ranked_mem.mpr r.start
  have e3 := pr_look (L := L) (ws := ws) hs
  have e5 := dLstD_dD (g := optI) (F := (ranked L ws s).map fun x => (x, price L ws x))
  rw [map_fst_self (f := price L ws)] at e5
  have e5' : dLstD (.dict (prD L ws (ranked L ws s))) = some (.list ((ranked L ws s).map eS)) := e5
  simp only [P_closed, runFn, g_closed, startE]
  cases hp : price L ws s with
  | none =>
    rw [hp] at e3
    simp [e1, e2, e3, optI, e5']
  | some p =>
    rw [hp] at e3
    simp [e1, e2, e3, optI]
end DS
namespace DS
open PySem PySem.Spec PyProof.Rows L2
theorem layAll_of : ∀ {ds : List PyData}, (∀ d ∈ ds, d.canLay0 = true) → PyData.canLayAll0 ds = true
  | [], _ => rfl
  | d :: ds, h => by
    rw [PyData.canLayAll0, h d List.mem_cons_self, layAll_of fun e he => h e (List.mem_cons_of_mem _ he)]
    rfl
theorem depAll_of {n : Nat} : ∀ {ds : List PyData}, (∀ d ∈ ds, d.depth ≤ n) → PyData.depthAll ds ≤ n
  | [], _ => Nat.zero_le _
  | d :: ds, h => by
    rw [PyData.depthAll]
    exact Nat.max_le.mpr ⟨h d List.mem_cons_self, depAll_of fun e he => h e (List.mem_cons_of_mem _ he)⟩
/-- a thing that may stand in a list -/
def Flat (d : PyData) : Prop := d.canLay0 = true ∧ d.depth ≤ 8
theorem flat_lst {ds : List PyData} (h : ∀ d ∈ ds, Flat d) : SeqAt.shaped (.list ds) = true := by
  unfold SeqAt.shaped
  rw [PyData.canLay0, layAll_of fun d hd => (h d hd).1, Bool.true_and]
  refine decide_eq_true ?_
  rw [PyData.depth]
  have := depAll_of (n := 8) fun d hd => (h d hd).2
  omega
theorem flat_tup {ds : List PyData} (h : ∀ d ∈ ds, Flat d) : SeqAt.shaped (.tuple ds) = true := by
  unfold SeqAt.shaped
  rw [PyData.canLay0, layAll_of fun d hd => (h d hd).1, Bool.true_and]
  refine decide_eq_true ?_
  rw [PyData.depth]
  have := depAll_of (n := 8) fun d hd => (h d hd).2
  omega
theorem same_of {d : PyData} (h : SeqAt.shaped d = true) : sameD d d = true := by
  unfold sameD
  rw [h, SeqAt.eqv_refl d (SeqAt.canLay_of_shaped h)]
  rfl
theorem flat_int (i : Int) : Flat (.int i) := ⟨rfl, Nat.zero_le _⟩
theorem flat_wD (b : Bool) : Flat (wD b) := by cases b <;> exact ⟨by simp only [wD, PyData.canLay0]; decide +kernel, Nat.zero_le _⟩
/-- what is no lane (no ways) -/
structure BadX (P : Fn) (c : Xc) (d : PyData) : Prop where
  err : P [d] = some (.error c)
  cp : ∃ b, dIs .list d = some (.bool b) ∧ (b = true → dLst1 d = some d)
  same : sameD d d = true
theorem all_false {ds : List PyData} {b : PyData → Bool} (h : ∃ d ∈ ds, b d = false) : dAll (.list (ds.map fun d => .bool (b d))) = some (.bool false) := by
  have e : ds.map (fun d => PyData.bool (b d)) = (ds.map b).map PyData.bool := by rw [List.map_map]; rfl
  rw [e, dAll_b]
  obtain ⟨d, hd, hb⟩ := h
  have : ((ds.map b).all fun b => b) = false := by
    rw [List.all_eq_false]
    exact ⟨b d, List.mem_map.mpr ⟨d, hd, rfl⟩, by rw [hb]; simp⟩
  rw [this]
theorem lcGo_all {st : PyData → Option (Option PyData)} {k : PyData → PyData} {ds : List PyData} (h : ∀ d ∈ ds, st d = some (some (k d))) : lcGo st ds = some (ds.map k) := by
  have := lcGo_map (st := st) (e := fun d : PyData => d) (k := k) (xs := ds) h
  simpa using this
def okNum : PyData → Bool
  | .int k => decide (0 ≤ k ∧ k ≤ 4)
  | _ => false
/-- no dict -/
def noDict : PyData → Bool
  | .dict _ => false
  | _ => true
theorem among_int {x a b : Int} : P_is_among [.int x, .int a, .int b] = some (.ok (false, .bool (decide (a ≤ x ∧ x ≤ b)))) := by
  by_cases h0 : a ≤ x
  · by_cases h1 : x ≤ b
    · rw [is_among_t h0 h1, decide_eq_true ⟨h0, h1⟩]
    · have : ¬ (a ≤ x ∧ x ≤ b) := fun h => h1 h.2
      rw [decide_eq_false this]
      simp [P_is_among, runFn, g_is_among, startE, dIs, h0, h1]
  · have : ¬ (a ≤ x ∧ x ≤ b) := fun h => h0 h.1
    rw [decide_eq_false this]
    simp [P_is_among, runFn, g_is_among, startE, dIs, h0]
theorem among_num {d : PyData} (h : noDict d = true) : P_is_among [d, .int 0, .int 4] = some (.ok (false, .bool (okNum d))) := by
  cases d with
  | int k => exact among_int
  | none => exact among_t (.inr (.inl rfl))
  | bool b => exact among_t (.inr (.inr ⟨b, rfl⟩))
  | str x => exact among_t (.inr (.inl rfl))
  | tuple ds => exact among_t (.inr (.inl rfl))
  | list ds => exact among_t (.inr (.inl rfl))
  | dict kvs => cases h
theorem c1_lane {ds : List PyData} (h : ∀ d ∈ ds, noDict d = true) : c1_need_lane [some (false, .list ds), none] = some (.ok (.list (ds.map fun d => .bool (okNum d)))) := by
  refine eLC_of (ds := ds) (sLst_of rfl) (lcGo_all fun d hd => step_yes rfl ?_)
  simp [among_num (h d hd)]
theorem lane_items {ds : List PyData} (h : ∀ d ∈ ds, noDict d = true) (hx : ∃ d ∈ ds, okNum d = false) : P_need_lane [.list ds] = some (.error .lane) := by
  have e1 := c1_lane h
  have e2 := all_false (b := okNum) hx
  have e3 : dIs .list (.list ds) = some (.bool true) := rfl
  have e4 : dLen (.list ds) = some (.int ds.length) := rfl
  by_cases h1 : (1 : Int) ≤ ds.length
  · by_cases h8 : (ds.length : Int) ≤ 8
    · simp [P_need_lane, runFn, g_need_lane, startE, e1, e2, e3, e4, h1, h8]
    · simp [P_need_lane, runFn, g_need_lane, startE, e3, e4, h1, h8]
  · simp [P_need_lane, runFn, g_need_lane, startE, e3, e4, h1]
theorem lane_len {ds : List PyData} (h : ds.length = 0 ∨ 8 < ds.length) : P_need_lane [.list ds] = some (.error .lane) := by
  have e3 : dIs .list (.list ds) = some (.bool true) := rfl
  have e4 : dLen (.list ds) = some (.int ds.length) := rfl
  by_cases h1 : (1 : Int) ≤ ds.length
  · have h8 : ¬ (ds.length : Int) ≤ 8 := by omega
    simp [P_need_lane, runFn, g_need_lane, startE, e3, e4, h1, h8]
  · simp [P_need_lane, runFn, g_need_lane, startE, e3, e4, h1]
theorem lane_kind {d : PyData} (h : dIs .list d = some (.bool false)) : P_need_lane [d] = some (.error .lane) := by
  simp [P_need_lane, runFn, g_need_lane, startE, h]
/-- numbers that are none of a siding -/
theorem number_t {c : Int} : ∃ d, P_l_number [.int c] = some (.ok (false, d)) ∧ okNum d = false ∧ noDict d = true ∧ Flat d := by
  generalize hf : c / 8 % 100000000000000000000 = far
  have f0 : 0 ≤ far := by rw [← hf]; exact Int.emod_nonneg _ (by decide)
  have i1 : iDiv (.int c) (.int 8) = some (.int (c / 8)) := rfl
  have i2 : iPow (.int 10) (.int 20) = some (.int 100000000000000000000) := by rfl
  have i3 : iMod (.int (c / 8)) (.int 100000000000000000000) = some (.int far) := by rw [← hf]; rfl
  have i6 : iMod (.int c) (.int 8) = some (.int (c % 8)) := rfl
  have fin : ∀ o : Option PyData, (match bindS (Option.map Except.ok o) fun d => some (Out.rt false d) with
    | some (Out.rt b d) => some (Except.ok (b, d))
    | some (Out.nx e) => some (Except.ok (false, PyData.none))
    | some (Out.xc c) => some (Except.error c)
    | x => none) = Option.map (fun d => (Except.ok (false, d) : Rt)) o := fun o => by cases o <;> rfl
  have e : P_l_number [.int c] = (atI [.int (-1), .int 5, .int (5 + far), .int (-1 - far), .bool true, .none, .str "1", .list [.int 1]] (c % 8)).map fun d => .ok (false, d) := by
    simp only [P_l_number, runFn, g_l_number, startE]
    simp [i1, i2, i3, i6, dLst]
    exact fin _
  rw [e]
  have i0 := Int.emod_nonneg c (b := 8) (by decide)
  have i1 := Int.emod_lt_of_pos c (b := 8) (by decide)
  rcases (by omega : c % 8 = 0 ∨ c % 8 = 1 ∨ c % 8 = 2 ∨ c % 8 = 3 ∨ c % 8 = 4 ∨ c % 8 = 5 ∨ c % 8 = 6 ∨ c % 8 = 7) with h | h | h | h | h | h | h | h <;> rw [h]
  · exact ⟨_, rfl, rfl, rfl, flat_int _⟩
  · exact ⟨_, rfl, rfl, rfl, flat_int _⟩
  · exact ⟨_, rfl, decide_eq_false (by omega), rfl, flat_int _⟩
  · exact ⟨_, rfl, decide_eq_false (by omega), rfl, flat_int _⟩
  · exact ⟨_, rfl, rfl, rfl, rfl, Nat.zero_le _⟩
  · exact ⟨_, rfl, rfl, rfl, rfl, Nat.zero_le _⟩
  · exact ⟨_, rfl, rfl, rfl, by decide +kernel, Nat.zero_le _⟩
  · exact ⟨_, rfl, rfl, rfl, rfl, by decide +kernel⟩
theorem lst_bad {P : Fn} {c : Xc} {ds : List PyData} (h : P [.list ds] = some (.error c)) (hf : ∀ d ∈ ds, Flat d) : BadX P c (.list ds) := ⟨h, ⟨true, rfl, fun _ => rfl⟩, same_of (flat_lst hf)⟩
theorem oth_bad {P : Fn} {c : Xc} {d : PyData} (h : P [d] = some (.error c)) (hi : dIs .list d = some (.bool false)) (hs : sameD d d = true) : BadX P c d := ⟨h, ⟨false, hi, fun h => (nomatch h)⟩, hs⟩
theorem cut_mem {ds : List PyData} {lo hi : Option Int} {d : PyData} (h : d ∈ cutD ds lo hi) : d ∈ ds := by
  unfold cutD at h
  exact List.mem_of_mem_drop (List.mem_of_mem_take h)
theorem cut_len {ds : List PyData} {lo hi : Option Int} : (cutD ds lo hi).length ≤ ds.length := by
  unfold cutD
  rw [List.length_take, List.length_drop]
  omega
theorem rep_flat {k : Nat} {d : PyData} : (List.replicate k [d]).flatten = List.replicate k d := by
  induction k with
  | zero => rfl
  | succ k ih => rw [List.replicate_succ, List.flatten_cons, ih]; rfl
theorem rtFin (o : Option PyData) : (match bindS (Option.map Except.ok o) fun d => some (Out.rt false d) with
    | some (Out.rt b d) => some (Except.ok (b, d))
    | some (Out.nx e) => some (Except.ok (false, PyData.none))
    | some (Out.xc c) => some (Except.error c)
    | x => none) = Option.map (fun d => (Except.ok (false, d) : Rt)) o := by cases o <;> rfl
theorem rtFin2 (o : Option PyData) (k : DS.Env → Option Out) : (match seqO (bindS (Option.map Except.ok o) fun d => some (Out.rt false d)) k with
    | some (Out.rt b d) => some (Except.ok (b, d))
    | some (Out.nx e) => some (Except.ok (false, PyData.none))
    | some (Out.xc c) => some (Except.error c)
    | x => none) = Option.map (fun d => (Except.ok (false, d) : Rt)) o := by cases o <;> rfl
theorem bad_lane_t {L : List Int} {c : Int} (n1 : 1 ≤ L.length) (n8 : L.length ≤ 8) : ∃ d, P_l_bad_lane [eL L, .int c] = some (.ok (false, d)) ∧ BadX P_need_lane .lane d := by
  have hz := sizeLine_eq
  have hp : (0 : Int) < L.length := by omega
  have hn : 0 < L.length := n1
  have fl : ∀ d ∈ L.map PyData.int, Flat d := fun d hd => by obtain ⟨i, _, rfl⟩ := List.mem_map.mp hd; exact flat_int i
  have nd : ∀ d ∈ L.map PyData.int, noDict d = true := fun d hd => by obtain ⟨i, _, rfl⟩ := List.mem_map.mp hd; rfl
  have hlen : (L.map PyData.int).length = L.length := List.length_map ..
  have m0 := Int.emod_nonneg c (b := 5) (by decide)
  have m5 := Int.emod_lt_of_pos c (b := 5) (by decide)
  by_cases h3 : c % 5 < 3
  · obtain ⟨d, e1, e2, e3, e4⟩ := number_t (c := c / 40)
    generalize hA : cutD (L.map PyData.int) none (some (c / 5 % (L.length : Int))) = A
    generalize hB : cutD (L.map PyData.int) (some (c / 5 % (L.length : Int) + 1)) none = B
    have la : A.length ≤ 8 := by rw [← hA]; exact Nat.le_trans cut_len (by omega)
    have lb : B.length ≤ 8 := by rw [← hB]; exact Nat.le_trans cut_len (by omega)
    have c1 : iCat (.list A) (.list [d]) = some (.list (A ++ [d])) := iCat_l (by simp; omega)
    have c2 : iCat (.list (A ++ [d])) (.list B) = some (.list (A ++ [d] ++ B)) := iCat_l (by simp; omega)
    have mem : ∀ x ∈ A ++ [d] ++ B, x ∈ L.map PyData.int ∨ x = d := fun x hx => by
      rcases List.mem_append.mp hx with hx | hx
      · rcases List.mem_append.mp hx with hx | hx
        · exact .inl (cut_mem (hA ▸ hx))
        · exact .inr (List.mem_singleton.mp hx)
      · exact .inl (cut_mem (hB ▸ hx))
    refine ⟨.list (A ++ [d] ++ B), ?_, lst_bad (lane_items (fun x hx => (mem x hx).elim (nd x) fun e => e ▸ e3) ⟨d, by simp, e2⟩) fun x hx => (mem x hx).elim (fl x) fun e => e ▸ e4⟩
    have s1 : dSlL (eL L) none (some (c / 5 % (L.length : Int))) = some (.list A) := by rw [← hA]; rfl
    have s2 : dSlL (eL L) (some (c / 5 % (L.length : Int) + 1)) none = some (.list B) := by rw [← hB]; rfl
    simp only [P_l_bad_lane, runFn, g_l_bad_lane, startE]
    simp [hn, h3, s1, s2, e1, c1, c2, dLst]
  · by_cases h4 : c % 5 = 3
    · have r1 : ∀ k : Int, 0 ≤ k → k ≤ 9 → iRep (.list [.int 0]) (.int k) = some (.list (List.replicate k.toNat (.int 0))) := fun k k0 k9 => by
        show (if 0 ≤ k ∧ k ≤ 1000 ∧ ([PyData.int 0]).length * k.toNat ≤ sizeLine then some (PyData.list (List.replicate k.toNat [PyData.int 0]).flatten) else none) = _
        rw [if_pos ⟨k0, by omega, by rw [hz, List.length_singleton]; omega⟩, rep_flat]
      have r2 : ∀ k : Nat, k ≤ 9 → iCat (eL L) (.list (List.replicate k (.int 0))) = some (.list (L.map PyData.int ++ List.replicate k (.int 0))) := fun k hk => iCat_l (by simp; omega)
      have q1 := r1 (9 - (L.length : Int)) (by omega) (by omega)
      have q2 := r2 (9 - (L.length : Int)).toNat (by omega)
      have q3 := r1 9 (by omega) (by omega)
      have q4 := r2 9 (by omega)
      have bad : ∀ k : Nat, 9 - L.length ≤ k → BadX P_need_lane .lane (.list (L.map PyData.int ++ List.replicate k (.int 0))) := fun k hk => lst_bad (lane_len (.inr (by simp; omega))) fun x hx => by
        rcases List.mem_append.mp hx with hx | hx
        · exact fl x hx
        · rw [(List.mem_replicate.mp hx).2]; exact flat_int 0
      have b1 := bad (9 - (L.length : Int)).toNat (by omega)
      have b2 := bad 9 (by omega)
      have q3' : iRep (.list [.int 0]) (.int 9) = some (.list (List.replicate 9 (.int 0))) := q3
      generalize List.replicate (9 - (L.length : Int)).toNat (PyData.int 0) = Z1 at *
      generalize List.replicate 9 (PyData.int 0) = Z2 at *
      generalize L.map PyData.int ++ Z1 = Y1 at *
      generalize L.map PyData.int ++ Z2 = Y2 at *
      have e : P_l_bad_lane [eL L, .int c] = (atI [.list [], .list Y1, .list Y2] (c / 5 % 3)).map fun d => .ok (false, d) := by
        simp only [P_l_bad_lane, runFn, g_l_bad_lane, startE]
        simp [hn, h4, q1, q2, q3', q4, dLst]
        exact rtFin2 _ _
      rw [e]
      have j0 := Int.emod_nonneg (c / 5) (b := 3) (by decide)
      have j1 := Int.emod_lt_of_pos (c / 5) (b := 3) (by decide)
      rcases (by omega : c / 5 % 3 = 0 ∨ c / 5 % 3 = 1 ∨ c / 5 % 3 = 2) with h | h | h <;> rw [h]
      · exact ⟨_, rfl, lst_bad (lane_len (.inl rfl)) fun x hx => by cases hx⟩
      · exact ⟨_, rfl, b1⟩
      · exact ⟨_, rfl, b2⟩
    · have e : P_l_bad_lane [eL L, .int c] = (atI [.tuple (L.map PyData.int), .none, .str "00", .int 3, dkD [.inl 0] [.int 1]] (c / 5 % 5)).map fun d => .ok (false, d) := by
        simp only [P_l_bad_lane, runFn, g_l_bad_lane, startE]
        have t1 : dTup1 (eL L) = some (.tuple (L.map PyData.int)) := rfl
        simp [hn, h3, h4, t1, dLst]
        exact rtFin _
      rw [e]
      have j0 := Int.emod_nonneg (c / 5) (b := 5) (by decide)
      have j1 := Int.emod_lt_of_pos (c / 5) (b := 5) (by decide)
      rcases (by omega : c / 5 % 5 = 0 ∨ c / 5 % 5 = 1 ∨ c / 5 % 5 = 2 ∨ c / 5 % 5 = 3 ∨ c / 5 % 5 = 4) with h | h | h | h | h <;> rw [h]
      · exact ⟨_, rfl, oth_bad (lane_kind rfl) rfl (same_of (flat_tup fl))⟩
      · exact ⟨_, rfl, oth_bad (lane_kind rfl) rfl (by decide +kernel)⟩
      · exact ⟨_, rfl, oth_bad (lane_kind rfl) rfl (by decide +kernel)⟩
      · exact ⟨_, rfl, oth_bad (lane_kind rfl) rfl (by decide +kernel)⟩
      · exact ⟨_, rfl, oth_bad (lane_kind rfl) rfl (by decide +kernel)⟩
def okWay : PyData → Bool
  | .str x => (("right" : Str) == x) || (("left" : Str) == x)
  | _ => false
theorem c1_ways {ds : List PyData} (h : ∀ d ∈ ds, noDict d = true ∧ Flat d) : c1_need_ways [some (false, .list ds), none] = some (.ok (.list (ds.map fun d => .bool (okWay d)))) := by
  refine eLC_of (ds := ds) (sLst_of rfl) (lcGo_all fun d hd => step_yes rfl ?_)
  obtain ⟨h1, h2⟩ := h d hd
  cases d with
  | str x =>
    have hx : PyData.strOk x = true := h2.1
    have e1 : dIs .str (.str x) = some (.bool true) := rfl
    have e2 := dIn_str2 (n := false) (x := x) (y := "right") (z := "left") hx (by decide +kernel) (by decide +kernel) rfl rfl
    simp [e1, e2, okWay, dTup]
  | none => simp [dIs, okWay]
  | bool b => simp [dIs, okWay]
  | int k => simp [dIs, okWay]
  | tuple ds => simp [dIs, okWay]
  | list ds => simp [dIs, okWay]
  | dict kvs => cases h1
theorem ways_items {ds : List PyData} (h : ∀ d ∈ ds, noDict d = true ∧ Flat d) (hx : ∃ d ∈ ds, okWay d = false) : P_need_ways [.list ds] = some (.error .ways) := by
  have e1 := c1_ways h
  have e2 := all_false (b := okWay) hx
  have e3 : dIs .list (.list ds) = some (.bool true) := rfl
  have e4 : dLen (.list ds) = some (.int ds.length) := rfl
  by_cases h1 : (1 : Int) ≤ ds.length
  · by_cases h8 : (ds.length : Int) ≤ 6
    · simp [P_need_ways, runFn, g_need_ways, startE, e1, e2, e3, e4, h1, h8]
    · simp [P_need_ways, runFn, g_need_ways, startE, e3, e4, h1, h8]
  · simp [P_need_ways, runFn, g_need_ways, startE, e3, e4, h1]
theorem ways_len {ds : List PyData} (h : ds.length = 0 ∨ 6 < ds.length) : P_need_ways [.list ds] = some (.error .ways) := by
  have e3 : dIs .list (.list ds) = some (.bool true) := rfl
  have e4 : dLen (.list ds) = some (.int ds.length) := rfl
  by_cases h1 : (1 : Int) ≤ ds.length
  · have h8 : ¬ (ds.length : Int) ≤ 6 := by omega
    simp [P_need_ways, runFn, g_need_ways, startE, e3, e4, h1, h8]
  · simp [P_need_ways, runFn, g_need_ways, startE, e3, e4, h1]
theorem ways_kind {d : PyData} (h : dIs .list d = some (.bool false)) : P_need_ways [d] = some (.error .ways) := by
  simp [P_need_ways, runFn, g_need_ways, startE, h]
theorem bad_ways_t {ws : List Bool} {c : Int} (n1 : 1 ≤ ws.length) (n6 : ws.length ≤ 6) : ∃ d, P_l_bad_ways [eW ws, .int c] = some (.ok (false, d)) ∧ BadX P_need_ways .ways d := by
  have hz := sizeLine_eq
  have hn : 0 < ws.length := n1
  have fl : ∀ d ∈ ws.map wD, Flat d := fun d hd => by obtain ⟨i, _, rfl⟩ := List.mem_map.mp hd; exact flat_wD i
  have nd : ∀ d ∈ ws.map wD, noDict d = true := fun d hd => by obtain ⟨i, _, rfl⟩ := List.mem_map.mp hd; rfl
  have hlen : (ws.map wD).length = ws.length := List.length_map ..
  have m0 := Int.emod_nonneg c (b := 5) (by decide)
  have m5 := Int.emod_lt_of_pos c (b := 5) (by decide)
  by_cases h3 : c % 5 < 3
  · obtain ⟨d, e1, e2, e3, e4⟩ : ∃ d, atI [.str "Right", .str "up", .str "", .str "right ", .bool true, .none, .int 1, .list [.str "left"], .str "lef"] (c / 30 % 9) = some d ∧ okWay d = false ∧ noDict d = true ∧ Flat d := by
      have j0 := Int.emod_nonneg (c / 30) (b := 9) (by decide)
      have j1 := Int.emod_lt_of_pos (c / 30) (b := 9) (by decide)
      rcases (by omega : c / 30 % 9 = 0 ∨ c / 30 % 9 = 1 ∨ c / 30 % 9 = 2 ∨ c / 30 % 9 = 3 ∨ c / 30 % 9 = 4 ∨ c / 30 % 9 = 5 ∨ c / 30 % 9 = 6 ∨ c / 30 % 9 = 7 ∨ c / 30 % 9 = 8) with h | h | h | h | h | h | h | h | h <;> rw [h] <;>
        exact ⟨_, rfl, by decide +kernel, rfl, by decide +kernel, by decide +kernel⟩
    generalize hA : cutD (ws.map wD) none (some (c / 5 % (ws.length : Int))) = A
    generalize hB : cutD (ws.map wD) (some (c / 5 % (ws.length : Int) + 1)) none = B
    have la : A.length ≤ 6 := by rw [← hA]; exact Nat.le_trans cut_len (by omega)
    have lb : B.length ≤ 6 := by rw [← hB]; exact Nat.le_trans cut_len (by omega)
    have c1 : iCat (.list A) (.list [d]) = some (.list (A ++ [d])) := iCat_l (by simp; omega)
    have c2 : iCat (.list (A ++ [d])) (.list B) = some (.list (A ++ [d] ++ B)) := iCat_l (by simp; omega)
    have mem : ∀ x ∈ A ++ [d] ++ B, x ∈ ws.map wD ∨ x = d := fun x hx => by
      rcases List.mem_append.mp hx with hx | hx
      · rcases List.mem_append.mp hx with hx | hx
        · exact .inl (cut_mem (hA ▸ hx))
        · exact .inr (List.mem_singleton.mp hx)
      · exact .inl (cut_mem (hB ▸ hx))
    refine ⟨.list (A ++ [d] ++ B), ?_, lst_bad (ways_items (fun x hx => (mem x hx).elim (fun h => ⟨nd x h, fl x h⟩) fun e => e ▸ ⟨e3, e4⟩) ⟨d, by simp, e2⟩) fun x hx => (mem x hx).elim (fl x) fun e => e ▸ e4⟩
    have s1 : dSlL (eW ws) none (some (c / 5 % (ws.length : Int))) = some (.list A) := by rw [← hA]; rfl
    have s2 : dSlL (eW ws) (some (c / 5 % (ws.length : Int) + 1)) none = some (.list B) := by rw [← hB]; rfl
    simp only [P_l_bad_ways, runFn, g_l_bad_ways, startE]
    simp [hn, h3, s1, s2, e1, c1, c2, dLst]
  · by_cases h4 : c % 5 = 3
    · have r1 : iRep (.list [.str "left"]) (.int (7 - (ws.length : Int))) = some (.list (List.replicate (7 - (ws.length : Int)).toNat (.str "left"))) := by
        show (if 0 ≤ (7 - (ws.length : Int)) ∧ (7 - (ws.length : Int)) ≤ 1000 ∧ ([PyData.str "left"]).length * (7 - (ws.length : Int)).toNat ≤ sizeLine then some (PyData.list (List.replicate (7 - (ws.length : Int)).toNat [PyData.str "left"]).flatten) else none) = _
        rw [if_pos ⟨by omega, by omega, by rw [hz, List.length_singleton]; omega⟩, rep_flat]
      have q2 : iCat (eW ws) (.list (List.replicate (7 - (ws.length : Int)).toNat (.str "left"))) = some (.list (ws.map wD ++ List.replicate (7 - (ws.length : Int)).toNat (.str "left"))) := iCat_l (by simp; omega)
      have b1 : BadX P_need_ways .ways (.list (ws.map wD ++ List.replicate (7 - (ws.length : Int)).toNat (.str "left"))) := lst_bad (ways_len (.inr (by simp; omega))) fun x hx => by
        rcases List.mem_append.mp hx with hx | hx
        · exact fl x hx
        · rw [(List.mem_replicate.mp hx).2]; exact flat_wD false
      generalize List.replicate (7 - (ws.length : Int)).toNat (PyData.str "left") = Z1 at *
      generalize ws.map wD ++ Z1 = Y1 at *
      have e : P_l_bad_ways [eW ws, .int c] = (atI [.list [], .list Y1] (c / 5 % 2)).map fun d => .ok (false, d) := by
        simp only [P_l_bad_ways, runFn, g_l_bad_ways, startE]
        simp [hn, h4, r1, q2, dLst]
        exact rtFin2 _ _
      rw [e]
      have j0 := Int.emod_nonneg (c / 5) (b := 2) (by decide)
      have j1 := Int.emod_lt_of_pos (c / 5) (b := 2) (by decide)
      rcases (by omega : c / 5 % 2 = 0 ∨ c / 5 % 2 = 1) with h | h <;> rw [h]
      · exact ⟨_, rfl, lst_bad (ways_len (.inl rfl)) fun x hx => by cases hx⟩
      · exact ⟨_, rfl, b1⟩
    · have e : P_l_bad_ways [eW ws, .int c] = (atI [.tuple (ws.map wD), .none, .str "right", .int 3, dkD [.inr "right"] [.int 1]] (c / 5 % 5)).map fun d => .ok (false, d) := by
        simp only [P_l_bad_ways, runFn, g_l_bad_ways, startE]
        have t1 : dTup1 (eW ws) = some (.tuple (ws.map wD)) := rfl
        simp [hn, h3, h4, t1, dLst]
        exact rtFin _
      rw [e]
      have j0 := Int.emod_nonneg (c / 5) (b := 5) (by decide)
      have j1 := Int.emod_lt_of_pos (c / 5) (b := 5) (by decide)
      rcases (by omega : c / 5 % 5 = 0 ∨ c / 5 % 5 = 1 ∨ c / 5 % 5 = 2 ∨ c / 5 % 5 = 3 ∨ c / 5 % 5 = 4) with h | h | h | h | h <;> rw [h]
      · exact ⟨_, rfl, oth_bad (ways_kind rfl) rfl (same_of (flat_tup fl))⟩
      · exact ⟨_, rfl, oth_bad (ways_kind rfl) rfl (by decide +kernel)⟩
      · exact ⟨_, rfl, oth_bad (ways_kind rfl) rfl (by decide +kernel)⟩
      · exact ⟨_, rfl, oth_bad (ways_kind rfl) rfl (by decide +kernel)⟩
      · exact ⟨_, rfl, oth_bad (ways_kind rfl) rfl (by decide +kernel)⟩
/-- spots that are none -/
def BadSp (L : List Int) (d : PyData) : Prop := P_is_spot [d, eL L] = some (.ok (false, .bool false))
def badL (n more : Int) : List PyData := [.tuple [.str "lane", .int n], .tuple [.str "side", .int (-1)], .tuple [.str "lane", .bool true], .tuple [.str "lane", .none], .tuple [.str "out", .int 0], .tuple [.str "lane"],
  .list [.str "lane", .int 0], .tuple [.str "Lane", .int 0], .tuple [.str "lane", .str "0"], .none, .tuple [], .str "out", .tuple [.str "side", .int (n + more)],
  .tuple [.int 0, .str "lane"], .tuple [.str "on", .int 0], .tuple [.str "lane", .int (-1 - more)], .tuple [.str "lane", .int 0, .int 0], .tuple [.list [.str "lane"], .int 0], .tuple [.str "side", .bool false], .tuple [.str "lane", .list [.int 0]]]
theorem bad_spots_t {L : List Int} {m : Int} : P_l_bad_spots [eL L, .int m] = some (.ok (false, .list (badL L.length m))) := by
  have hz := sizeLine_eq
  simp only [P_l_bad_spots, runFn, g_l_bad_spots, startE]
  simp [dLst, iCat, hz, badL]
theorem spot_kind {L : List Int} {d : PyData} (h : dIs .tuple d = some (.bool false)) : BadSp L d := by simp [BadSp, P_is_spot, runFn, g_is_spot, startE, h]
theorem spot_num {L : List Int} {w : Str} {b : PyData} (hw : w = "lane" ∨ w = "side") (h : P_is_among [b, .int 0, .int ((L.length : Int) - 1)] = some (.ok (false, .bool false))) : BadSp L (.tuple [.str w, b]) := by
  have e1 : dIs .tuple (.tuple [.str w, b]) = some (.bool true) := rfl
  have e2 : dLen (.tuple [.str w, b]) = some (.int 2) := rfl
  have e3 : dIs .str (.str w) = some (.bool true) := rfl
  rcases hw with rfl | rfl <;> simp [BadSp, P_is_spot, runFn, g_is_spot, startE, e1, e2, e3, h]
theorem spot_word {L : List Int} {w : Str} {b : PyData} (h1 : dEq false (.str w) (.str "out") = some (.bool false)) (h2 : dIn false (.str w) (.tuple [.str "lane", .str "side"]) = some (.bool false)) : BadSp L (.tuple [.str w, b]) := by
  have e1 : dIs .tuple (.tuple [.str w, b]) = some (.bool true) := rfl
  have e2 : dLen (.tuple [.str w, b]) = some (.int 2) := rfl
  have e3 : dIs .str (.str w) = some (.bool true) := rfl
  simp [BadSp, P_is_spot, runFn, g_is_spot, startE, e1, e2, e3, h1, h2, dTup]
theorem bad_spot {L : List Int} {m : Int} (m0 : 0 ≤ m) (d : PyData) (h : d ∈ badL L.length m) : BadSp L d := by
  have num : ∀ (w : Str) (k : Int), w = "lane" ∨ w = "side" → ¬ (0 ≤ k ∧ k ≤ (L.length : Int) - 1) → BadSp L (.tuple [.str w, .int k]) := fun w k hw h => spot_num hw (among_t (.inl ⟨k, rfl, h⟩))
  have non : ∀ (w : Str) (b : PyData), w = "lane" ∨ w = "side" → dIs .int b = some (.bool false) → BadSp L (.tuple [.str w, b]) := fun w b hw h => spot_num hw (among_t (.inr (.inl h)))
  have bln : ∀ (w : Str) (b : Bool), w = "lane" ∨ w = "side" → BadSp L (.tuple [.str w, .bool b]) := fun w b hw => spot_num hw (among_t (.inr (.inr ⟨b, rfl⟩)))
  unfold badL at h
  simp only [List.mem_cons, List.not_mem_nil, or_false] at h
  rcases h with rfl | rfl | rfl | rfl | rfl | rfl | rfl | rfl | rfl | rfl | rfl | rfl | rfl | rfl | rfl | rfl | rfl | rfl | rfl | rfl
  · exact num _ _ (.inl rfl) (by omega)
  · exact num _ _ (.inr rfl) (by omega)
  · exact bln _ _ (.inl rfl)
  · exact non _ _ (.inl rfl) rfl
  · have e1 : dIs .tuple (.tuple [.str "out", .int 0]) = some (.bool true) := rfl
    have e2 : dLen (.tuple [.str "out", .int 0]) = some (.int 2) := rfl
    have e3 : dIs .str (.str "out") = some (.bool true) := rfl
    simp [BadSp, P_is_spot, runFn, g_is_spot, startE, e1, e2, e3]
  · have e1 : dIs .tuple (.tuple [.str "lane"]) = some (.bool true) := rfl
    have e2 : dLen (.tuple [.str "lane"]) = some (.int 1) := rfl
    have e3 : dIs .str (.str "lane") = some (.bool true) := rfl
    simp [BadSp, P_is_spot, runFn, g_is_spot, startE, e1, e2, e3]
  · exact spot_kind rfl
  · exact spot_word (dEq_str (b := false) (by decide +kernel) (by decide +kernel) (by decide +kernel)) (dIn_str2 (n := false) (b := false) (c := false) (by decide +kernel) (by decide +kernel) (by decide +kernel) (by decide +kernel) (by decide +kernel))
  · exact non _ _ (.inl rfl) rfl
  · exact spot_kind rfl
  · have e1 : dIs .tuple (.tuple []) = some (.bool true) := rfl
    have e2 : dLen (.tuple []) = some (.int 0) := rfl
    simp [BadSp, P_is_spot, runFn, g_is_spot, startE, e1, e2]
  · exact spot_kind rfl
  · exact num _ _ (.inr rfl) (by omega)
  · have e1 : dIs .tuple (.tuple [.int 0, .str "lane"]) = some (.bool true) := rfl
    have e2 : dLen (.tuple [.int 0, .str "lane"]) = some (.int 2) := rfl
    have e3 : dIs .str (.int 0) = some (.bool false) := rfl
    simp [BadSp, P_is_spot, runFn, g_is_spot, startE, e1, e2, e3]
  · exact spot_word (dEq_str (b := false) (by decide +kernel) (by decide +kernel) (by decide +kernel)) (dIn_str2 (n := false) (b := false) (c := false) (by decide +kernel) (by decide +kernel) (by decide +kernel) (by decide +kernel) (by decide +kernel))
  · exact num _ _ (.inl rfl) (by omega)
  · have e1 : dIs .tuple (.tuple [.str "lane", .int 0, .int 0]) = some (.bool true) := rfl
    have e2 : dLen (.tuple [.str "lane", .int 0, .int 0]) = some (.int 3) := rfl
    have e3 : dIs .str (.str "lane") = some (.bool true) := rfl
    simp [BadSp, P_is_spot, runFn, g_is_spot, startE, e1, e2, e3]
  · have e1 : dIs .tuple (.tuple [.list [.str "lane"], .int 0]) = some (.bool true) := rfl
    have e2 : dLen (.tuple [.list [.str "lane"], .int 0]) = some (.int 2) := rfl
    have e3 : dIs .str (.list [.str "lane"]) = some (.bool false) := rfl
    simp [BadSp, P_is_spot, runFn, g_is_spot, startE, e1, e2, e3]
  · exact bln _ _ (.inr rfl)
  · exact non _ _ (.inl rfl) rfl
section
variable {L : List Int} {ws : List Bool} {s : List Spot}
def BadSt (L : List Int) (ws : List Bool) (d : PyData) : Prop := P_need_stand [eL L, eW ws, d] = some (.error .stand)
theorem stand_kind {d : PyData} (v : Valid L ws s) (h : dIs .tuple d = some (.bool false)) : BadSt L ws d := by
  have e1 := need_lane_t v.n1 v.n8 v.rm
  have e2 := need_ways_t v.w1 v.w6
  simp [BadSt, P_need_stand, runFn, g_need_stand, startE, e1, e2, h]
theorem stand_len {ds : List PyData} (v : Valid L ws s) (h : ds.length ≠ ws.length) : BadSt L ws (.tuple ds) := by
  have e1 := need_lane_t v.n1 v.n8 v.rm
  have e2 := need_ways_t v.w1 v.w6
  have e3 : dIs .tuple (.tuple ds) = some (.bool true) := rfl
  have e4 : dLen (.tuple ds) = some (.int ds.length) := rfl
  have e5 : decide ((ds.length : Int) = ws.length) = false := decide_eq_false (by omega)
  simp [BadSt, P_need_stand, runFn, g_need_stand, startE, e1, e2, e3, e4, e5]
theorem stand_spot {ds : List PyData} {b : PyData → Bool} (v : Valid L ws s) (hl : ds.length = ws.length) (h : ∀ d ∈ ds, P_is_spot [d, eL L] = some (.ok (false, .bool (b d)))) (hx : ∃ d ∈ ds, b d = false) : BadSt L ws (.tuple ds) := by
  have e1 := need_lane_t v.n1 v.n8 v.rm
  have e2 := need_ways_t v.w1 v.w6
  have e3 : dIs .tuple (.tuple ds) = some (.bool true) := rfl
  have e4 : dLen (.tuple ds) = some (.int ds.length) := rfl
  have e5 : (ds.length : Int) = ws.length := by omega
  have e6 : c1_need_stand [some (false, eL L), some (false, eW ws), some (false, .tuple ds), none] = some (.ok (.list (ds.map fun d => .bool (b d)))) := by
    refine eLC_of (ds := ds) (sTup_of rfl (by rw [sizeLine_eq]; have := v.w6; omega)) (lcGo_all fun d hd => step_yes rfl ?_)
    simp [h d hd]
  have e7 := all_false (b := b) hx
  simp [BadSt, P_need_stand, runFn, g_need_stand, startE, e1, e2, e3, e4, e5, e6, e7]
theorem has_room_bad {t : List Spot} (hz : L.length ≤ 8) (h : ∃ i : Nat, i < L.length ∧ (1 < t.count (.lane i) ∨ room L i < ((t.count (.side i) : Nat) : Int))) : P_has_room [eL L, eS t] = some (.ok (false, .bool false)) := by
  have hl : ∀ (is : List Nat), (∀ i ∈ is, i < L.length) → (∃ i ∈ is, 1 < t.count (.lane (i : Int)) ∨ room L i < ((t.count (.side (i : Int)) : Nat) : Int)) → ∀ x : Option (Bool × PyData), forGo (bName 2) b1_has_room (is.map fun i => PyData.int ((i : Nat) : Int)) [some (false, eL L), some (false, eS t), x] = some (.rt false (.bool false)) := by
    intro is
    induction is with
    | nil => rintro _ ⟨i, hi, _⟩; cases hi
    | cons i is ih =>
      intro hb hx x
      have hi := hb i List.mem_cons_self
      have e := atI_room (L := L) (p := (i : Int)) (by omega) (by omega)
      by_cases e3 : (1 : Int) < ((t.count (.lane (i : Int)) : Nat) : Int)
      · refine forGo_rt rfl ?_
        simp [b1_has_room, cnt_lane, cnt_side, e, e3]
      · by_cases e4 : room L i < ((t.count (.side (i : Int)) : Nat) : Int)
        · refine forGo_rt rfl ?_
          simp [b1_has_room, cnt_lane, cnt_side, e, e3, e4]
        · have hx' : ∃ i ∈ is, 1 < t.count (.lane (i : Int)) ∨ room L i < ((t.count (.side (i : Int)) : Nat) : Int) := by
            obtain ⟨j, hj, hv⟩ := hx
            rcases List.mem_cons.mp hj with rfl | hj
            · rcases hv with hv | hv
              · exact absurd (by omega) e3
              · exact absurd hv e4
            · exact ⟨j, hj, hv⟩
          rw [List.map_cons]
          refine (forGo_nx rfl ?_).trans (ih (fun j hj => hb j (List.mem_cons_of_mem _ hj)) hx' (some (false, .int i)))
          simp [b1_has_room, cnt_lane, cnt_side, e, e3, e4]
  obtain ⟨i, hi, hv⟩ := h
  have hy := hl (List.range L.length) (fun i hi => List.mem_range.mp hi) ⟨i, List.mem_range.mpr hi, hv⟩ none
  have hs : sRng (lift1 dLen (eV 0)) [some (false, eL L), some (false, eS t), none] = some (.ok ((List.range L.length).map fun i => PyData.int ((i : Nat) : Int))) := sRng_of (by simp) (by omega)
  simp only [P_has_room, runFn, g_has_room, startE]
  simp [sFor_of hs, hy]
theorem stand_room {t : List Spot} (v : Valid L ws s) (hl : t.length = ws.length) (hr : ∀ x ∈ t, inR L.length x = true) (h : ∃ i : Nat, i < L.length ∧ (1 < t.count (.lane i) ∨ room L i < ((t.count (.side i) : Nat) : Int))) : BadSt L ws (eS t) := by
  have e1 := need_lane_t v.n1 v.n8 v.rm
  have e2 := need_ways_t v.w1 v.w6
  have e3 := has_room_bad (t := t) v.n8 h
  have e5 : (t.length : Int) = ws.length := by omega
  have e6 : c1_need_stand [some (false, eL L), some (false, eW ws), some (false, eS t), none] = some (.ok (.list (List.replicate t.length (.bool true)))) := by
    refine eLC_of (ds := t.map Spot.d) (sTup_of rfl (by rw [List.length_map, sizeLine_eq]; have := v.w6; omega)) ?_
    rw [← List.map_const']
    refine lcGo_map fun x hx => step_yes rfl ?_
    simp [is_spot_t (hr x hx)]
  simp [BadSt, P_need_stand, runFn, g_need_stand, startE, e1, e2, e3, e5, e6]
/-- a spot that is none in the place of one -/
theorem put_spot {d : PyData} {at_ : Int} (v : Valid L ws s) (h0 : 0 ≤ at_) (h1 : at_ < s.length) (hd : BadSp L d) (hnd : ∀ x ∈ s, x.d ≠ d) :
    ∃ ds, iAdd (.tuple (cutD (s.map Spot.d) none (some at_))) (.tuple [d]) = some (.tuple (cutD (s.map Spot.d) none (some at_) ++ [d])) ∧ iAdd (.tuple (cutD (s.map Spot.d) none (some at_) ++ [d])) (.tuple (cutD (s.map Spot.d) (some (at_ + 1)) none)) = some (.tuple ds) ∧ BadSt L ws (.tuple ds) := by
  classical
  obtain ⟨i, rfl⟩ : ∃ i : Nat, at_ = i := ⟨at_.toNat, by omega⟩
  have hz := sizeLine_eq
  have l6 := v.w6
  have ll := v.len
  have c1 : cutD (s.map Spot.d) none (some (i : Int)) = (s.map Spot.d).take i := cut_to
  have c2 : cutD (s.map Spot.d) (some ((i : Int) + 1)) none = (s.map Spot.d).drop (i + 1) := by
    have := cut_from (xs := s.map Spot.d) (i := i + 1)
    simpa using this
  rw [c1, c2]
  have hlen : ((s.map Spot.d).take i ++ [d] ++ (s.map Spot.d).drop (i + 1)).length = ws.length := by
    simp only [List.length_append, List.length_take, List.length_drop, List.length_map, List.length_singleton]
    omega
  refine ⟨(s.map Spot.d).take i ++ [d] ++ (s.map Spot.d).drop (i + 1), iAdd_t (by simp; omega), iAdd_t (by simp; omega), ?_⟩
  refine stand_spot (b := fun x => decide (x ≠ d)) v hlen (fun x hx => ?_) ⟨d, by simp, by simp⟩
  have old : ∀ x ∈ s.map Spot.d, P_is_spot [x, eL L] = some (.ok (false, .bool (decide (x ≠ d)))) := fun x hx => by
    obtain ⟨y, hy, rfl⟩ := List.mem_map.mp hx
    rw [is_spot_t (v.inr y hy), decide_eq_true (hnd y hy)]
  rcases List.mem_append.mp hx with hx | hx
  · rcases List.mem_append.mp hx with hx | hx
    · exact old x (List.mem_of_mem_take hx)
    · rw [List.mem_singleton.mp hx]
      have e : decide (d ≠ d) = false := by simp
      rw [e]
      exact hd
  · exact old x (List.mem_of_mem_drop hx)
theorem bad_ne {d : PyData} (v : Valid L ws s) (hd : BadSp L d) : ∀ x ∈ s, x.d ≠ d := fun x hx e => by
  have h := is_spot_t (v.inr x hx)
  unfold BadSp at hd
  rw [e, hd] at h
  cases h
theorem get_bad {n m : Int} : ∀ j : Nat, j < 20 → ∃ d, atI (badL n m) (j : Int) = some d ∧ d ∈ badL n m := fun j hj => by
  have hl : j < (badL n m).length := hj
  exact ⟨_, atI_n hl, List.getElem_mem hl⟩
theorem lane_bad (v : Valid L ws s) : BadSp L (.tuple [.str "lane", .int 9]) := spot_num (.inl rfl) (among_t (.inl ⟨9, rfl, by have := v.n8; omega⟩))
theorem crowded_t {at_ : Int} (v : Valid L ws s) (h0 : 0 ≤ at_) (h1 : at_ < s.length) : ∃ d, P_l_crowded [eL L, eS s, .int at_] = some (.ok (false, d)) ∧ BadSt L ws d := by
  have hz := sizeLine_eq
  have l6 := v.w6
  have ll := v.len
  have l1 := v.w1
  have go : ∀ (is : List Nat) (z : Option (Bool × PyData)), (∀ i ∈ is, i < L.length) → (∃ z', forGo (bName 3) b1_l_crowded (is.map fun i => PyData.int ((i : Nat) : Int)) [some (false, eL L), some (false, eS s), some (false, .int at_), z] = some (.nx [some (false, eL L), some (false, eS s), some (false, .int at_), z'])) ∨
      ∃ i, i < L.length ∧ room L i < (s.length : Int) ∧ forGo (bName 3) b1_l_crowded (is.map fun i => PyData.int ((i : Nat) : Int)) [some (false, eL L), some (false, eS s), some (false, .int at_), z] = some (.rt false (eS (List.replicate s.length (.side (i : Int))))) := by
    intro is
    induction is with
    | nil => exact fun z _ => .inl ⟨z, rfl⟩
    | cons i is ih =>
      intro z hb
      have hi := hb i List.mem_cons_self
      have e := atI_room (L := L) (p := (i : Int)) (by omega) (by omega)
      by_cases hr : room L i < (s.length : Int)
      · right
        refine ⟨i, hi, hr, forGo_rt rfl ?_⟩
        have er : iRepT (.tuple [.tuple [.str "side", .int (i : Int)]]) (.int (s.length : Int)) = some (eS (List.replicate s.length (.side (i : Int)))) := by
          show (if [PyData.tuple [.str "side", .int (i : Int)]] ≠ [] ∧ 1 ≤ (s.length : Int) ∧ (s.length : Int) ≤ 1000 ∧ [PyData.tuple [.str "side", .int (i : Int)]].length ≤ 1000 then some (PyData.tuple (List.replicate (s.length : Int).toNat [PyData.tuple [.str "side", .int (i : Int)]]).flatten) else none) = _
          rw [if_pos ⟨by simp, by omega, by omega, by simp⟩, rep_flat]
          unfold eS
          rw [List.map_replicate]
          rfl
        simp [b1_l_crowded, e, hr, dTup, er]
      · rcases ih (some (false, .int i)) (fun j hj => hb j (List.mem_cons_of_mem _ hj)) with ⟨z', h⟩ | ⟨j, h1, h2, h3⟩
        · refine .inl ⟨z', ?_⟩
          rw [List.map_cons]
          refine (forGo_nx rfl ?_).trans h
          simp [b1_l_crowded, e, hr]
        · refine .inr ⟨j, h1, h2, ?_⟩
          rw [List.map_cons]
          refine (forGo_nx rfl ?_).trans h3
          simp [b1_l_crowded, e, hr]
  have hs : sRng (lift1 dLen (eV 0)) [some (false, eL L), some (false, eS s), some (false, .int at_), none] = some (.ok ((List.range L.length).map fun i => PyData.int ((i : Nat) : Int))) := sRng_of (by simp) (by have := v.n8; omega)
  rcases go (List.range L.length) none (fun i hi => List.mem_range.mp hi) with ⟨z', h⟩ | ⟨i, hi, hr, h⟩
  · obtain ⟨ds, p1, p2, p3⟩ := put_spot v h0 h1 (lane_bad v) (bad_ne v (lane_bad v))
    refine ⟨.tuple ds, ?_, p3⟩
    have c1 : dSl (eS s) none (some at_) = some (.tuple (cutD (s.map Spot.d) none (some at_))) := rfl
    have c2 : dSl (eS s) (some (at_ + 1)) none = some (.tuple (cutD (s.map Spot.d) (some (at_ + 1)) none)) := rfl
    simp only [P_l_crowded, runFn, g_l_crowded, startE]
    simp [sFor_of hs, h, c1, c2, dTup, p1, p2]
  · refine ⟨eS (List.replicate s.length (.side (i : Int))), ?_, stand_room v (by simp [ll]) (fun x hx => ?_) ⟨i, hi, .inr ?_⟩⟩
    · simp only [P_l_crowded, runFn, g_l_crowded, startE]
      simp [sFor_of hs, h]
    · rw [(List.mem_replicate.mp hx).2]
      simp [inR]
      omega
    · rw [List.count_replicate_self]
      exact hr
theorem bad_stand_t {c : Int} (v : Valid L ws s) : ∃ d, P_l_bad_stand [eL L, eW ws, eS s, .int c] = some (.ok (false, d)) ∧ BadSt L ws d := by
  have hz := sizeLine_eq
  have l6 := v.w6
  have ll := v.len
  have l1 := v.w1
  have n8 := v.n8
  have n1 := v.n1
  have hn : 0 < s.length := by omega
  have a0 := Int.emod_nonneg (c / 6) (b := (s.length : Int)) (by omega)
  have a1 := Int.emod_lt_of_pos (c / 6) (b := (s.length : Int)) (by omega)
  generalize hat : c / 6 % (s.length : Int) = at_ at a0 a1
  generalize hm : c / 36 % 100000000000000000000 = more
  have m0 : 0 ≤ more := by rw [← hm]; exact Int.emod_nonneg _ (by decide)
  have i2 : iPow (.int 10) (.int 20) = some (.int 100000000000000000000) := by rfl
  have i3 : iMod (.int (c / 36)) (.int 100000000000000000000) = some (.int more) := by rw [← hm]; rfl
  have j0 := Int.emod_nonneg c (b := 6) (by decide)
  have j1 := Int.emod_lt_of_pos c (b := 6) (by decide)
  by_cases h3 : c % 6 < 3
  · have k0 := Int.emod_nonneg more (b := 20) (by decide)
    have k1 := Int.emod_lt_of_pos more (b := 20) (by decide)
    obtain ⟨d, e1, e2⟩ := get_bad (n := L.length) (m := more) (more % 20).toNat (by omega)
    rw [show ((more % 20).toNat : Int) = more % 20 by omega] at e1
    have hd := bad_spot (L := L) m0 d e2
    obtain ⟨ds, p1, p2, p3⟩ := put_spot v a0 a1 hd (bad_ne v hd)
    refine ⟨.tuple ds, ?_, p3⟩
    have c1 : dSl (eS s) none (some at_) = some (.tuple (cutD (s.map Spot.d) none (some at_))) := rfl
    have c2 : dSl (eS s) (some (at_ + 1)) none = some (.tuple (cutD (s.map Spot.d) (some (at_ + 1)) none)) := rfl
    have b1 := bad_spots_t (L := L) (m := more)
    generalize badL (L.length : Int) more = BL at *
    simp only [P_l_bad_stand, runFn, g_l_bad_stand, startE]
    simp [hn, hat, i2, i3, h3, b1, e1, c1, c2, dTup, p1, p2]
  · by_cases h4 : c % 6 = 3
    · have k0 := Int.emod_nonneg more (b := 4) (by decide)
      have k1 := Int.emod_lt_of_pos more (b := 4) (by decide)
      have q1 : dSl (eS s) (some 1) none = some (.tuple ((s.map Spot.d).drop 1)) := by
        have := cut_from (xs := s.map Spot.d) (i := 1)
        show some (PyData.tuple (cutD (s.map Spot.d) (some ((1 : Nat) : Int)) none)) = _
        rw [this]
      have q2 : iAdd (eS s) (.tuple [.tuple [.str "out"]]) = some (.tuple (s.map Spot.d ++ [.tuple [.str "out"]])) := iAdd_t (by simp; omega)
      have q3 : iAdd (eS s) (eS s) = some (.tuple (s.map Spot.d ++ s.map Spot.d)) := iAdd_t (by simp; omega)
      have b1 : BadSt L ws (.tuple ((s.map Spot.d).drop 1)) := stand_len v (by simp; omega)
      have b2 : BadSt L ws (.tuple (s.map Spot.d ++ [.tuple [.str "out"]])) := stand_len v (by simp; omega)
      have b3 : BadSt L ws (.tuple []) := stand_len v (by simp; omega)
      have b4 : BadSt L ws (.tuple (s.map Spot.d ++ s.map Spot.d)) := stand_len v (by simp; omega)
      generalize (s.map Spot.d).drop 1 = A1 at *
      generalize s.map Spot.d ++ [.tuple [.str "out"]] = A2 at *
      generalize s.map Spot.d ++ s.map Spot.d = A4 at *
      have e : P_l_bad_stand [eL L, eW ws, eS s, .int c] = (atI [.tuple A1, .tuple A2, .tuple [], .tuple A4] (more % 4)).map fun d => .ok (false, d) := by
        simp only [P_l_bad_stand, runFn, g_l_bad_stand, startE]
        simp [hn, hat, i2, i3, h4, q1, q2, q3, dTup, dLst]
        exact rtFin2 _ _
      rw [e]
      rcases (by omega : more % 4 = 0 ∨ more % 4 = 1 ∨ more % 4 = 2 ∨ more % 4 = 3) with h | h | h | h <;> rw [h]
      · exact ⟨_, rfl, b1⟩
      · exact ⟨_, rfl, b2⟩
      · exact ⟨_, rfl, b3⟩
      · exact ⟨_, rfl, b4⟩
    · by_cases h5 : c % 6 = 4
      · have k0 := Int.emod_nonneg more (b := 5) (by decide)
        have k1 := Int.emod_lt_of_pos more (b := 5) (by decide)
        have q1 : dLst1 (eS s) = some (.list (s.map Spot.d)) := by
          show (if (s.map Spot.d).length ≤ sizeLine then some (PyData.list (s.map Spot.d)) else none) = _
          rw [if_pos (by rw [List.length_map]; omega)]
        have e : P_l_bad_stand [eL L, eW ws, eS s, .int c] = (atI [.list (s.map Spot.d), .none, .str "out", .int 5, dkD [] []] (more % 5)).map fun d => .ok (false, d) := by
          simp only [P_l_bad_stand, runFn, g_l_bad_stand, startE]
          simp [hn, hat, i2, i3, h5, q1, dLst]
          exact rtFin2 _ _
        rw [e]
        rcases (by omega : more % 5 = 0 ∨ more % 5 = 1 ∨ more % 5 = 2 ∨ more % 5 = 3 ∨ more % 5 = 4) with h | h | h | h | h <;> rw [h] <;> exact ⟨_, rfl, stand_kind v rfl⟩
      · by_cases h6 : (1 < s.length) ∧ more % 2 = 0
        · have q0 := Int.emod_nonneg (more / 2) (b := (L.length : Int)) (by omega)
          have q1 := Int.emod_lt_of_pos (more / 2) (b := (L.length : Int)) (by omega)
          obtain ⟨q, hq⟩ : ∃ q : Nat, more / 2 % (L.length : Int) = q := ⟨(more / 2 % (L.length : Int)).toNat, by omega⟩
          have hql : q < L.length := by omega
          have c1 : dSl (eS s) (some 1) (some (-1)) = some (.tuple (((s.drop 1).take (s.length - 2)).map Spot.d)) := by
            show some (PyData.tuple (cutD (s.map Spot.d) (some 1) (some (-1)))) = _
            unfold cutD
            have e1 : HT.sIx (s.map Spot.d).length 0 (some 1) = 1 := by unfold HT.sIx; simp; omega
            have e2 : HT.sIx (s.map Spot.d).length (s.map Spot.d).length (some (-1)) = s.length - 1 := by unfold HT.sIx; simp; omega
            rw [e1, e2, List.map_take, List.map_drop]
            rfl
          have lm : ((s.drop 1).take (s.length - 2)).length = s.length - 2 := by rw [List.length_take, List.length_drop]; omega
          have mm : ∀ x ∈ (s.drop 1).take (s.length - 2), x ∈ s := fun x hx => List.mem_of_mem_drop (List.mem_of_mem_take hx)
          generalize (s.drop 1).take (s.length - 2) = mid at c1 lm mm
          have p1 : iAdd (.tuple [.tuple [.str "lane", .int (q : Int)]]) (.tuple (mid.map Spot.d)) = some (.tuple ([.tuple [.str "lane", .int (q : Int)]] ++ mid.map Spot.d)) := iAdd_t (by simp; omega)
          have p2 : iAdd (.tuple ([.tuple [.str "lane", .int (q : Int)]] ++ mid.map Spot.d)) (.tuple [.tuple [.str "lane", .int (q : Int)]]) = some (eS (.lane (q : Int) :: (mid ++ [.lane (q : Int)]))) := by
            rw [iAdd_t (by simp; omega)]
            simp [eS, Spot.d]
          refine ⟨eS (.lane (q : Int) :: (mid ++ [.lane (q : Int)])), ?_, stand_room v (by simp; omega) (fun x hx => ?_) ⟨q, hql, .inl ?_⟩⟩
          · have h61 : (1 : Int) < (s.length : Int) := by have := h6.1; omega
            have h62 := h6.2
            simp only [P_l_bad_stand, runFn, g_l_bad_stand, startE]
            simp [hn, hat, i2, i3, h3, h4, h5, h61, h62, n1, hq, c1, dTup]
            simp only [List.cons_append, List.nil_append] at p1 p2
            have nL : 0 < L.length := n1
            simp [nL, hq, c1, h61, p1, p2]
          · rcases List.mem_cons.mp hx with rfl | hx
            · simp [inR]; omega
            · rcases List.mem_append.mp hx with hx | hx
              · exact v.inr x (mm x hx)
              · rw [List.mem_singleton.mp hx]; simp [inR]; omega
          · rw [List.count_cons_self, List.count_append, List.count_singleton_self]
            omega
        · obtain ⟨d, e1, e2⟩ := crowded_t v a0 a1
          refine ⟨d, ?_, e2⟩
          simp only [P_l_bad_stand, runFn, g_l_bad_stand, startE]
          by_cases h61 : (1 : Int) < (s.length : Int)
          · have h62 : ¬ more % 2 = 0 := fun z => h6 ⟨by omega, z⟩
            simp [hn, hat, i2, i3, h3, h4, h5, h61, h62, e1]
          · simp [hn, hat, i2, i3, h3, h4, h5, h61, e1]
end
theorem try_xc {n i : Nat} {g : Sf} {gs : Xc → Sf} {env : DS.Env} {c : Xc} {b : Bool} {d : PyData} (h : g (env.map dropO) = some (.xc c)) (hk : gs c (exEnv n i) = some (.rt b d)) (hp : plainR b d = true) : sTry n i g gs env = some (.rt b d) := by
  unfold sTry
  rw [h]
  simp only [hk, hp, if_true]
theorem try_nx {n i : Nat} {g : Sf} {gs : Xc → Sf} {env e : DS.Env} (h : g (env.map dropO) = some (.nx e)) : sTry n i g gs env = some (.nx e) := by
  unfold sTry
  rw [h]
theorem callIx_of {Φs : List Fn} {f : Ef} {r : Afn} {env : DS.Env} {i : Nat} {Φ : Fn} {ds : List PyData} (hf : f env = some (.ok (.int (i : Int)))) (hΦ : Φs[i]? = some Φ) (hr : r env = some (.ok ds)) : sCallIx Φs f r env = (match Φ ds with | some (.ok _) => some (.nx env) | some (.error c) => some (.xc c) | none => none) := by
  unfold sCallIx
  rw [hf]
  simp only [Int.natCast_nonneg, if_true, Int.toNat_natCast, hΦ, hr]
  all_goals (rcases Φ ds with _ | (_ | _) <;> rfl)
theorem plain_kind {c : Xc} : plainR true (.list (kindD c)) = true := by cases c <;> rfl
def envA (w : Int) (a b c : PyData) : DS.Env := [some (false, .int w), some (false, a), some (false, b), some (false, c), none]
theorem asked_of {w : Int} {a b c : PyData} {k : Xc} (h : t1_l_asked (envA w a b c) = some (.xc k)) : P_l_asked [.int w, a, b, c] = some (.ok (true, .list (kindD k))) := by
  have e : sTry 5 4 t1_l_asked k2_l_asked (envA w a b c) = some (.rt true (.list (kindD k))) := try_xc h (by rfl) plain_kind
  simp only [P_l_asked, runFn, g_l_asked, startE]
  unfold envA at e
  simp [e]
theorem asked_ok {w : Int} {a b c : PyData} (h : t1_l_asked (envA w a b c) = some (.nx (envA w a b c))) : P_l_asked [.int w, a, b, c] = some (.ok (true, .list [])) := by
  have e : sTry 5 4 t1_l_asked k2_l_asked (envA w a b c) = some (.nx (envA w a b c)) := try_nx h
  simp only [P_l_asked, runFn, g_l_asked, startE]
  unfold envA at e
  simp [e, dLst]
theorem asked_err {w : Int} {a b c : PyData} {k : Xc} (h0 : 0 ≤ w) (h8 : w ≤ 8) (h : P_need_stand [a, b, c] = some (.error k)) : P_l_asked [.int w, a, b, c] = some (.ok (true, .list (kindD k))) := by
  have f1 : P_left_to_go [a, b, c] = some (.error k) := by simp [P_left_to_go, runFn, g_left_to_go, startE, h]
  have f2 : P_allowed [a, b, c] = some (.error k) := by simp [P_allowed, runFn, g_allowed, startE, h]
  have f3 : P_reached [a, b, c] = some (.error k) := by simp [P_reached, runFn, g_reached, startE, h]
  have f4 : P_prices [a, b, c] = some (.error k) := by simp [P_prices, runFn, g_prices, startE, h]
  have f5 : P_least_row [a, b, c] = some (.error k) := by simp [P_least_row, runFn, g_least_row, startE, h]
  have f6 : P_closed [a, b, c] = some (.error k) := by simp [P_closed, runFn, g_closed, startE, h]
  have f7 : P_behind [a, b, c, .none] = some (.error k) := by simp [P_behind, runFn, g_behind, startE, h]
  have f8 : sYard P_need_stand (aC (eV 1) (aC (eV 2) (aC (eV 3) aN))) (envA w a b c) = some (.xc k) := by
    have hr : (aC (eV 1) (aC (eV 2) (aC (eV 3) aN))) (envA w a b c) = some (.ok [a, b, c]) := rfl
    unfold sYard
    rw [hr]
    split
    · rename_i xs ys sd e
      cases e
      rw [h]
    · rename_i ld wd sd _ e
      cases e
      rw [h]
    · rename_i _ n
      exact (n _ _ _ rfl).elim
  refine asked_of ?_
  have ix : ∀ (Φs : List Fn) (f : Ef) (j : Nat) (Φ : Fn), f (envA w a b c) = some (.ok (.int (j : Int))) → Φs[j]? = some Φ → Φ [a, b, c] = some (.error k) → sCallIx Φs f (aC (eV 1) (aC (eV 2) (aC (eV 3) aN))) (envA w a b c) = some (.xc k) := fun Φs f j Φ h1 h2 h3 => by
    rw [callIx_of (i := j) (Φ := Φ) (ds := [a, b, c]) h1 h2 rfl, h3]
  unfold t1_l_asked
  by_cases h5 : w < 5
  · have c1 : sCallIx [P_need_stand, P_left_to_go, P_allowed, P_reached, P_prices] (eV 0) (aC (eV 1) (aC (eV 2) (aC (eV 3) aN))) (envA w a b c) = some (.xc k) := by
      rcases (by omega : w = 0 ∨ w = 1 ∨ w = 2 ∨ w = 3 ∨ w = 4) with rfl | rfl | rfl | rfl | rfl
      · exact ix _ _ 0 _ rfl rfl h
      · exact ix _ _ 1 _ rfl rfl f1
      · exact ix _ _ 2 _ rfl rfl f2
      · exact ix _ _ 3 _ rfl rfl f3
      · exact ix _ _ 4 _ rfl rfl f4
    have e0 : (eV 0) (envA w a b c) = some (.ok (.int w)) := rfl
    rw [sIf_s, lift2_s, e0]
    simp [h5, c1]
  · by_cases h7 : w < 7
    · have c1 : sCallIx [P_least_row, P_closed] (lift2 iSub (eV 0) (eC (.int 5))) (aC (eV 1) (aC (eV 2) (aC (eV 3) aN))) (envA w a b c) = some (.xc k) := by
        rcases (by omega : w = 5 ∨ w = 6) with rfl | rfl
        · exact ix _ _ 0 _ rfl rfl f5
        · exact ix _ _ 1 _ rfl rfl f6
      have e0 : (eV 0) (envA w a b c) = some (.ok (.int w)) := rfl
      rw [sIf_s, lift2_s, e0]
      simp only [eC_s, bindR_ok, dLt_i, Option.map_some, bindS_ok, h5, decide_false, orS_b, Bool.false_eq_true, if_false]
      rw [sIf_s, lift2_s, e0]
      simp [h7, c1]
    · have e0 : (eV 0) (envA w a b c) = some (.ok (.int w)) := rfl
      rw [sIf_s, lift2_s, e0]
      simp only [eC_s, bindR_ok, dLt_i, Option.map_some, bindS_ok, h5, decide_false, orS_b, Bool.false_eq_true, if_false]
      rw [sIf_s, lift2_s, e0]
      simp only [eC_s, bindR_ok, dLt_i, Option.map_some, bindS_ok, h7, decide_false, orS_b, Bool.false_eq_true, if_false]
      rw [sIf_s, lift2_s, e0]
      by_cases h77 : w = 7
      · simp [h77] at f8 ⊢
        exact f8
      · simp [h77]
        unfold envA
        simp [f7]
theorem asked_good {L : List Int} {ws : List Bool} {s : Stand} {w : Int} (v : Valid L ws s) (sm : Small L.length ws.length) (h0 : 0 ≤ w) (h8 : w ≤ 8) : P_l_asked [.int w, eL L, eW ws, eS s] = some (.ok (true, .list (if w = 8 then kindD .move else []))) := by
  have h := need_stand_t v
  have f1 := left_to_go_t v
  have f2 := allowed_t v
  have f3 := reached_t v sm
  have f4 := prices_t v sm
  have f5 := least_row_t v sm
  have f6 := closed_t v sm
  have f7 := behind_bad v (BadMv.kind (L := L) (ws := ws) (s := s) (d := .none) rfl)
  have e0 : (eV 0) (envA w (eL L) (eW ws) (eS s)) = some (.ok (.int w)) := rfl
  have ix : ∀ (Φs : List Fn) (f : Ef) (j : Nat) (Φ : Fn) (r : Bool × PyData), f (envA w (eL L) (eW ws) (eS s)) = some (.ok (.int (j : Int))) → Φs[j]? = some Φ → Φ [eL L, eW ws, eS s] = some (.ok r) → sCallIx Φs f (aC (eV 1) (aC (eV 2) (aC (eV 3) aN))) (envA w (eL L) (eW ws) (eS s)) = some (.nx (envA w (eL L) (eW ws) (eS s))) := fun Φs f j Φ r h1 h2 h3 => by
    rw [callIx_of (i := j) (Φ := Φ) (ds := [eL L, eW ws, eS s]) h1 h2 rfl, h3]
  by_cases hw : w = 8
  · rw [if_pos hw]
    refine asked_of ?_
    subst hw
    unfold t1_l_asked
    rw [sIf_s, lift2_s, e0]
    simp only [eC_s, bindR_ok, dLt_i, Option.map_some, bindS_ok, show ¬ (8 : Int) < 5 by decide, decide_false, orS_b, Bool.false_eq_true, if_false]
    rw [sIf_s, lift2_s, e0]
    simp only [eC_s, bindR_ok, dLt_i, Option.map_some, bindS_ok, show ¬ (8 : Int) < 7 by decide, decide_false, orS_b, Bool.false_eq_true, if_false]
    rw [sIf_s, lift2_s, e0]
    simp
    unfold envA
    simp [f7]
  · rw [if_neg hw]
    refine asked_ok ?_
    unfold t1_l_asked
    by_cases h5 : w < 5
    · have c1 : sCallIx [P_need_stand, P_left_to_go, P_allowed, P_reached, P_prices] (eV 0) (aC (eV 1) (aC (eV 2) (aC (eV 3) aN))) (envA w (eL L) (eW ws) (eS s)) = some (.nx (envA w (eL L) (eW ws) (eS s))) := by
        rcases (by omega : w = 0 ∨ w = 1 ∨ w = 2 ∨ w = 3 ∨ w = 4) with rfl | rfl | rfl | rfl | rfl
        · exact ix _ _ 0 _ _ rfl rfl h
        · exact ix _ _ 1 _ _ rfl rfl f1
        · exact ix _ _ 2 _ _ rfl rfl f2
        · exact ix _ _ 3 _ _ rfl rfl f3
        · exact ix _ _ 4 _ _ rfl rfl f4
      rw [sIf_s, lift2_s, e0]
      simp [h5, c1]
    · by_cases h7 : w < 7
      · have c1 : sCallIx [P_least_row, P_closed] (lift2 iSub (eV 0) (eC (.int 5))) (aC (eV 1) (aC (eV 2) (aC (eV 3) aN))) (envA w (eL L) (eW ws) (eS s)) = some (.nx (envA w (eL L) (eW ws) (eS s))) := by
          rcases (by omega : w = 5 ∨ w = 6) with rfl | rfl
          · exact ix _ _ 0 _ _ rfl rfl f5
          · exact ix _ _ 1 _ _ rfl rfl f6
        rw [sIf_s, lift2_s, e0]
        simp only [eC_s, bindR_ok, dLt_i, Option.map_some, bindS_ok, h5, decide_false, orS_b, Bool.false_eq_true, if_false]
        rw [sIf_s, lift2_s, e0]
        simp [h7, c1]
      · have hw7 : w = 7 := by omega
        subst hw7
        have f8 : sYard P_need_stand (aC (eV 1) (aC (eV 2) (aC (eV 3) aN))) (envA 7 (eL L) (eW ws) (eS s)) = some (.nx (envA 7 (eL L) (eW ws) (eS s))) := by
          have hr : (aC (eV 1) (aC (eV 2) (aC (eV 3) aN))) (envA 7 (eL L) (eW ws) (eS s)) = some (.ok [eL L, eW ws, eS s]) := rfl
          have hh : P_need_stand [.list (L.map .int), .list (ws.map wD), eS s] = some (.ok (false, .bool true)) := h
          unfold sYard
          rw [hr]
          simp only [eL, eW, hh]
        rw [sIf_s, lift2_s, e0]
        simp only [eC_s, bindR_ok, dLt_i, Option.map_some, bindS_ok, show ¬ (7 : Int) < 5 by decide, decide_false, orS_b, Bool.false_eq_true, if_false]
        rw [sIf_s, lift2_s, e0]
        simp only [eC_s, bindR_ok, dLt_i, Option.map_some, bindS_ok, show ¬ (7 : Int) < 7 by decide, decide_false, orS_b, Bool.false_eq_true, if_false]
        rw [sIf_s, lift2_s, e0]
        simp
        exact f8
def envB (w : Int) (a : PyData) : DS.Env := [some (false, .int w), some (false, a), none]
theorem alone_of {w : Int} {a : PyData} {k : Xc} (h : t1_l_alone (envB w a) = some (.xc k)) : P_l_alone [.int w, a] = some (.ok (true, .list (kindD k))) := by
  have e : sTry 3 2 t1_l_alone k2_l_alone (envB w a) = some (.rt true (.list (kindD k))) := try_xc h (by rfl) plain_kind
  simp only [P_l_alone, runFn, g_l_alone, startE]
  unfold envB at e
  simp [e]
theorem alone_ok {w : Int} {a : PyData} (h : t1_l_alone (envB w a) = some (.nx (envB w a))) : P_l_alone [.int w, a] = some (.ok (true, .list [])) := by
  have e : sTry 3 2 t1_l_alone k2_l_alone (envB w a) = some (.nx (envB w a)) := try_nx h
  simp only [P_l_alone, runFn, g_l_alone, startE]
  unfold envB at e
  simp [e, dLst]
theorem eB0 {w : Int} {a : PyData} : (eV 0) (envB w a) = some (.ok (.int w)) := rfl
theorem eB1 {w : Int} {a : PyData} : (aC (eV 1) aN) (envB w a) = some (.ok [a]) := rfl
theorem t4_alone {a : PyData} : t1_l_alone (envB 4 a) = (match P_turned_stand [a, .tuple [.tuple [.str "lane", .int 0]]] with | some (.ok (false, _)) => some (.nx (envB 4 a)) | some (.error c) => some (.xc c) | _ => none) := by
  unfold t1_l_alone
  rw [sIf_s, lift2_s, eB0]
  simp only [eC_s, bindR_ok, dEq_i, Bool.false_eq_true, if_false, Option.map_some, bindS_ok, decide_true, orS_b, if_true]
  unfold envB
  simp [dTup]
  cases P_turned_stand [a, .tuple [.tuple [.str "lane", .int 0]]] with
  | none => rfl
  | some x =>
    cases x with
    | error c => rfl
    | ok bd =>
      obtain ⟨b, d⟩ := bd
      cases b <;> rfl
theorem tl_alone {a : PyData} {j : Nat} {Φ : Fn} (hj : j < 2) (hΦ : [P_need_lane, P_turned_lane][j]? = some Φ) : t1_l_alone (envB (j : Int) a) = (match Φ [a] with | some (.ok _) => some (.nx (envB (j : Int) a)) | some (.error c) => some (.xc c) | none => none) := by
  have c := callIx_of (Φs := [P_need_lane, P_turned_lane]) (f := eV 0) (r := aC (eV 1) aN) (env := envB (j : Int) a) (i := j) (Φ := Φ) (ds := [a]) eB0 hΦ eB1
  unfold t1_l_alone
  rw [sIf_s, lift2_s, eB0]
  simp only [eC_s, bindR_ok, dEq_i, Bool.false_eq_true, if_false, Option.map_some, bindS_ok, show ¬ ((j : Int) = 4) by omega, decide_false, orS_b]
  rw [sIf_s, lift2_s, eB0]
  simp only [eC_s, bindR_ok, dLt_i, Option.map_some, bindS_ok, show ((j : Int) < 2) by omega, decide_true, orS_b, if_true]
  rw [c]
theorem tw_alone {a : PyData} {j : Nat} {Φ : Fn} (hj : j < 2) (hΦ : [P_need_ways, P_turned_ways][j]? = some Φ) : t1_l_alone (envB (2 + (j : Int)) a) = (match Φ [a] with | some (.ok _) => some (.nx (envB (2 + (j : Int)) a)) | some (.error c) => some (.xc c) | none => none) := by
  have ei : (lift2 iSub (eV 0) (eC (.int 2))) (envB (2 + (j : Int)) a) = some (.ok (.int (j : Int))) := by
    rw [lift2_s, eB0]
    simp only [eC_s, bindR_ok, iSub_i, Option.map_some]
    rw [show 2 + (j : Int) - 2 = j by omega]
  have c := callIx_of (Φs := [P_need_ways, P_turned_ways]) (f := lift2 iSub (eV 0) (eC (.int 2))) (r := aC (eV 1) aN) (env := envB (2 + (j : Int)) a) (i := j) (Φ := Φ) (ds := [a]) ei hΦ eB1
  unfold t1_l_alone
  rw [sIf_s, lift2_s, eB0]
  simp only [eC_s, bindR_ok, dEq_i, Bool.false_eq_true, if_false, Option.map_some, bindS_ok, show ¬ (2 + (j : Int) = 4) by omega, decide_false, orS_b]
  rw [sIf_s, lift2_s, eB0]
  simp only [eC_s, bindR_ok, dLt_i, Option.map_some, bindS_ok, show ¬ (2 + (j : Int) < 2) by omega, decide_false, orS_b, Bool.false_eq_true, if_false]
  rw [c]
/-- what the askings of a lane, of ways tell -/
def kindO : Option Xc → List PyData
  | none => []
  | some c => kindD c
structure LaneX (d : PyData) (o : Option Xc) : Prop where
  a0 : P_l_alone [.int 0, d] = some (.ok (true, .list (kindO o)))
  a1 : P_l_alone [.int 1, d] = some (.ok (true, .list (kindO o)))
  a4 : P_l_alone [.int 4, d] = some (.ok (true, .list (kindO o)))
  cp : ∃ b, dIs .list d = some (.bool b) ∧ (b = true → dLst1 d = some d)
  same : sameD d d = true
structure WaysX (d : PyData) (o : Option Xc) : Prop where
  a2 : P_l_alone [.int 2, d] = some (.ok (true, .list (kindO o)))
  a3 : P_l_alone [.int 3, d] = some (.ok (true, .list (kindO o)))
  cp : ∃ b, dIs .list d = some (.bool b) ∧ (b = true → dLst1 d = some d)
  same : sameD d d = true
theorem lane_x_bad {d : PyData} (h : BadX P_need_lane .lane d) : LaneX d (some .lane) := by
  have h1 : P_turned_lane [d] = some (.error .lane) := by simp [P_turned_lane, runFn, g_turned_lane, startE, h.err]
  have h4 : P_turned_stand [d, .tuple [.tuple [.str "lane", .int 0]]] = some (.error .lane) := by simp [P_turned_stand, runFn, g_turned_stand, startE, h.err]
  refine ⟨alone_of ?_, alone_of ?_, alone_of ?_, h.cp, h.same⟩
  · have := tl_alone (a := d) (j := 0) (by omega) rfl
    rw [h.err] at this
    exact this
  · have := tl_alone (a := d) (j := 1) (by omega) rfl
    rw [h1] at this
    exact this
  · rw [t4_alone, h4]
theorem ways_x_bad {d : PyData} (h : BadX P_need_ways .ways d) : WaysX d (some .ways) := by
  have h1 : P_turned_ways [d] = some (.error .ways) := by simp [P_turned_ways, runFn, g_turned_ways, startE, h.err]
  refine ⟨alone_of ?_, alone_of ?_, h.cp, h.same⟩
  · have := tw_alone (a := d) (j := 0) (by omega) rfl
    rw [h.err] at this
    exact this
  · have := tw_alone (a := d) (j := 1) (by omega) rfl
    rw [h1] at this
    exact this
theorem lane_x_good {L : List Int} {ws : List Bool} {s : Stand} (v : Valid L ws s) : LaneX (eL L) none := by
  have h0 := need_lane_t v.n1 v.n8 v.rm
  have e2 : dRevL (eL L) = some (.list (L.map PyData.int).reverse) := rfl
  have h1 : P_turned_lane [eL L] = some (.ok (true, .list (L.map PyData.int).reverse)) := by
    simp only [P_turned_lane, runFn, g_turned_lane, startE]
    simp [h0, e2]
  have t1 : P_turned_spot [eL L, .tuple [.str "lane", .int 0]] = some (.ok (false, .tuple [.str "lane", .int ((L.length : Int) - 1 - 0)])) := by
    simp only [P_turned_spot, runFn, g_turned_spot, startE]
    simp [dTup]
  have e3 : c1_turned_stand [some (false, eL L), some (false, .tuple [.tuple [.str "lane", .int 0]]), none] = some (.ok (.list [.tuple [.str "lane", .int ((L.length : Int) - 1 - 0)]])) := by
    refine eLC_of (ds := [.tuple [.str "lane", .int 0]]) (sTup_of rfl (by rw [sizeLine_eq]; decide)) ?_
    have := lcGo_all (st := lcStep (bName 2) tYesE (eCall P_turned_spot false (aC (eV 0) (aC (eV 2) aN))) (wipeE [some (false, eL L), some (false, .tuple [.tuple [.str "lane", .int 0]]), none] [2])) (k := fun _ => .tuple [.str "lane", .int ((L.length : Int) - 1 - 0)]) (ds := [.tuple [.str "lane", .int 0]]) (fun d hd => by
      rw [List.mem_singleton.mp hd]
      refine step_yes rfl ?_
      simp [t1])
    exact this
  have h4 : P_turned_stand [eL L, .tuple [.tuple [.str "lane", .int 0]]] = some (.ok (false, .tuple [.tuple [.str "lane", .int ((L.length : Int) - 1 - 0)]])) := by
    have e4 : dTup1 (.list [.tuple [.str "lane", .int ((L.length : Int) - 1 - 0)]]) = some (.tuple [.tuple [.str "lane", .int ((L.length : Int) - 1 - 0)]]) := rfl
    simp only [P_turned_stand, runFn, g_turned_stand, startE]
    simp only [sSeq_s, sDrop_s, eCall_s, sRet_s, lift1_s]
    simp [h0, e3, e4]
  refine ⟨alone_ok ?_, alone_ok ?_, alone_ok ?_, ⟨true, rfl, fun _ => rfl⟩, same_of (sh_lst L)⟩
  · have := tl_alone (a := eL L) (j := 0) (by omega) rfl
    rw [h0] at this
    exact this
  · have := tl_alone (a := eL L) (j := 1) (by omega) rfl
    rw [h1] at this
    exact this
  · rw [t4_alone, h4]
theorem ways_x_good {L : List Int} {ws : List Bool} {s : Stand} (v : Valid L ws s) : WaysX (eW ws) none := by
  have h0 := need_ways_t v.w1 v.w6
  have h1 : P_turned_ways [eW ws] = some (.ok (true, .list (ws.map fun b => wD (!b)))) := by
    have e2 : c1_turned_ways [some (false, eW ws), none] = some (.ok (.list (ws.map fun b => wD (!b)))) := by
      refine eLC_of (ds := ws.map wD) (sLst_of rfl) (lcGo_map fun b hb => step_yes rfl ?_)
      cases b <;> simp [wD]
    simp only [P_turned_ways, runFn, g_turned_ways, startE]
    simp [h0, e2]
  have fl : ∀ d ∈ ws.map wD, Flat d := fun d hd => by obtain ⟨i, _, rfl⟩ := List.mem_map.mp hd; exact flat_wD i
  refine ⟨alone_ok ?_, alone_ok ?_, ⟨true, rfl, fun _ => rfl⟩, same_of (flat_lst fl)⟩
  · have := tw_alone (a := eW ws) (j := 0) (by omega) rfl
    rw [h0] at this
    exact this
  · have := tw_alone (a := eW ws) (j := 1) (by omega) rfl
    rw [h1] at this
    exact this
theorem kindO_shaped (o : Option Xc) : SeqAt.shaped (.list (kindO o)) = true := by
  cases o with
  | none => decide +kernel
  | some c => cases c <;> decide +kernel
theorem dEq_kind {n : Bool} (o o' : Option Xc) : dEq n (.list (kindO o)) (.list (kindO o')) = some (.bool (if n then !decide (o = o') else decide (o = o'))) := by
  unfold dEq
  rw [kindO_shaped o, kindO_shaped o', Bool.and_self, if_pos rfl]
  have : PyData.eqv (.list (kindO o)) (.list (kindO o')) = decide (o = o') := by
    cases o with
    | none =>
      cases o' with
      | none => decide +kernel
      | some c => cases c <;> decide +kernel
    | some c =>
      cases o' with
      | none => cases c <;> decide +kernel
      | some c' => cases c <;> cases c' <;> decide +kernel
  rw [this]
def env01 (ns : List Int) (c : Int) (due nw han way last turn at_ spot ld wd sd : Option (Bool × PyData)) : DS.Env := [some (false, scrD ns), some (false, .int c), due, nw, han, way, last, turn, at_, spot, ld, wd, sd]
abbrev F (d : PyData) : Option (Bool × PyData) := some (false, d)
abbrev KO (o : Option Xc) : Option (Bool × PyData) := some (false, .list (kindO o))
section
variable {ns : List Int} {L : List Int} {ws : List Bool} {s : Stand} {c : Int}
theorem cellF {i : Int} (h : 0 ≤ i) : P_l_cell_at [scrD ns, .int i] = some (.ok (false, .int (cell ns i.toNat))) := cell_at_t' h
theorem st1_t (v : Valid L ws s) : ∃ sd o, ((o = some .stand ∧ BadSt L ws sd) ∨ (o = none ∧ sd = eS s)) ∧
    (sIf (lift2 (dEq false) (lift2 iMod (lift2 iDiv (eV 1) (eC (.int 3))) (eC (.int 3))) (eC (.int 1))) (sSeq (sAsg (bName 12) (eCall P_l_bad_stand false (aC (eV 10) (aC (eV 11) (aC (eV 12) (aC (eCall P_l_cell_at false (aC (eV 0) (aC (eC (.int 17)) aN))) aN)))))) (sAsg (bName 2) (liftA dLst (aC (eC (.str "stand")) (aC (eC (.str "value")) aN))))) sNx)
      (env01 ns c (KO none) none none none none none none none (F (eL L)) (F (eW ws)) (F (eS s))) = some (.nx (env01 ns c (KO o) none none none none none none none (F (eL L)) (F (eW ws)) (F sd))) := by
  obtain ⟨d, e1, e2⟩ := bad_stand_t (c := cell ns 17) v
  have e3 := cellF (ns := ns) (i := 17) (by decide)
  have e3' : P_l_cell_at [scrD ns, .int 17] = some (.ok (false, .int (cell ns 17))) := e3
  by_cases h : c / 3 % 3 = 1
  · refine ⟨d, some .stand, .inl ⟨rfl, e2⟩, ?_⟩
    unfold env01
    simp [h, e3', e1, dLst]
    rfl
  · refine ⟨eS s, none, .inr ⟨rfl, rfl⟩, ?_⟩
    unfold env01
    simp [h]
theorem st2_t (v : Valid L ws s) {sd : PyData} {o : Option Xc} : ∃ wd o', ((o' = some .ways ∧ BadX P_need_ways .ways wd) ∨ (o' = o ∧ wd = eW ws)) ∧
    (sIf (lift2 (dEq false) (lift2 iMod (lift2 iDiv (eV 1) (eC (.int 9))) (eC (.int 3))) (eC (.int 1))) (sSeq (sAsg (bName 11) (eCall P_l_bad_ways false (aC (eV 11) (aC (eCall P_l_cell_at false (aC (eV 0) (aC (eC (.int 18)) aN))) aN)))) (sAsg (bName 2) (liftA dLst (aC (eC (.str "ways")) (aC (eC (.str "value")) aN))))) sNx)
      (env01 ns c (KO o) none none none none none none none (F (eL L)) (F (eW ws)) (F sd)) = some (.nx (env01 ns c (KO o') none none none none none none none (F (eL L)) (F wd) (F sd))) := by
  obtain ⟨d, e1, e2⟩ := bad_ways_t (c := cell ns 18) v.w1 v.w6
  have e3' : P_l_cell_at [scrD ns, .int 18] = some (.ok (false, .int (cell ns 18))) := cellF (ns := ns) (i := 18) (by decide)
  by_cases h : c / 9 % 3 = 1
  · refine ⟨d, some .ways, .inl ⟨rfl, e2⟩, ?_⟩
    unfold env01
    simp [h, e3', e1, dLst]
    rfl
  · refine ⟨eW ws, o, .inr ⟨rfl, rfl⟩, ?_⟩
    unfold env01
    simp [h]
theorem st3_t (v : Valid L ws s) {sd wd : PyData} {o : Option Xc} {nw : Option (Bool × PyData)} : ∃ ld o', ((o' = some .lane ∧ BadX P_need_lane .lane ld) ∨ (o' = o ∧ ld = eL L)) ∧
    (sIf (lift2 (dEq false) (lift2 iMod (lift2 iDiv (eV 1) (eC (.int 27))) (eC (.int 3))) (eC (.int 1))) (sSeq (sAsg (bName 10) (eCall P_l_bad_lane false (aC (eV 10) (aC (eCall P_l_cell_at false (aC (eV 0) (aC (eC (.int 19)) aN))) aN)))) (sAsg (bName 2) (liftA dLst (aC (eC (.str "lane")) (aC (eC (.str "value")) aN))))) sNx)
      (env01 ns c (KO o) nw none none none none none none (F (eL L)) (F wd) (F sd)) = some (.nx (env01 ns c (KO o') nw none none none none none none (F ld) (F wd) (F sd))) := by
  obtain ⟨d, e1, e2⟩ := bad_lane_t (c := cell ns 19) v.n1 v.n8
  have e3' : P_l_cell_at [scrD ns, .int 19] = some (.ok (false, .int (cell ns 19))) := cellF (ns := ns) (i := 19) (by decide)
  by_cases h : c / 27 % 3 = 1
  · refine ⟨d, some .lane, .inl ⟨rfl, e2⟩, ?_⟩
    unfold env01
    simp [h, e3', e1, dLst]
    rfl
  · refine ⟨eL L, o, .inr ⟨rfl, rfl⟩, ?_⟩
    unfold env01
    simp [h]
theorem need_err1 {ld wd sd : PyData} (h : P_need_lane [ld] = some (.error .lane)) : P_need_stand [ld, wd, sd] = some (.error .lane) := by
  simp [P_need_stand, runFn, g_need_stand, startE, h]
theorem need_err2 {wd sd : PyData} (v : Valid L ws s) (h : P_need_ways [wd] = some (.error .ways)) : P_need_stand [eL L, wd, sd] = some (.error .ways) := by
  have := need_lane_t v.n1 v.n8 v.rm
  simp [P_need_stand, runFn, g_need_stand, startE, h, this]
/-- the copy of what is handed in -/
theorem copy_t {d : PyData} {env : DS.Env} {i : Nat} (he : env[i]? = some (some (false, d))) (cp : ∃ b, dIs .list d = some (.bool b) ∧ (b = true → dLst1 d = some d)) : (fIf (lift1 (dIs .list) (eV i)) (lift1 dLst1 (eV i)) (eV i)) env = some (.ok d) := by
  obtain ⟨b, h1, h2⟩ := cp
  cases b with
  | true => simp [he, h1, h2 rfl]
  | false => simp [he, h1]
end
theorem law01_t {ns : List Int} : P_law01 [scrD ns] = some (.ok (false, .bool true)) := by
  obtain ⟨L, ws, s, v, sm, e0⟩ := built_t (ns := ns)
  have hz := sizeLine_eq
  generalize hc : cell ns 16 = c
  have c16 : P_l_cell_at [scrD ns, .int 16] = some (.ok (false, .int c)) := by rw [← hc]; exact cellF (ns := ns) (i := 16) (by decide)
  obtain ⟨sd, o1, k1, s1⟩ := st1_t (ns := ns) (c := c) v
  obtain ⟨wd, o2, k2, s2⟩ := st2_t (ns := ns) (c := c) (sd := sd) (o := o1) v
  obtain ⟨ld, o3, k3, s3⟩ := st3_t (ns := ns) (c := c) (sd := sd) (wd := wd) (o := o2) (nw := some (false, .bool (decide (o2 = some .ways)))) v
  have o1' : o1 = some .stand ∨ o1 = none := k1.elim (fun h => .inl h.1) fun h => .inr h.1
  have wx : WaysX wd (if o2 = some .ways then some .ways else none) := by
    rcases k2 with ⟨h2, h⟩ | ⟨h2, rfl⟩
    · rw [if_pos h2]
      exact ways_x_bad h
    · have : o2 ≠ some Xc.ways := by rw [h2]; rcases o1' with h | h <;> (rw [h]; simp)
      rw [if_neg this]
      exact ways_x_good v
  have lx : LaneX ld (if o3 = some .lane then some .lane else none) := by
    rcases k3 with ⟨h3, h⟩ | ⟨h3, rfl⟩
    · rw [if_pos h3]
      exact lane_x_bad h
    · have : o3 ≠ some Xc.lane := by
        rw [h3]
        rcases k2 with ⟨h2, _⟩ | ⟨h2, _⟩
        · rw [h2]; simp
        · rw [h2]; rcases o1' with h | h <;> (rw [h]; simp)
      rw [if_neg this]
      exact lane_x_good v
  have w0 := Int.emod_nonneg (c / 81) (b := 9) (by decide)
  have w1 := Int.emod_lt_of_pos (c / 81) (b := 9) (by decide)
  generalize hw : c / 81 % 9 = w at w0 w1
  -- what all askings tell
  have asked : P_l_asked [.int w, ld, wd, sd] = some (.ok (true, .list (kindO (if o3 = none ∧ w = 8 then some .move else o3)))) := by
    have err : ∀ k, o3 = some k → P_need_stand [ld, wd, sd] = some (.error k) → P_l_asked [.int w, ld, wd, sd] = some (.ok (true, .list (kindO (if o3 = none ∧ w = 8 then some .move else o3)))) := fun k hk h => by
      rw [asked_err w0 (by omega) h, hk]
      rfl
    rcases k3 with ⟨h3, b3⟩ | ⟨h3, rfl⟩
    · exact err .lane h3 (need_err1 b3.err)
    · rcases k2 with ⟨h2, b2⟩ | ⟨h2, rfl⟩
      · exact err .ways (h3.trans h2) (need_err2 v b2.err)
      · rcases k1 with ⟨h1, b1⟩ | ⟨h1, rfl⟩
        · exact err .stand (h3.trans (h2.trans h1)) b1
        · have h : o3 = none := h3.trans (h2.trans h1)
          rw [asked_good v sm w0 (by omega), h]
          by_cases h8 : w = 8
          · simp [h8, kindO]
          · simp [h8, kindO]
  have hn : dNeS (.list [ld, wd]) (.list [ld, wd]) = some (.bool false) := by
    simp [dNeS, sameAll, lx.same, wx.same]
  have noW := dEq_kind (n := false) o2 (some .ways)
  have noW' : dEq false (.list (kindO o2)) (.list [.str "ways", .str "value"]) = some (.bool (decide (o2 = some .ways))) := noW
  generalize hX : (if o3 = none ∧ w = 8 then some Xc.move else o3) = X at asked
  generalize hlo : (if o3 = some Xc.lane then some Xc.lane else none) = lo at lx
  generalize hwo : (if o2 = some Xc.ways then some Xc.ways else none) = wo at wx
  have h1 : (sAsg (bTup [10, 11, 12]) (eCall P_l_built false (aC (eV 0) aN))) [some (false, scrD ns), none, none, none, none, none, none, none, none, none, none, none, none] = some (.nx [some (false, scrD ns), none, none, none, none, none, none, none, none, none, F (eL L), F (eW ws), F (eS s)]) := by simp [e0]
  have h2 : (sAsg (bName 1) (eCall P_l_cell_at false (aC (eV 0) (aC (eC (.int 16)) aN)))) [some (false, scrD ns), none, none, none, none, none, none, none, none, none, F (eL L), F (eW ws), F (eS s)] = some (.nx [some (false, scrD ns), some (false, .int c), none, none, none, none, none, none, none, none, F (eL L), F (eW ws), F (eS s)]) := by simp [c16]
  have h3 : (sAsg (bName 2) (liftA dLst aN)) [some (false, scrD ns), some (false, .int c), none, none, none, none, none, none, none, none, F (eL L), F (eW ws), F (eS s)] = some (.nx (env01 ns c (KO none) none none none none none none none (F (eL L)) (F (eW ws)) (F (eS s)))) := by simp [dLst]; rfl
  have h4 : (sAsg (bName 3) (lift2 (dEq false) (eV 2) (liftA dLst (aC (eC (.str "ways")) (aC (eC (.str "value")) aN))))) (env01 ns c (KO o2) none none none none none none none (F (eL L)) (F wd) (F sd)) = some (.nx (env01 ns c (KO o2) (some (false, .bool (decide (o2 = some .ways)))) none none none none none none (F (eL L)) (F wd) (F sd))) := by
    unfold env01
    simp [dLst, noW']
  generalize hnw : (some (false, PyData.bool (decide (o2 = some Xc.ways))) : Option (Bool × PyData)) = nw at s3 h4
  have h5 : (sAsg (bName 4) (liftA dLst (aC (fIf (lift1 (dIs .list) (eV 10)) (lift1 dLst1 (eV 10)) (eV 10)) (aC (fIf (lift1 (dIs .list) (eV 11)) (lift1 dLst1 (eV 11)) (eV 11)) aN)))) (env01 ns c (KO o3) nw none none none none none none (F ld) (F wd) (F sd)) = some (.nx (env01 ns c (KO o3) nw (F (.list [ld, wd])) none none none none none (F ld) (F wd) (F sd))) := by
    have c1 := copy_t (env := env01 ns c (KO o3) nw none none none none none none (F ld) (F wd) (F sd)) (i := 10) rfl lx.cp
    have c2 := copy_t (env := env01 ns c (KO o3) nw none none none none none none (F ld) (F wd) (F sd)) (i := 11) rfl wx.cp
    have c3 : (aC (fIf (lift1 (dIs .list) (eV 10)) (lift1 dLst1 (eV 10)) (eV 10)) (aC (fIf (lift1 (dIs .list) (eV 11)) (lift1 dLst1 (eV 11)) (eV 11)) aN)) (env01 ns c (KO o3) nw none none none none none none (F ld) (F wd) (F sd)) = some (.ok [ld, wd]) := by
      rw [aC_s, c1, aC_s, c2]
      rfl
    have c4 : (liftA dLst (aC (fIf (lift1 (dIs .list) (eV 10)) (lift1 dLst1 (eV 10)) (eV 10)) (aC (fIf (lift1 (dIs .list) (eV 11)) (lift1 dLst1 (eV 11)) (eV 11)) aN))) (env01 ns c (KO o3) nw none none none none none none (F ld) (F wd) (F sd)) = some (.ok (.list [ld, wd])) := by
      unfold liftA
      rw [c3]
      rfl
    unfold sAsg
    rw [c4]
    rfl
  have h6 : (sAsg (bName 5) (lift2 iMod (lift2 iDiv (eV 1) (eC (.int 81))) (eC (.int 9)))) (env01 ns c (KO o3) nw (F (.list [ld, wd])) none none none none none (F ld) (F wd) (F sd)) = some (.nx (env01 ns c (KO o3) nw (F (.list [ld, wd])) (F (.int w)) none none none none (F ld) (F wd) (F sd))) := by
    unfold env01
    simp [hw]
  have k0 : ∀ {n : Bool} (o : Option Xc), dEq n (.list (kindO o)) (.list []) = some (.bool (if n then !decide (o = none) else decide (o = none))) := fun o => dEq_kind o none
  have kL : ∀ {n : Bool} (o : Option Xc), dEq n (.list (kindO o)) (.list [.str "lane", .str "value"]) = some (.bool (if n then !decide (o = some .lane) else decide (o = some .lane))) := fun o => dEq_kind o (some .lane)
  have kS : ∀ {n : Bool} (o : Option Xc), dEq n (.list (kindO o)) (.list [.str "stand", .str "value"]) = some (.bool (if n then !decide (o = some .stand) else decide (o = some .stand))) := fun o => dEq_kind o (some .stand)
  have h7 : (sAsg (bName 6) (fIf (fAnd (lift2 (dEq false) (eV 2) (liftA dLst aN)) (lift2 (dEq false) (eV 5) (eC (.int 8)))) (liftA dLst (aC (eC (.str "move")) (aC (eC (.str "value")) aN))) (eV 2))) (env01 ns c (KO o3) nw (F (.list [ld, wd])) (F (.int w)) none none none none (F ld) (F wd) (F sd)) = some (.nx (env01 ns c (KO o3) nw (F (.list [ld, wd])) (F (.int w)) (KO X) none none none (F ld) (F wd) (F sd))) := by
    rw [← hX]
    unfold env01
    by_cases q1 : o3 = none
    · by_cases q2 : w = 8
      · subst q1 q2
        simp [dLst, k0]
        rfl
      · simp [dLst, k0, q1, q2]
    · simp [dLst, k0, q1]
  have h8 : (sIf (fOr (lift2 (dEq true) (eCall P_l_asked true (aC (eV 5) (aC (lift2 dIx (eV 4) (eC (.int 0))) (aC (lift2 dIx (eV 4) (eC (.int 1))) (aC (eV 12) aN))))) (eV 6)) (lift2 dNeS (eV 4) (liftA dLst (aC (eV 10) (aC (eV 11) aN))))) (sRet false (eC (.bool false))) sNx) (env01 ns c (KO o3) nw (F (.list [ld, wd])) (F (.int w)) (KO X) none none none (F ld) (F wd) (F sd)) = some (.nx (env01 ns c (KO o3) nw (F (.list [ld, wd])) (F (.int w)) (KO X) none none none (F ld) (F wd) (F sd))) := by
    have e := dEq_kind (n := true) X X
    unfold env01
    simp [asked, e, hn, dLst]
  have rL : ∀ (t a b : Option (Bool × PyData)), (lift2 dIx (liftA dLst (aC (liftA dLst aN) (aC (liftA dLst (aC (eC (.str "lane")) (aC (eC (.str "value")) aN))) aN))) (lift1 dInt (lift2 (dEq false) (eV 2) (liftA dLst (aC (eC (.str "lane")) (aC (eC (.str "value")) aN)))))) (env01 ns c (KO o3) nw (F (.list [ld, wd])) (F (.int w)) (KO X) t a b (F ld) (F wd) (F sd)) = some (.ok (.list (kindO lo))) := by
    intro t a b
    rw [← hlo]
    unfold env01
    by_cases q1 : o3 = some .lane
    · subst q1
      simp [dLst, kL, dInt]
      rfl
    · simp [dLst, kL, dInt, q1]
      rfl
  have rW : ∀ (t a b : Option (Bool × PyData)), (lift2 dIx (liftA dLst (aC (liftA dLst aN) (aC (liftA dLst (aC (eC (.str "ways")) (aC (eC (.str "value")) aN))) aN))) (lift1 dInt (eV 3))) (env01 ns c (KO o3) nw (F (.list [ld, wd])) (F (.int w)) (KO X) t a b (F ld) (F wd) (F sd)) = some (.ok (.list (kindO wo))) := by
    intro t a b
    rw [← hwo, ← hnw]
    unfold env01
    by_cases q1 : o2 = some .ways
    · simp [dLst, dInt, q1]
      rfl
    · simp [dLst, dInt, q1]
      rfl
  have eqL := dEq_kind (n := true) lo lo
  have eqW := dEq_kind (n := true) wo wo
  have turn : ∀ (j : Nat) (t : Option (Bool × PyData)), j < 2 → b1_law01 (env01 ns c (KO o3) nw (F (.list [ld, wd])) (F (.int w)) (KO X) (F (.int (j : Int))) none none (F ld) (F wd) (F sd)) = some (.nx (env01 ns c (KO o3) nw (F (.list [ld, wd])) (F (.int w)) (KO X) (F (.int (j : Int))) none none (F ld) (F wd) (F sd))) := by
    intro j t hj
    have r1 := rL (F (.int (j : Int))) none none
    have r2 := rW (F (.int (j : Int))) none none
    have a1 : P_l_alone [.int (j : Int), ld] = some (.ok (true, .list (kindO lo))) := by
      rcases (by omega : j = 0 ∨ j = 1) with rfl | rfl
      · exact lx.a0
      · exact lx.a1
    have a2 : P_l_alone [.int (2 + (j : Int)), wd] = some (.ok (true, .list (kindO wo))) := by
      rcases (by omega : j = 0 ∨ j = 1) with rfl | rfl
      · exact wx.a2
      · exact wx.a3
    unfold b1_law01
    rw [sSeq_s, sIf_s, lift2_s, r1]
    have q1 : (eCall P_l_alone true (aC (eV 7) (aC (lift2 dIx (eV 4) (eC (.int 0))) aN))) (env01 ns c (KO o3) nw (F (.list [ld, wd])) (F (.int w)) (KO X) (F (.int (j : Int))) none none (F ld) (F wd) (F sd)) = some (.ok (.list (kindO lo))) := by
      unfold env01
      simp [a1]
    have q2 : (eCall P_l_alone true (aC (lift2 iAdd (eC (.int 2)) (eV 7)) (aC (lift2 dIx (eV 4) (eC (.int 1))) aN))) (env01 ns c (KO o3) nw (F (.list [ld, wd])) (F (.int w)) (KO X) (F (.int (j : Int))) none none (F ld) (F wd) (F sd)) = some (.ok (.list (kindO wo))) := by
      unfold env01
      simp [a2]
    rw [q1]
    simp only [bindR_ok, eqL, Option.map_some, bindS_ok, if_true, decide_true, Bool.not_true, orS_b, Bool.false_eq_true, if_false, sNx_s, seqO_nx]
    rw [sIf_s, lift2_s, r2, q2]
    simp only [bindR_ok, eqW, Option.map_some, bindS_ok, if_true, decide_true, Bool.not_true, orS_b, Bool.false_eq_true, if_false, sNx_s]
  have h9 : sFor (sRng (eC (.int 2))) (bName 7) b1_law01 (env01 ns c (KO o3) nw (F (.list [ld, wd])) (F (.int w)) (KO X) none none none (F ld) (F wd) (F sd)) = some (.nx (env01 ns c (KO o3) nw (F (.list [ld, wd])) (F (.int w)) (KO X) (F (.int ((1 : Nat) : Int))) none none (F ld) (F wd) (F sd))) := by
    have hs : sRng (eC (.int 2)) (env01 ns c (KO o3) nw (F (.list [ld, wd])) (F (.int w)) (KO X) none none none (F ld) (F wd) (F sd)) = some (.ok ((List.range 2).map fun i => PyData.int ((i : Nat) : Int))) := sRng_of rfl (by omega)
    rw [sFor_of hs]
    show forGo (bName 7) b1_law01 [.int ((0 : Nat) : Int), .int ((1 : Nat) : Int)] _ = _
    refine (forGo_nx (env1 := (env01 ns c (KO o3) nw (F (.list [ld, wd])) (F (.int w)) (KO X) (F (.int ((0 : Nat) : Int))) none none (F ld) (F wd) (F sd))) rfl (turn 0 none (by omega))).trans ?_
    refine (forGo_nx (env1 := (env01 ns c (KO o3) nw (F (.list [ld, wd])) (F (.int w)) (KO X) (F (.int ((1 : Nat) : Int))) none none (F ld) (F wd) (F sd))) rfl (turn 1 none (by omega))).trans ?_
    rfl
  have h10 : (sIf (lift2 (dEq true) (eCall P_l_alone true (aC (eC (.int 4)) (aC (lift2 dIx (eV 4) (eC (.int 0))) aN))) (lift2 dIx (liftA dLst (aC (liftA dLst aN) (aC (liftA dLst (aC (eC (.str "lane")) (aC (eC (.str "value")) aN))) aN))) (lift1 dInt (lift2 (dEq false) (eV 2) (liftA dLst (aC (eC (.str "lane")) (aC (eC (.str "value")) aN))))))) (sRet false (eC (.bool false))) sNx) (env01 ns c (KO o3) nw (F (.list [ld, wd])) (F (.int w)) (KO X) (F (.int ((1 : Nat) : Int))) none none (F ld) (F wd) (F sd)) = some (.nx (env01 ns c (KO o3) nw (F (.list [ld, wd])) (F (.int w)) (KO X) (F (.int ((1 : Nat) : Int))) none none (F ld) (F wd) (F sd))) := by
    have r1 := rL (F (.int ((1 : Nat) : Int))) none none
    have a4 := lx.a4
    have q1 : (eCall P_l_alone true (aC (eC (.int 4)) (aC (lift2 dIx (eV 4) (eC (.int 0))) aN))) (env01 ns c (KO o3) nw (F (.list [ld, wd])) (F (.int w)) (KO X) (F (.int ((1 : Nat) : Int))) none none (F ld) (F wd) (F sd)) = some (.ok (.list (kindO lo))) := by
      unfold env01
      simp [a4]
    rw [sIf_s, lift2_s, r1, q1]
    simp only [bindR_ok, eqL, Option.map_some, bindS_ok, if_true, decide_true, Bool.not_true, orS_b, Bool.false_eq_true, if_false, sNx_s]
  have chain : seqO ((sIf (lift2 (dEq true) (eV 2) (liftA dLst aN)) (sRet false (eC (.bool true))) sNx) (env01 ns c (KO o3) nw (F (.list [ld, wd])) (F (.int w)) (KO X) (F (.int ((1 : Nat) : Int))) none none (F ld) (F wd) (F sd))) (sSeq (sAsg (bName 8) (lift2 iMod (eCall P_l_cell_at false (aC (eV 0) (aC (eC (.int 17)) aN))) (lift1 dLen (eV 12))))
  (sSeq (sFor (sLst (eCall P_l_bad_spots false (aC (eV 10) (aC (lift2 iMod (eCall P_l_cell_at false (aC (eV 0) (aC (eC (.int 18)) aN))) (lift2 iPow (eC (.int 10)) (eC (.int 20)))) aN)))) (bName 9) b2_law01)
  (sRet false (fAnd (lift2 (dIsB false) (eCall P_need_lane false (aC (eV 10) aN)) (eC (.bool true))) (fAnd (lift2 (dIsB false) (eCall P_need_ways false (aC (eV 11) aN)) (eC (.bool true))) (lift2 (dIsB false) (eCall P_need_stand false (aC (eV 10) (aC (eV 11) (aC (eV 12) aN)))) (eC (.bool true)))))))) = some (.rt false (.bool true)) → P_law01 [scrD ns] = some (.ok (false, .bool true)) := by
    intro h
    have body : g_law01 [some (false, scrD ns), none, none, none, none, none, none, none, none, none, none, none, none] = some (.rt false (.bool true)) := by
      unfold g_law01
      rw [sSeq_s, h1, seqO_nx, sSeq_s, h2, seqO_nx, sSeq_s, h3, seqO_nx, sSeq_s, s1, seqO_nx, sSeq_s, s2, seqO_nx, sSeq_s, h4, seqO_nx, sSeq_s, s3, seqO_nx, sSeq_s, h5, seqO_nx, sSeq_s, h6, seqO_nx, sSeq_s, h7, seqO_nx, sSeq_s, h8, seqO_nx, sSeq_s, h9, seqO_nx, sSeq_s, h10, seqO_nx, sSeq_s]
      exact h
    simp only [P_law01, runFn, startE]
    show (match g_law01 [some (false, scrD ns), none, none, none, none, none, none, none, none, none, none, none, none] with | _ => _) = _
    simp [body]
  apply chain
  by_cases hn3 : o3 = none
  · have o2n : o2 = none ∧ ld = eL L := by
      rcases k3 with ⟨h, _⟩ | ⟨h, e⟩
      · rw [hn3] at h; cases h
      · exact ⟨by rw [← h, hn3], e⟩
    have o1n : o1 = none ∧ wd = eW ws := by
      rcases k2 with ⟨h, _⟩ | ⟨h, e⟩
      · rw [o2n.1] at h; cases h
      · exact ⟨by rw [← h, o2n.1], e⟩
    have sdn : sd = eS s := by
      rcases k1 with ⟨h, _⟩ | ⟨h, e⟩
      · rw [o1n.1] at h; cases h
      · exact e
    have l1 := v.w1
    have l6 := v.w6
    have ll := v.len
    have hpos : (0 : Int) < (s.length : Int) := by omega
    have c17 : P_l_cell_at [scrD ns, .int 17] = some (.ok (false, .int (cell ns 17))) := cellF (ns := ns) (i := 17) (by decide)
    have c18 : P_l_cell_at [scrD ns, .int 18] = some (.ok (false, .int (cell ns 18))) := cellF (ns := ns) (i := 18) (by decide)
    have m0 : 0 ≤ cell ns 18 % 100000000000000000000 := Int.emod_nonneg _ (by decide)
    have at0 := Int.emod_nonneg (cell ns 17) (b := (s.length : Int)) (by omega)
    have at1 := Int.emod_lt_of_pos (cell ns 17) hpos
    have nl := need_lane_t v.n1 v.n8 v.rm
    have nw' := need_ways_t v.w1 v.w6
    have ns' := need_stand_t v
    have pw : iPow (.int 10) (.int 20) = some (.int 100000000000000000000) := rfl
    clear chain h1 h2 h3 h4 h5 h6 h7 h8 h9 h10 s1 s2 s3 turn rL rW asked hn lx wx k1 k2 k3 o1'
    obtain ⟨o2n, rfl⟩ := o2n
    obtain ⟨o1n, rfl⟩ := o1n
    subst hn3
    subst sdn
    have p1 : (sIf (lift2 (dEq true) (eV 2) (liftA dLst aN)) (sRet false (eC (.bool true))) sNx) (env01 ns c (KO none) nw (F (.list [(eL L), (eW ws)])) (F (.int w)) (KO X) (F (.int ((1 : Nat) : Int))) none none (F (eL L)) (F (eW ws)) (F (eS s))) = some (.nx (env01 ns c (KO none) nw (F (.list [(eL L), (eW ws)])) (F (.int w)) (KO X) (F (.int ((1 : Nat) : Int))) none none (F (eL L)) (F (eW ws)) (F (eS s)))) := by
      unfold env01
      simp [dLst, k0]
    have p2 : (sAsg (bName 8) (lift2 iMod (eCall P_l_cell_at false (aC (eV 0) (aC (eC (.int 17)) aN))) (lift1 dLen (eV 12)))) (env01 ns c (KO none) nw (F (.list [(eL L), (eW ws)])) (F (.int w)) (KO X) (F (.int ((1 : Nat) : Int))) none none (F (eL L)) (F (eW ws)) (F (eS s))) = some (.nx (env01 ns c (KO none) nw (F (.list [(eL L), (eW ws)])) (F (.int w)) (KO X) (F (.int ((1 : Nat) : Int))) (F (.int (cell ns 17 % (s.length : Int)))) none (F (eL L)) (F (eW ws)) (F (eS s)))) := by
      unfold env01
      have i1 : iMod (.int (cell ns 17)) (.int (s.length : Int)) = some (.int (cell ns 17 % (s.length : Int))) := by rw [iMod_i, if_pos hpos]
      simp [c17, i1]
    generalize hat : cell ns 17 % (s.length : Int) = at_ at at0 at1 p2
    generalize hm : cell ns 18 % 100000000000000000000 = m at m0
    have i18 : iMod (.int (cell ns 18)) (.int 100000000000000000000) = some (.int m) := by rw [← hm]; rfl
    have src : (sLst (eCall P_l_bad_spots false (aC (eV 10) (aC (lift2 iMod (eCall P_l_cell_at false (aC (eV 0) (aC (eC (.int 18)) aN))) (lift2 iPow (eC (.int 10)) (eC (.int 20)))) aN)))) (env01 ns c (KO none) nw (F (.list [(eL L), (eW ws)])) (F (.int w)) (KO X) (F (.int ((1 : Nat) : Int))) (F (.int at_)) none (F (eL L)) (F (eW ws)) (F (eS s))) = some (.ok (badL L.length m)) := by
      have bs := bad_spots_t (L := L) (m := m)
      unfold sLst env01
      simp [c18, pw, i18, bs]
    have loop : ∀ (ds : List PyData) (z : Option (Bool × PyData)), (∀ d ∈ ds, BadSp L d) → ∃ z', forGo (bName 9) b2_law01 ds (env01 ns c (KO none) nw (F (.list [(eL L), (eW ws)])) (F (.int w)) (KO X) (F (.int ((1 : Nat) : Int))) (F (.int at_)) z (F (eL L)) (F (eW ws)) (F (eS s))) = some (.nx (env01 ns c (KO none) nw (F (.list [(eL L), (eW ws)])) (F (.int w)) (KO X) (F (.int ((1 : Nat) : Int))) (F (.int at_)) z' (F (eL L)) (F (eW ws)) (F (eS s)))) := by
      intro ds
      induction ds with
      | nil => exact fun z _ => ⟨z, rfl⟩
      | cons d ds ih =>
        intro z hb
        obtain ⟨z', h⟩ := ih (F d) fun x hx => hb x (List.mem_cons_of_mem _ hx)
        refine ⟨z', (forGo_nx (env1 := (env01 ns c (KO none) nw (F (.list [(eL L), (eW ws)])) (F (.int w)) (KO X) (F (.int ((1 : Nat) : Int))) (F (.int at_)) (F d) (F (eL L)) (F (eW ws)) (F (eS s)))) rfl ?_).trans h⟩
        have hd := hb d List.mem_cons_self
        obtain ⟨es, q1, q2, q3⟩ := put_spot v at0 at1 hd (bad_ne v hd)
        have q4 := asked_err (w := 0) (by omega) (by omega) q3
        have d1 : dSl (eS s) none (some at_) = some (.tuple (cutD (s.map Spot.d) none (some at_))) := rfl
        have d2 : dSl (eS s) (some (at_ + 1)) none = some (.tuple (cutD (s.map Spot.d) (some (at_ + 1)) none)) := rfl
        have q5 := kS (n := true) (some .stand)
        have q5' : dEq true (.list (kindD .stand)) (.list [.str "stand", .str "value"]) = some (.bool false) := q5.trans (by simp)
        unfold env01 b2_law01
        simp [d1, d2, dTup, q1, q2, q4, q5', dLst]
    obtain ⟨z', hl⟩ := loop (badL L.length m) none fun d hd => bad_spot m0 d hd
    rw [p1, seqO_nx, sSeq_s, p2, seqO_nx, sSeq_s, sFor_of src, hl, seqO_nx]
    unfold env01
    simp [nl, nw', ns']
  · have h11 : (sIf (lift2 (dEq true) (eV 2) (liftA dLst aN)) (sRet false (eC (.bool true))) sNx) (env01 ns c (KO o3) nw (F (.list [ld, wd])) (F (.int w)) (KO X) (F (.int ((1 : Nat) : Int))) none none (F ld) (F wd) (F sd)) = some (.rt false (.bool true)) := by
      unfold env01
      simp [dLst, k0, hn3]
    rw [h11, seqO_rt]
end DS
namespace DS.K01
open PySem PySem.Spec PyProof.Rows L2
def top (i : Nat) : Stmt := PySem.Challenge.pw_sidinglane_k01_what_is_refused.main.body.getD i (.Pass ⟨0, 0, 0, 0⟩)
abbrev FnP (K : PySem.W.Frag) (x : Str) (st : Stmt) (f : Addr) (fd : FuncData) : Prop := FunD K x x (defArgs st) (defBody st) (defScope st) [] [] f fd
section
variable {P : Program} {w : World} {K : PySem.W.Frag} {mg : Str → Option Value} {base : Heap} {xa : Xc → Addr}
theorem sc__wall : FnScope ["k"] ["k"] (defScope (top 0)) := ⟨rfl, rfl, rfl, by decide +kernel, rfl, by decide +kernel, by decide +kernel⟩
theorem ok__wall {f : Addr} {fd : FuncData} (F : FnP K "_wall" (top 0) f fd) (gF : mg "_wall" = some (.ref f)) : Dok P w K mg base xa 1 "_wall" P__wall := by
  have Sc := sc__wall
  refine mkDok (k := 0) (N := ["k"]) (ps := ["k"]) (g := g__wall) F Sc gF (fun _ _ _ _ _ _ us hl => match us, hl with | [_], _ => rfl) (by decide) (by decide) fun cdv A outer s H E hr => ?_
  exact (psd_one (psd_while 1000 (pt_v pd_bl) (psd_one psd_pass)))
theorem sc_is_among : FnScope ["thing", "least", "most"] ["thing", "least", "most"] (defScope (top 12)) := ⟨rfl, rfl, rfl, by decide +kernel, rfl, by decide +kernel, by decide +kernel⟩
theorem ok_is_among {f : Addr} {fd : FuncData} (F : FnP K "is_among" (top 12) f fd) (gF : mg "is_among" = some (.ref f)) (m_int : mg "int" = none) (m_isinstance : mg "isinstance" = none) (m_bool : mg "bool" = none) : Dok P w K mg base xa 1 "is_among" P_is_among := by
  have Sc := sc_is_among
  refine mkDok (k := 0) (N := ["thing", "least", "most"]) (ps := ["thing", "least", "most"]) (g := g_is_among) F Sc gF (fun _ _ _ _ _ _ us hl => match us, hl with | [_, _, _], _ => rfl) (by decide) (by decide) fun cdv A outer s H E hr => ?_
  exact (psd_one (psd_ret (pd_and (pd_is .int (by rfl) m_isinstance (pd_var 0 (pv 0)).rd (by rfl) m_int (by rfl)) (pd_and (pd_not (pd_is .bool (by rfl) m_isinstance (pd_var 0 (pv 0)).rd (by rfl) m_bool (by rfl))) (pd_one (pd_leLe (pd_var 1 (pv 1)) (pd_var 0 (pv 0)) (pd_var 2 (pv 2))))))))
theorem sc_need_lane : FnScope ["lane", "room"] ["lane"] (defScope (top 13)) := ⟨rfl, rfl, rfl, by decide +kernel, rfl, by decide +kernel, by decide +kernel⟩
theorem ok_need_lane {f : Addr} {fd : FuncData} (F : FnP K "need_lane" (top 13) f fd) (gF : mg "need_lane" = some (.ref f)) (m_list : mg "list" = none) (m_isinstance : mg "isinstance" = none) (m_len : mg "len" = none) (m_all : mg "all" = none) (i_MOST_PLACES : ∃ t, mg "MOST_PLACES" = some (.int 8 t)) (i_MOST_ASIDE : ∃ t, mg "MOST_ASIDE" = some (.int 4 t)) (O_BadLane : XcOk K mg xa "BadLane" .lane) (G_is_among : Dok P w K mg base xa 1 "is_among" P_is_among) : Dok P w K mg base xa 2 "need_lane" P_need_lane := by
  have Sc := sc_need_lane
  refine mkDok (k := 1) (N := ["lane", "room"]) (ps := ["lane"]) (g := g_need_lane) F Sc gF (fun _ _ _ _ _ _ us hl => match us, hl with | [_], _ => rfl) (by decide) (by decide) fun cdv A outer s H E hr => ?_
  exact (psd_cons (psd_if (pt_w (pwd_or (ptd_not (pt_v (pd_is .list (by rfl) m_isinstance (pd_var 0 (pv 0)).rd (by rfl) m_list (by rfl)))) (pw1_or (ptd_not (pt_leLe pd_int (pd_len (by rfl) m_len (pd_var 0 (pv 0)).rd) (pd_gint (by rfl) i_MOST_PLACES)))))) (psd_one (psd_raise .lane O_BadLane (takes_of rfl rfl rfl rfl) (by rfl))) psd_nil)
  (psd_cons (psd_if (ptd_not (pt_v (pd_all (by rfl) (by rfl) m_all (pd_lc (by rfl) Sc.nd (pid_list (bnd_name 1) (pd_var 0 (pv 0)).rd) (blkOk_by (own := [("room", 1)]) (by kernel_rfl)) (fun _ _ _ _ _ => (pg_name (i := 1) Sc.nd (by rfl) (by first | exact .inl rfl | exact .inr rfl))) (fun _ _ _ _ _ => pts_yes) (fun _ _ _ _ _ => (pd_call (o := false) (G_is_among.at hr) takes0 (by rfl) (pad_e (pd_var 1 (pv 1)) (pad_e pd_int (pad_e (pd_gint (by rfl) i_MOST_ASIDE) pad_nil))))) (by decide)).rdo))) (psd_one (psd_raise .lane O_BadLane (takes_of rfl rfl rfl rfl) (by rfl))) psd_nil)
  (psd_one (psd_ret pd_bl))))
theorem sc_need_ways : FnScope ["ways", "way"] ["ways"] (defScope (top 14)) := ⟨rfl, rfl, rfl, by decide +kernel, rfl, by decide +kernel, by decide +kernel⟩
theorem ok_need_ways {f : Addr} {fd : FuncData} (F : FnP K "need_ways" (top 14) f fd) (gF : mg "need_ways" = some (.ref f)) (m_list : mg "list" = none) (m_isinstance : mg "isinstance" = none) (m_len : mg "len" = none) (m_str : mg "str" = none) (m_all : mg "all" = none) (i_MOST_TRAINS : ∃ t, mg "MOST_TRAINS" = some (.int 6 t)) (O_BadWays : XcOk K mg xa "BadWays" .ways) : Dok P w K mg base xa 1 "need_ways" P_need_ways := by
  have Sc := sc_need_ways
  refine mkDok (k := 0) (N := ["ways", "way"]) (ps := ["ways"]) (g := g_need_ways) F Sc gF (fun _ _ _ _ _ _ us hl => match us, hl with | [_], _ => rfl) (by decide) (by decide) fun cdv A outer s H E hr => ?_
  exact (psd_cons (psd_if (pt_w (pwd_or (ptd_not (pt_v (pd_is .list (by rfl) m_isinstance (pd_var 0 (pv 0)).rd (by rfl) m_list (by rfl)))) (pw1_or (ptd_not (pt_leLe pd_int (pd_len (by rfl) m_len (pd_var 0 (pv 0)).rd) (pd_gint (by rfl) i_MOST_TRAINS)))))) (psd_one (psd_raise .ways O_BadWays (takes_of rfl rfl rfl rfl) (by rfl))) psd_nil)
  (psd_cons (psd_if (ptd_not (pt_v (pd_all (by rfl) (by rfl) m_all (pd_lc (by rfl) Sc.nd (pid_list (bnd_name 1) (pd_var 0 (pv 0)).rd) (blkOk_by (own := [("way", 1)]) (by kernel_rfl)) (fun _ _ _ _ _ => (pg_name (i := 1) Sc.nd (by rfl) (by first | exact .inl rfl | exact .inr rfl))) (fun _ _ _ _ _ => pts_yes) (fun _ _ _ _ _ => (pd_and (pd_is .str (by rfl) m_isinstance (pd_var 1 (pv 1)).rd (by rfl) m_str (by rfl)) (pd_one (pd_in (hu_of hr) (pd_var 1 (pv 1)) (pd_tup (pad_e pd_str (pad_e pd_str pad_nil))).rd (by rfl))))) (by decide)).rdo))) (psd_one (psd_raise .ways O_BadWays (takes_of rfl rfl rfl rfl) (by rfl))) psd_nil)
  (psd_one (psd_ret pd_bl))))
theorem sc_is_spot : FnScope ["thing", "lane"] ["thing", "lane"] (defScope (top 15)) := ⟨rfl, rfl, rfl, by decide +kernel, rfl, by decide +kernel, by decide +kernel⟩
theorem ok_is_spot {f : Addr} {fd : FuncData} (F : FnP K "is_spot" (top 15) f fd) (gF : mg "is_spot" = some (.ref f)) (m_tuple : mg "tuple" = none) (m_isinstance : mg "isinstance" = none) (m_len : mg "len" = none) (m_str : mg "str" = none) (G_is_among : Dok P w K mg base xa 1 "is_among" P_is_among) : Dok P w K mg base xa 2 "is_spot" P_is_spot := by
  have Sc := sc_is_spot
  refine mkDok (k := 1) (N := ["thing", "lane"]) (ps := ["thing", "lane"]) (g := g_is_spot) F Sc gF (fun _ _ _ _ _ _ us hl => match us, hl with | [_, _], _ => rfl) (by decide) (by decide) fun cdv A outer s H E hr => ?_
  exact (psd_cons (psd_if (pt_w (pwd_or (ptd_not (pt_v (pd_is .tuple (by rfl) m_isinstance (pd_var 0 (pv 0)).rd (by rfl) m_tuple (by rfl)))) (pwd_or (pt_eq (hu_of hr) (pd_len (by rfl) m_len (pd_var 0 (pv 0)).rd).rd pd_int.rd) (pw1_or (ptd_not (pt_v (pd_is .str (by rfl) m_isinstance (pd_ixg (hu_of hr) (pd_var 0 (pv 0)).rd pd_int).rd (by rfl) m_str (by rfl)))))))) (psd_one (psd_ret pd_bl)) psd_nil)
  (psd_cons (psd_if (pt_eq (hu_of hr) (pd_ixg (hu_of hr) (pd_var 0 (pv 0)).rd pd_int).rd pd_str.rd) (psd_one (psd_ret (pd_eq (hu_of hr) (pd_len (by rfl) m_len (pd_var 0 (pv 0)).rd).rd pd_int.rd))) psd_nil)
  (psd_one (psd_ret (pd_and (pd_in (hu_of hr) (pd_ixg (hu_of hr) (pd_var 0 (pv 0)).rd pd_int) (pd_tup (pad_e pd_str (pad_e pd_str pad_nil))).rd (by rfl)) (pd_and (pd_eq (hu_of hr) (pd_len (by rfl) m_len (pd_var 0 (pv 0)).rd).rd pd_int.rd) (pd_one (pd_call (o := false) (G_is_among.at hr) (takes_of rfl rfl rfl rfl) (by rfl) (pad_e (pd_ixg (hu_of hr) (pd_var 0 (pv 0)).rd pd_int) (pad_e pd_int (pad_e (pd_sub (pd_len (by rfl) m_len (pd_var 1 (pv 1)).rd) pd_int) pad_nil)))))))))))
theorem sc_has_room : FnScope ["lane", "stand", "place"] ["lane", "stand"] (defScope (top 16)) := ⟨rfl, rfl, rfl, by decide +kernel, rfl, by decide +kernel, by decide +kernel⟩
theorem ok_has_room {f : Addr} {fd : FuncData} (F : FnP K "has_room" (top 16) f fd) (gF : mg "has_room" = some (.ref f)) (m_len : mg "len" = none) (m_range : mg "range" = none) : Dok P w K mg base xa 1 "has_room" P_has_room := by
  have Sc := sc_has_room
  refine mkDok (k := 0) (N := ["lane", "stand", "place"]) (ps := ["lane", "stand"]) (g := g_has_room) F Sc gF (fun _ _ _ _ _ _ us hl => match us, hl with | [_, _], _ => rfl) (by decide) (by decide) fun cdv A outer s H E hr => ?_
  exact (psd_cons (psd_for (by rfl) (pid_rng (bnd_name 2) (by rfl) m_range (pd_len (by rfl) m_len (pd_var 0 (pv 0)).rd)) (pg_name (i := 2) Sc.nd (by rfl) (by first | exact .inl rfl | exact .inr rfl)) (psd_one (psd_if (pt_w (pwd_or (pt_gt (pd_countT (hu_of hr) (pd_var 1 (pv 1)).rd (pd_tup (pad_e pd_str (pad_e (pd_var 2 (pv 2)) pad_nil))).rd) pd_int) (pw1_or (pt_gt (pd_countT (hu_of hr) (pd_var 1 (pv 1)).rd (pd_tup (pad_e pd_str (pad_e (pd_var 2 (pv 2)) pad_nil))).rd) (pd_ixg (hu_of hr) (pd_var 0 (pv 0)).rd (pd_var 2 (pv 2))))))) (psd_one (psd_ret pd_bl)) psd_nil)))
  (psd_one (psd_ret pd_bl)))
theorem sc_need_stand : FnScope ["lane", "ways", "stand", "spot"] ["lane", "ways", "stand"] (defScope (top 17)) := ⟨rfl, rfl, rfl, by decide +kernel, rfl, by decide +kernel, by decide +kernel⟩
theorem ok_need_stand {f : Addr} {fd : FuncData} (F : FnP K "need_stand" (top 17) f fd) (gF : mg "need_stand" = some (.ref f)) (m_tuple : mg "tuple" = none) (m_isinstance : mg "isinstance" = none) (m_len : mg "len" = none) (m_all : mg "all" = none) (O_BadStand : XcOk K mg xa "BadStand" .stand) (G_need_lane : Dok P w K mg base xa 2 "need_lane" P_need_lane) (G_need_ways : Dok P w K mg base xa 1 "need_ways" P_need_ways) (G_is_spot : Dok P w K mg base xa 2 "is_spot" P_is_spot) (G_has_room : Dok P w K mg base xa 1 "has_room" P_has_room) : Dok P w K mg base xa 3 "need_stand" P_need_stand := by
  have Sc := sc_need_stand
  refine mkDok (k := 2) (N := ["lane", "ways", "stand", "spot"]) (ps := ["lane", "ways", "stand"]) (g := g_need_stand) F Sc gF (fun _ _ _ _ _ _ us hl => match us, hl with | [_, _, _], _ => rfl) (by decide) (by decide) fun cdv A outer s H E hr => ?_
  exact (psd_cons (psd_expr (pd_call (o := false) (G_need_lane.at hr) (takes_of rfl rfl rfl rfl) (by rfl) (pad_e (pd_var 0 (pv 0)) pad_nil)))
  (psd_cons (psd_expr (pd_call (o := false) (G_need_ways.at hr) (takes_of rfl rfl rfl rfl) (by rfl) (pad_e (pd_var 1 (pv 1)) pad_nil)))
  (psd_cons (psd_if (pt_w (pwd_or (ptd_not (pt_v (pd_is .tuple (by rfl) m_isinstance (pd_var 2 (pv 2)).rd (by rfl) m_tuple (by rfl)))) (pw1_or (pt_ne (hu_of hr) (pd_len (by rfl) m_len (pd_var 2 (pv 2)).rd).rd (pd_len (by rfl) m_len (pd_var 1 (pv 1)).rd).rd)))) (psd_one (psd_raise .stand O_BadStand (takes_of rfl rfl rfl rfl) (by rfl))) psd_nil)
  (psd_cons (psd_if (pt_w (pwd_or (ptd_not (pt_v (pd_all (by rfl) (by rfl) m_all (pd_lc (by rfl) Sc.nd (pid_tup (bnd_name 3) (pd_var 2 (pv 2)).rd) (blkOk_by (own := [("spot", 3)]) (by kernel_rfl)) (fun _ _ _ _ _ => (pg_name (i := 3) Sc.nd (by rfl) (by first | exact .inl rfl | exact .inr rfl))) (fun _ _ _ _ _ => pts_yes) (fun _ _ _ _ _ => (pd_call (o := false) (G_is_spot.at hr) takes0 (by rfl) (pad_e (pd_var 3 (pv 3)) (pad_e (pd_var 0 (pv 0)) pad_nil)))) (by decide)).rdo))) (pw1_or (ptd_not (pt_v (pd_call (o := false) (G_has_room.at hr) (takes_of rfl rfl rfl rfl) (by rfl) (pad_e (pd_var 0 (pv 0)) (pad_e (pd_var 2 (pv 2)) pad_nil)))))))) (psd_one (psd_raise .stand O_BadStand (takes_of rfl rfl rfl rfl) (by rfl))) psd_nil)
  (psd_one (psd_ret pd_bl))))))
def ymeth (j : Nat) : Stmt := match top 43 with
  | .ClassDef _ _ _ b _ _ _ _ _ _ _ => b.getD j (.Pass ⟨0, 0, 0, 0⟩)
  | _ => .Pass ⟨0, 0, 0, 0⟩
theorem sc_Yard_init : FnScope ["self", "lane", "ways", "stand"] ["self", "lane", "ways", "stand"] (defScope (ymeth 0)) := ⟨rfl, rfl, rfl, by decide +kernel, rfl, by decide +kernel, by decide +kernel⟩
theorem ok_Yard {f yc : Addr} {fd : FuncData} (F : FunD K "__init__" "Yard.__init__" (defArgs (ymeth 0)) (defBody (ymeth 0)) (defScope (ymeth 0)) [] [] f fd) (M : Mk K yc f) (Y : YdC K yc) (gY : mg "Yard" = some (.ref yc)) (m_list : mg "list" = none) (G_need_stand : Dok P w K mg base xa 3 "need_stand" P_need_stand) : YokC P w K mg base xa 4 "Yard" yc P_need_stand := by
  have Sc := sc_Yard_init
  refine ⟨⟨f, fd, ["self", "lane", "ways", "stand"], M, init_fn (k := 3) (N := ["self", "lane", "ways", "stand"]) Y F Sc rfl rfl (fun cdv A outer s H E hr => ?_), F.bindsN (fun _ _ _ _ _ _ us hl => match us, hl with | [_, _, _, _], _ => rfl)⟩, gY, by decide⟩
  exact pss_cons (psd_expr (pd_call (o := false) (G_need_stand.at hr) (takes_of rfl rfl rfl rfl) (by rfl) (pad_e (pd_var 1 (pv 1)) (pad_e (pd_var 2 (pv 2)) (pad_e (pd_var 3 (pv 3)) pad_nil)))))
    (pss_cons (ps_fld (pv 0) (pd_list1 (by rfl) m_list (pd_var 1 (pv 1)).rd) (by rfl))
    (pss_cons (ps_fld (pv 0) (pd_list1 (by rfl) m_list (pd_var 2 (pv 2)).rd) (by rfl))
    (pss_cons (ps_fld (pv 0) (pd_var 3 (pv 3)) (by rfl)) (pss_one (ps_fld (pv 0) pd_non (by rfl))))))
theorem sc_way_left : FnScope ["lane", "way", "spot"] ["lane", "way", "spot"] (defScope (top 19)) := ⟨rfl, rfl, rfl, by decide +kernel, rfl, by decide +kernel, by decide +kernel⟩
theorem ok_way_left {f : Addr} {fd : FuncData} (F : FnP K "way_left" (top 19) f fd) (gF : mg "way_left" = some (.ref f)) (m_len : mg "len" = none) : Dok P w K mg base xa 1 "way_left" P_way_left := by
  have Sc := sc_way_left
  refine mkDok (k := 0) (N := ["lane", "way", "spot"]) (ps := ["lane", "way", "spot"]) (g := g_way_left) F Sc gF (fun _ _ _ _ _ _ us hl => match us, hl with | [_, _, _], _ => rfl) (by decide) (by decide) fun cdv A outer s H E hr => ?_
  exact (psd_cons (psd_if (pt_eq (hu_of hr) (pd_ixg (hu_of hr) (pd_var 2 (pv 2)).rd pd_int).rd pd_str.rd) (psd_one (psd_ret pd_int)) psd_nil)
  (psd_cons (psd_if (pt_eq (hu_of hr) (pd_var 1 (pv 1)).rd pd_str.rd) (psd_one (psd_ret (pd_sub (pd_len (by rfl) m_len (pd_var 0 (pv 0)).rd) (pd_ixg (hu_of hr) (pd_var 2 (pv 2)).rd pd_int)))) psd_nil)
  (psd_one (psd_ret (pd_add (pd_ixg (hu_of hr) (pd_var 2 (pv 2)).rd pd_int) pd_int)))))
theorem sc_left_of : FnScope ["lane", "ways", "stand", "way", "spot"] ["lane", "ways", "stand"] (defScope (top 20)) := ⟨rfl, rfl, rfl, by decide +kernel, rfl, by decide +kernel, by decide +kernel⟩
theorem ok_left_of {f : Addr} {fd : FuncData} (F : FnP K "left_of" (top 20) f fd) (gF : mg "left_of" = some (.ref f)) (m_zip : mg "zip" = none) (m_sum : mg "sum" = none) (G_way_left : Dok P w K mg base xa 1 "way_left" P_way_left) : Dok P w K mg base xa 2 "left_of" P_left_of := by
  have Sc := sc_left_of
  refine mkDok (k := 1) (N := ["lane", "ways", "stand", "way", "spot"]) (ps := ["lane", "ways", "stand"]) (g := g_left_of) F Sc gF (fun _ _ _ _ _ _ us hl => match us, hl with | [_, _, _], _ => rfl) (by decide) (by decide) fun cdv A outer s H E hr => ?_
  exact (psd_one (psd_ret (pd_sum (by rfl) (by rfl) m_sum (pd_lc (by rfl) Sc.nd (pid_zip 3 4 (by rfl) m_zip (pd_var 1 (pv 1)).rd (pd_var 2 (pv 2)).rd) (blkOk_by (own := [("way", 3), ("spot", 4)]) (by kernel_rfl)) (fun _ _ _ _ _ => (pg_tup (by rfl) (pgs_cons (pg_name (i := 3) Sc.nd (by rfl) (by first | exact .inl rfl | exact .inr rfl)) (pgs_cons (pg_name (i := 4) Sc.nd (by rfl) (by first | exact .inl rfl | exact .inr rfl)) pgs_nil)))) (fun _ _ _ _ _ => pts_yes) (fun _ _ _ _ _ => (pd_call (o := false) (G_way_left.at hr) takes0 (by rfl) (pad_e (pd_var 0 (pv 0)) (pad_e (pd_var 3 (pv 3)) (pad_e (pd_var 4 (pv 4)) pad_nil))))) (by decide)).rdo)))
theorem sc_next_spot : FnScope ["lane", "way", "place", "goal"] ["lane", "way", "place"] (defScope (top 21)) := ⟨rfl, rfl, rfl, by decide +kernel, rfl, by decide +kernel, by decide +kernel⟩
theorem ok_next_spot {f : Addr} {fd : FuncData} (F : FnP K "next_spot" (top 21) f fd) (gF : mg "next_spot" = some (.ref f)) (m_len : mg "len" = none) : Dok P w K mg base xa 1 "next_spot" P_next_spot := by
  have Sc := sc_next_spot
  refine mkDok (k := 0) (N := ["lane", "way", "place", "goal"]) (ps := ["lane", "way", "place"]) (g := g_next_spot) F Sc gF (fun _ _ _ _ _ _ us hl => match us, hl with | [_, _, _], _ => rfl) (by decide) (by decide) fun cdv A outer s H E hr => ?_
  exact (psd_cons (psd_set 3 Sc.nd (pd_add (pd_var 2 (pv 2)) pd_int))
  (psd_cons (psd_if (pt_eq (hu_of hr) (pd_var 1 (pv 1)).rd pd_str.rd) (psd_one (psd_set 3 Sc.nd (pd_sub (pd_var 2 (pv 2)) pd_int))) psd_nil)
  (psd_cons (psd_if (pt_leLt pd_int (pd_var 3 (pv 3)) (pd_len (by rfl) m_len (pd_var 0 (pv 0)).rd)) (psd_one (psd_ret (pd_tup (pad_e pd_str (pad_e (pd_var 3 (pv 3)) pad_nil))))) psd_nil)
  (psd_one (psd_ret (pd_tup (pad_e pd_str pad_nil)))))))
theorem sc_goal_of : FnScope ["lane", "ways", "stand", "move", "spot", "goal", "word", "number"] ["lane", "ways", "stand", "move"] (defScope (top 22)) := ⟨rfl, rfl, rfl, by decide +kernel, rfl, by decide +kernel, by decide +kernel⟩
theorem ok_goal_of {f : Addr} {fd : FuncData} (F : FnP K "goal_of" (top 22) f fd) (gF : mg "goal_of" = some (.ref f)) (G_next_spot : Dok P w K mg base xa 1 "next_spot" P_next_spot) : Dok P w K mg base xa 2 "goal_of" P_goal_of := by
  have Sc := sc_goal_of
  refine mkDok (k := 1) (N := ["lane", "ways", "stand", "move", "spot", "goal", "word", "number"]) (ps := ["lane", "ways", "stand", "move"]) (g := g_goal_of) F Sc gF (fun _ _ _ _ _ _ us hl => match us, hl with | [_, _, _, _], _ => rfl) (by decide) (by decide) fun cdv A outer s H E hr => ?_
  exact (psd_cons (psd_unp [6, 7] (pd_var 3 (pv 3)) (pg_tup (by rfl) (pgs_cons (pg_name (i := 6) Sc.nd (by rfl) (by first | exact .inl rfl | exact .inr rfl)) (pgs_cons (pg_name (i := 7) Sc.nd (by rfl) (by first | exact .inl rfl | exact .inr rfl)) pgs_nil))))
  (psd_cons (psd_set 4 Sc.nd (pd_ixg (hu_of hr) (pd_var 2 (pv 2)).rd (pd_var 7 (pv 7))))
  (psd_cons (psd_if (pt_eq (hu_of hr) (pd_var 6 (pv 6)).rd pd_str.rd) (psd_cons (psd_if (pt_w (pwd_and (pt_eq (hu_of hr) (pd_ixg (hu_of hr) (pd_var 4 (pv 4)).rd pd_int).rd pd_str.rd) (pw1_and (pt_lt (pd_countT (hu_of hr) (pd_var 2 (pv 2)).rd (pd_tup (pad_e pd_str (pad_e (pd_ixg (hu_of hr) (pd_var 4 (pv 4)).rd pd_int) pad_nil))).rd) (pd_ixg (hu_of hr) (pd_var 0 (pv 0)).rd (pd_ixg (hu_of hr) (pd_var 4 (pv 4)).rd pd_int)))))) (psd_one (psd_ret (pd_tup (pad_e pd_str (pad_e (pd_ixg (hu_of hr) (pd_var 4 (pv 4)).rd pd_int) pad_nil))))) psd_nil)
  (psd_one (psd_ret pd_non))) psd_nil)
  (psd_cons (psd_if (pt_ne (hu_of hr) (pd_ixg (hu_of hr) (pd_var 4 (pv 4)).rd pd_int).rd (pd_if (pt_eq (hu_of hr) (pd_var 6 (pv 6)).rd pd_str.rd) pd_str pd_str).rd) (psd_one (psd_ret pd_non)) psd_nil)
  (psd_cons (psd_set 5 Sc.nd (pd_call (o := false) (G_next_spot.at hr) (takes_of rfl rfl rfl rfl) (by rfl) (pad_e (pd_var 0 (pv 0)) (pad_e (pd_ixg (hu_of hr) (pd_var 1 (pv 1)).rd (pd_var 7 (pv 7))) (pad_e (pd_ixg (hu_of hr) (pd_var 4 (pv 4)).rd pd_int) pad_nil)))))
  (psd_cons (psd_if (pt_w (pwd_and (pt_eq (hu_of hr) (pd_ixg (hu_of hr) (pd_var 5 (pv 5)).rd pd_int).rd pd_str.rd) (pw1_and (pt_in (hu_of hr) (pd_var 5 (pv 5)) (pd_var 2 (pv 2)).rd (by rfl))))) (psd_one (psd_ret pd_non)) psd_nil)
  (psd_one (psd_ret (pd_var 5 (pv 5))))))))))
theorem sc_moved : FnScope ["stand", "number", "spot"] ["stand", "number", "spot"] (defScope (top 23)) := ⟨rfl, rfl, rfl, by decide +kernel, rfl, by decide +kernel, by decide +kernel⟩
theorem ok_moved {f : Addr} {fd : FuncData} (F : FnP K "moved" (top 23) f fd) (gF : mg "moved" = some (.ref f)) : Dok P w K mg base xa 1 "moved" P_moved := by
  have Sc := sc_moved
  refine mkDok (k := 0) (N := ["stand", "number", "spot"]) (ps := ["stand", "number", "spot"]) (g := g_moved) F Sc gF (fun _ _ _ _ _ _ us hl => match us, hl with | [_, _, _], _ => rfl) (by decide) (by decide) fun cdv A outer s H E hr => ?_
  exact (psd_one (psd_ret (pd_add (pd_add (pd_sl (pd_var 0 (pv 0)) pod_none (pod_some (pd_var 1 (pv 1)))) (pd_tup (pad_e (pd_var 2 (pv 2)) pad_nil))) (pd_sl (pd_var 0 (pv 0)) (pod_some (pd_add (pd_var 1 (pv 1)) pd_int)) pod_none))))
theorem sc_moves_of : FnScope ["lane", "ways", "stand", "found", "number", "word", "goal"] ["lane", "ways", "stand"] (defScope (top 24)) := ⟨rfl, rfl, rfl, by decide +kernel, rfl, by decide +kernel, by decide +kernel⟩
theorem ok_moves_of {f : Addr} {fd : FuncData} (F : FnP K "moves_of" (top 24) f fd) (gF : mg "moves_of" = some (.ref f)) (m_len : mg "len" = none) (m_range : mg "range" = none) (G_goal_of : Dok P w K mg base xa 2 "goal_of" P_goal_of) (G_moved : Dok P w K mg base xa 1 "moved" P_moved) : Dok P w K mg base xa 3 "moves_of" P_moves_of := by
  have Sc := sc_moves_of
  refine mkDok (k := 2) (N := ["lane", "ways", "stand", "found", "number", "word", "goal"]) (ps := ["lane", "ways", "stand"]) (g := g_moves_of) F Sc gF (fun _ _ _ _ _ _ us hl => match us, hl with | [_, _, _], _ => rfl) (by decide) (by decide) fun cdv A outer s H E hr => ?_
  exact (psd_cons (psd_own 3 Sc.nd (pd_lst pad_nil))
  (psd_cons (psd_for (by rfl) (pid_rng (bnd_name 4) (by rfl) m_range (pd_len (by rfl) m_len (pd_var 1 (pv 1)).rd)) (pg_name (i := 4) Sc.nd (by rfl) (by first | exact .inl rfl | exact .inr rfl)) (psd_one (psd_for (by rfl) (pid_tup (bnd_name 5) (pd_tup (pad_e pd_str (pad_e pd_str (pad_e pd_str pad_nil)))).rd) (pg_name (i := 5) Sc.nd (by rfl) (by first | exact .inl rfl | exact .inr rfl)) (psd_cons (psd_set 6 Sc.nd (pd_call (o := false) (G_goal_of.at hr) takes0 (by rfl) (pad_e (pd_var 0 (pv 0)) (pad_e (pd_var 1 (pv 1)) (pad_e (pd_var 2 (pv 2)) (pad_e (pd_tup (pad_e (pd_var 5 (pv 5)) (pad_e (pd_var 4 (pv 4)) pad_nil))) pad_nil))))))
  (psd_one (psd_if (pt_notN (pd_var 6 (pv 6)).rd pd_non) (psd_one (psd_app 3 (pv 3) (pd_tup (pad_e (pd_tup (pad_e (pd_var 5 (pv 5)) (pad_e (pd_var 4 (pv 4)) pad_nil))) (pad_e (pd_call (o := false) (G_moved.at hr) takes0 (by rfl) (pad_e (pd_var 2 (pv 2)) (pad_e (pd_var 4 (pv 4)) (pad_e (pd_var 6 (pv 6)) pad_nil)))) pad_nil))))) psd_nil))))))
  (psd_one (psd_retV 3 (pv 3)))))
theorem sc_left_to_go : FnScope ["lane", "ways", "stand"] ["lane", "ways", "stand"] (defScope (top 25)) := ⟨rfl, rfl, rfl, by decide +kernel, rfl, by decide +kernel, by decide +kernel⟩
theorem ok_left_to_go {f : Addr} {fd : FuncData} (F : FnP K "left_to_go" (top 25) f fd) (gF : mg "left_to_go" = some (.ref f)) (G_need_stand : Dok P w K mg base xa 3 "need_stand" P_need_stand) (G_left_of : Dok P w K mg base xa 2 "left_of" P_left_of) : Dok P w K mg base xa 4 "left_to_go" P_left_to_go := by
  have Sc := sc_left_to_go
  refine mkDok (k := 3) (N := ["lane", "ways", "stand"]) (ps := ["lane", "ways", "stand"]) (g := g_left_to_go) F Sc gF (fun _ _ _ _ _ _ us hl => match us, hl with | [_, _, _], _ => rfl) (by decide) (by decide) fun cdv A outer s H E hr => ?_
  exact (psd_cons (psd_expr (pd_call (o := false) (G_need_stand.at hr) (takes_of rfl rfl rfl rfl) (by rfl) (pad_e (pd_var 0 (pv 0)) (pad_e (pd_var 1 (pv 1)) (pad_e (pd_var 2 (pv 2)) pad_nil)))))
  (psd_one (psd_ret (pd_call (o := false) (G_left_of.at hr) (takes_of rfl rfl rfl rfl) (by rfl) (pad_e (pd_var 0 (pv 0)) (pad_e (pd_var 1 (pv 1)) (pad_e (pd_var 2 (pv 2)) pad_nil)))))))
theorem sc_allowed : FnScope ["lane", "ways", "stand", "move", "fresh"] ["lane", "ways", "stand"] (defScope (top 26)) := ⟨rfl, rfl, rfl, by decide +kernel, rfl, by decide +kernel, by decide +kernel⟩
theorem ok_allowed {f : Addr} {fd : FuncData} (F : FnP K "allowed" (top 26) f fd) (gF : mg "allowed" = some (.ref f)) (G_need_stand : Dok P w K mg base xa 3 "need_stand" P_need_stand) (G_moves_of : Dok P w K mg base xa 3 "moves_of" P_moves_of) : Dok P w K mg base xa 4 "allowed" P_allowed := by
  have Sc := sc_allowed
  refine mkDok (k := 3) (N := ["lane", "ways", "stand", "move", "fresh"]) (ps := ["lane", "ways", "stand"]) (g := g_allowed) F Sc gF (fun _ _ _ _ _ _ us hl => match us, hl with | [_, _, _], _ => rfl) (by decide) (by decide) fun cdv A outer s H E hr => ?_
  exact (psd_cons (psd_expr (pd_call (o := false) (G_need_stand.at hr) (takes_of rfl rfl rfl rfl) (by rfl) (pad_e (pd_var 0 (pv 0)) (pad_e (pd_var 1 (pv 1)) (pad_e (pd_var 2 (pv 2)) pad_nil)))))
  (psd_one (psd_retO (pd_lc (by rfl) Sc.nd (pid_list (bnd_tup [3, 4]) (pd_call (o := true) (G_moves_of.at hr) (takes_of rfl rfl rfl rfl) (by rfl) (pad_e (pd_var 0 (pv 0)) (pad_e (pd_var 1 (pv 1)) (pad_e (pd_var 2 (pv 2)) pad_nil)))).rdo) (blkOk_by (own := [("move", 3), ("fresh", 4)]) (by kernel_rfl)) (fun _ _ _ _ _ => (pg_tup (by rfl) (pgs_cons (pg_name (i := 3) Sc.nd (by rfl) (by first | exact .inl rfl | exact .inr rfl)) (pgs_cons (pg_name (i := 4) Sc.nd (by rfl) (by first | exact .inl rfl | exact .inr rfl)) pgs_nil)))) (fun _ _ _ _ _ => pts_yes) (fun _ _ _ _ _ => (pd_var 3 (pv 3))) (by decide)))))
theorem sc_behind : FnScope ["lane", "ways", "stand", "move", "one", "fresh"] ["lane", "ways", "stand", "move"] (defScope (top 27)) := ⟨rfl, rfl, rfl, by decide +kernel, rfl, by decide +kernel, by decide +kernel⟩
theorem ok_behind {f : Addr} {fd : FuncData} (F : FnP K "behind" (top 27) f fd) (gF : mg "behind" = some (.ref f)) (m_tuple : mg "tuple" = none) (m_isinstance : mg "isinstance" = none) (m_len : mg "len" = none) (O_NoMove : XcOk K mg xa "NoMove" .move) (G_need_stand : Dok P w K mg base xa 3 "need_stand" P_need_stand) (G_is_among : Dok P w K mg base xa 1 "is_among" P_is_among) (G_moves_of : Dok P w K mg base xa 3 "moves_of" P_moves_of) : Dok P w K mg base xa 4 "behind" P_behind := by
  have Sc := sc_behind
  refine mkDok (k := 3) (N := ["lane", "ways", "stand", "move", "one", "fresh"]) (ps := ["lane", "ways", "stand", "move"]) (g := g_behind) F Sc gF (fun _ _ _ _ _ _ us hl => match us, hl with | [_, _, _, _], _ => rfl) (by decide) (by decide) fun cdv A outer s H E hr => ?_
  exact (psd_cons (psd_expr (pd_call (o := false) (G_need_stand.at hr) (takes_of rfl rfl rfl rfl) (by rfl) (pad_e (pd_var 0 (pv 0)) (pad_e (pd_var 1 (pv 1)) (pad_e (pd_var 2 (pv 2)) pad_nil)))))
  (psd_cons (psd_if (pt_w (pwd_and (pt_v (pd_is .tuple (by rfl) m_isinstance (pd_var 3 (pv 3)).rd (by rfl) m_tuple (by rfl))) (pwd_and (pt_eq (hu_of hr) (pd_len (by rfl) m_len (pd_var 3 (pv 3)).rd).rd pd_int.rd) (pw1_and (pt_v (pd_call (o := false) (G_is_among.at hr) (takes_of rfl rfl rfl rfl) (by rfl) (pad_e (pd_ixg (hu_of hr) (pd_var 3 (pv 3)).rd pd_int) (pad_e pd_int (pad_e (pd_sub (pd_len (by rfl) m_len (pd_var 1 (pv 1)).rd) pd_int) pad_nil))))))))) (psd_one (psd_for (by rfl) (pid_listE (bnd_tup [4, 5]) ((pd_noD (pd_call (o := true) (G_moves_of.at hr) takes0 (by rfl) (pad_e (pd_var 0 (pv 0)) (pad_e (pd_var 1 (pv 1)) (pad_e (pd_var 2 (pv 2)) pad_nil))))).frz nd_noD)) (pg_tup (by rfl) (pgs_cons (pg_name (i := 4) Sc.nd (by rfl) (by first | exact .inl rfl | exact .inr rfl)) (pgs_cons (pg_name (i := 5) Sc.nd (by rfl) (by first | exact .inl rfl | exact .inr rfl)) pgs_nil))) (psd_one (psd_if (pt_eq (hu_of hr) (pd_var 4 (pv 4)).rd (pd_var 3 (pv 3)).rd) (psd_one (psd_ret (pd_var 5 (pv 5)))) psd_nil)))) psd_nil)
  (psd_one (psd_raise .move O_NoMove (takes_of rfl rfl rfl rfl) (by rfl)))))
theorem sc_all_reached : FnScope ["lane", "ways", "stand", "found", "waiting", "here", "move", "fresh"] ["lane", "ways", "stand"] (defScope (top 29)) := ⟨rfl, rfl, rfl, by decide +kernel, rfl, by decide +kernel, by decide +kernel⟩
theorem ok_all_reached {f : Addr} {fd : FuncData} (F : FnP K "all_reached" (top 29) f fd) (gF : mg "all_reached" = some (.ref f)) (m_len : mg "len" = none) (G_moves_of : Dok P w K mg base xa 3 "moves_of" P_moves_of) : Dok P w K mg base xa 4 "all_reached" P_all_reached := by
  have Sc := sc_all_reached
  refine mkDok (k := 3) (N := ["lane", "ways", "stand", "found", "waiting", "here", "move", "fresh"]) (ps := ["lane", "ways", "stand"]) (g := g_all_reached) F Sc gF (fun _ _ _ _ _ _ us hl => match us, hl with | [_, _, _], _ => rfl) (by decide) (by decide) fun cdv A outer s H E hr => ?_
  exact (psd_cons (psd_own 3 Sc.nd pd_dnew)
  (psd_cons (psd_own 4 Sc.nd (pd_lst (pad_e (pd_var 2 (pv 2)) pad_nil)))
  (psd_cons (psd_while 10000000 (pt_gt (pd_len (by rfl) m_len (pd_varR 4 (pv 4))) pd_int) (psd_cons (psd_pop 5 4 Sc.nd (pv 4))
  (psd_cons (psd_if (pt_in (hu_of hr) (pd_var 5 (pv 5)) (pd_varR 3 (pv 3)) (by rfl)) (psd_one psd_cont) psd_nil)
  (psd_cons (psd_put 3 (hu_of hr) (pv 3) (pd_var 5 (pv 5)) ((pd_lc (by rfl) Sc.nd (pid_list (bnd_tup [6, 7]) (pd_call (o := true) (G_moves_of.at hr) takes0 (by rfl) (pad_e (pd_var 0 (pv 0)) (pad_e (pd_var 1 (pv 1)) (pad_e (pd_var 5 (pv 5)) pad_nil)))).rdo) (blkOk_by (own := [("move", 6), ("fresh", 7)]) (by kernel_rfl)) (fun _ _ _ _ _ => (pg_tup (by rfl) (pgs_cons (pg_name (i := 6) Sc.nd (by rfl) (by first | exact .inl rfl | exact .inr rfl)) (pgs_cons (pg_name (i := 7) Sc.nd (by rfl) (by first | exact .inl rfl | exact .inr rfl)) pgs_nil)))) (fun _ _ _ _ _ => pts_yes) (fun _ _ _ _ _ => (pd_var 7 (pv 7))) (by decide)).frz nd_lc))
  (psd_one (psd_ext 4 (pv 4) (pd_ixg (hu_of hr) (pd_varR 3 (pv 3)) (pd_var 5 (pv 5))).rd))))))
  (psd_one (psd_retV 3 (pv 3))))))
theorem sc_rank : FnScope ["lane", "ways", "stand", "spot"] ["lane", "ways", "stand"] (defScope (top 30)) := ⟨rfl, rfl, rfl, by decide +kernel, rfl, by decide +kernel, by decide +kernel⟩
theorem ok_rank {f : Addr} {fd : FuncData} (F : FnP K "rank" (top 30) f fd) (gF : mg "rank" = some (.ref f)) (m_len : mg "len" = none) (G_left_of : Dok P w K mg base xa 2 "left_of" P_left_of) : Dok P w K mg base xa 3 "rank" P_rank := by
  have Sc := sc_rank
  refine mkDok (k := 2) (N := ["lane", "ways", "stand", "spot"]) (ps := ["lane", "ways", "stand"]) (g := g_rank) F Sc gF (fun _ _ _ _ _ _ us hl => match us, hl with | [_, _, _], _ => rfl) (by decide) (by decide) fun cdv A outer s H E hr => ?_
  exact (psd_one (psd_ret (pd_sub (pd_mul pd_int (pd_call (o := false) (G_left_of.at hr) (takes_of rfl rfl rfl rfl) (by rfl) (pad_e (pd_var 0 (pv 0)) (pad_e (pd_var 1 (pv 1)) (pad_e (pd_var 2 (pv 2)) pad_nil))))) (pd_len (by rfl) m_len (pd_lc (by rfl) Sc.nd (pid_tup (bnd_name 3) (pd_var 2 (pv 2)).rd) (blkOk_by (own := [("spot", 3)]) (by kernel_rfl)) (fun _ _ _ _ _ => (pg_name (i := 3) Sc.nd (by rfl) (by first | exact .inl rfl | exact .inr rfl))) (fun _ _ _ _ _ => (pts_if (pt_eq (hu_of hr) (pd_ixg (hu_of hr) (pd_var 3 (pv 3)).rd pd_int).rd pd_str.rd))) (fun _ _ _ _ _ => (pd_var 3 (pv 3))) (by decide)).rdo))))
theorem sc_all_prices : FnScope ["lane", "ways", "stand", "led", "found", "less", "here", "some", "one", "fresh"] ["lane", "ways", "stand"] (defScope (top 31)) := ⟨rfl, rfl, rfl, by decide +kernel, rfl, by decide +kernel, by decide +kernel⟩
theorem ok_all_prices {f : Addr} {fd : FuncData} (F : FnP K "all_prices" (top 31) f fd) (gF : mg "all_prices" = some (.ref f)) (m_sorted : mg "sorted" = none) (m_min : mg "min" = none) (G_all_reached : Dok P w K mg base xa 4 "all_reached" P_all_reached) (G_rank : Dok P w K mg base xa 3 "rank" P_rank) (G_left_of : Dok P w K mg base xa 2 "left_of" P_left_of) : Dok P w K mg base xa 5 "all_prices" P_all_prices := by
  have Sc := sc_all_prices
  refine mkDok (k := 4) (N := ["lane", "ways", "stand", "led", "found", "less", "here", "some", "one", "fresh"]) (ps := ["lane", "ways", "stand"]) (g := g_all_prices) F Sc gF (fun _ _ _ _ _ _ us hl => match us, hl with | [_, _, _], _ => rfl) (by decide) (by decide) fun cdv A outer s H E hr => ?_
  exact (psd_cons (psd_own 3 Sc.nd (pd_call (o := true) (G_all_reached.at hr) (takes_of rfl rfl rfl rfl) (by rfl) (pad_e (pd_var 0 (pv 0)) (pad_e (pd_var 1 (pv 1)) (pad_e (pd_var 2 (pv 2)) pad_nil)))))
  (psd_cons (psd_own 4 Sc.nd pd_dnew)
  (psd_frz 3 (psd_cons (psd_for (by rfl) (pid_listE (bnd_tup [5, 6]) ((pd_sorted (by rfl) (hu_of hr) (by rfl) m_sorted (pd_lc (by rfl) Sc.nd (pid_dic (bnd_name 8) (pd_var 3 (pv 3))) (blkOk_by (own := [("one", 8)]) (by kernel_rfl)) (fun _ _ _ _ _ => (pg_name (i := 8) Sc.nd (by rfl) (by first | exact .inl rfl | exact .inr rfl))) (fun _ _ _ _ _ => pts_yes) (fun _ _ _ _ _ => (pd_tup (pad_e (pd_call (o := false) (G_rank.at hr) takes0 (by rfl) (pad_e (pd_var 0 (pv 0)) (pad_e (pd_var 1 (pv 1)) (pad_e (pd_var 8 (pv 8)) pad_nil)))) (pad_e (pd_var 8 (pv 8)) pad_nil)))) (by decide)).rdo).frz nd_sorted)) (pg_tup (by rfl) (pgs_cons (pg_name (i := 5) Sc.nd (by rfl) (by first | exact .inl rfl | exact .inr rfl)) (pgs_cons (pg_name (i := 6) Sc.nd (by rfl) (by first | exact .inl rfl | exact .inr rfl)) pgs_nil))) (psd_one (psd_if (pt_eq (hu_of hr) (pd_call (o := false) (G_left_of.at hr) takes0 (by rfl) (pad_e (pd_var 0 (pv 0)) (pad_e (pd_var 1 (pv 1)) (pad_e (pd_var 6 (pv 6)) pad_nil)))).rd pd_int.rd) (psd_one (psd_put 4 (hu_of hr) (pv 4) (pd_var 6 (pv 6)) pd_int)) (psd_cons (psd_setLc 7 (by rfl) Sc.nd (pid_list (bnd_name 9) (pd_ixg (hu_of hr) (pd_var 3 (pv 3)).rd (pd_var 6 (pv 6))).rd) (blkOk_by (own := [("fresh", 9)]) (by kernel_rfl)) (fun _ _ _ _ _ => (pg_name (i := 9) Sc.nd (by rfl) (by first | exact .inl rfl | exact .inr rfl))) (fun _ _ _ _ _ => (pts_if (pt_notN (pd_ixg (hu_of hr) (pd_varR 4 (pv 4)) (pd_var 9 (pv 9))).rd pd_non))) (fun _ _ _ _ _ => (pd_add (pd_ixg (hu_of hr) (pd_varR 4 (pv 4)) (pd_var 9 (pv 9))) pd_int)) (by decide) (by rfl))
  (psd_one (psd_put 4 (hu_of hr) (pv 4) (pd_var 6 (pv 6)) (pd_minN (by rfl) (hu_of hr) (by rfl) m_min (pd_varR 7 (pv 7)))))))))
  (psd_one (psd_retV 4 (pv 4)))))))
theorem sc_reached : FnScope ["lane", "ways", "stand"] ["lane", "ways", "stand"] (defScope (top 32)) := ⟨rfl, rfl, rfl, by decide +kernel, rfl, by decide +kernel, by decide +kernel⟩
theorem ok_reached {f : Addr} {fd : FuncData} (F : FnP K "reached" (top 32) f fd) (gF : mg "reached" = some (.ref f)) (m_list : mg "list" = none) (G_need_stand : Dok P w K mg base xa 3 "need_stand" P_need_stand) (G_all_reached : Dok P w K mg base xa 4 "all_reached" P_all_reached) : Dok P w K mg base xa 5 "reached" P_reached := by
  have Sc := sc_reached
  refine mkDok (k := 4) (N := ["lane", "ways", "stand"]) (ps := ["lane", "ways", "stand"]) (g := g_reached) F Sc gF (fun _ _ _ _ _ _ us hl => match us, hl with | [_, _, _], _ => rfl) (by decide) (by decide) fun cdv A outer s H E hr => ?_
  exact (psd_cons (psd_expr (pd_call (o := false) (G_need_stand.at hr) (takes_of rfl rfl rfl rfl) (by rfl) (pad_e (pd_var 0 (pv 0)) (pad_e (pd_var 1 (pv 1)) (pad_e (pd_var 2 (pv 2)) pad_nil)))))
  (psd_one (psd_retO (pd_listD (by rfl) (by rfl) m_list (pd_call (o := true) (G_all_reached.at hr) (takes_of rfl rfl rfl rfl) (by rfl) (pad_e (pd_var 0 (pv 0)) (pad_e (pd_var 1 (pv 1)) (pad_e (pd_var 2 (pv 2)) pad_nil)))).rdo))))
theorem sc_prices : FnScope ["lane", "ways", "stand"] ["lane", "ways", "stand"] (defScope (top 33)) := ⟨rfl, rfl, rfl, by decide +kernel, rfl, by decide +kernel, by decide +kernel⟩
theorem ok_prices {f : Addr} {fd : FuncData} (F : FnP K "prices" (top 33) f fd) (gF : mg "prices" = some (.ref f)) (m_list : mg "list" = none) (G_need_stand : Dok P w K mg base xa 3 "need_stand" P_need_stand) (G_all_prices : Dok P w K mg base xa 5 "all_prices" P_all_prices) : Dok P w K mg base xa 6 "prices" P_prices := by
  have Sc := sc_prices
  refine mkDok (k := 5) (N := ["lane", "ways", "stand"]) (ps := ["lane", "ways", "stand"]) (g := g_prices) F Sc gF (fun _ _ _ _ _ _ us hl => match us, hl with | [_, _, _], _ => rfl) (by decide) (by decide) fun cdv A outer s H E hr => ?_
  exact (psd_cons (psd_expr (pd_call (o := false) (G_need_stand.at hr) (takes_of rfl rfl rfl rfl) (by rfl) (pad_e (pd_var 0 (pv 0)) (pad_e (pd_var 1 (pv 1)) (pad_e (pd_var 2 (pv 2)) pad_nil)))))
  (psd_one (psd_retO (pd_items (by rfl) (pd_call (o := true) (G_all_prices.at hr) (takes_of rfl rfl rfl rfl) (by rfl) (pad_e (pd_var 0 (pv 0)) (pad_e (pd_var 1 (pv 1)) (pad_e (pd_var 2 (pv 2)) pad_nil)))).rdo (by rfl) m_list))))
theorem sc_least_row : FnScope ["lane", "ways", "stand", "known", "row", "here", "move", "fresh"] ["lane", "ways", "stand"] (defScope (top 34)) := ⟨rfl, rfl, rfl, by decide +kernel, rfl, by decide +kernel, by decide +kernel⟩
theorem ok_least_row {f : Addr} {fd : FuncData} (F : FnP K "least_row" (top 34) f fd) (gF : mg "least_row" = some (.ref f)) (G_need_stand : Dok P w K mg base xa 3 "need_stand" P_need_stand) (G_all_prices : Dok P w K mg base xa 5 "all_prices" P_all_prices) (G_moves_of : Dok P w K mg base xa 3 "moves_of" P_moves_of) : Dok P w K mg base xa 6 "least_row" P_least_row := by
  have Sc := sc_least_row
  refine mkDok (k := 5) (N := ["lane", "ways", "stand", "known", "row", "here", "move", "fresh"]) (ps := ["lane", "ways", "stand"]) (g := g_least_row) F Sc gF (fun _ _ _ _ _ _ us hl => match us, hl with | [_, _, _], _ => rfl) (by decide) (by decide) fun cdv A outer s H E hr => ?_
  exact (psd_cons (psd_expr (pd_call (o := false) (G_need_stand.at hr) (takes_of rfl rfl rfl rfl) (by rfl) (pad_e (pd_var 0 (pv 0)) (pad_e (pd_var 1 (pv 1)) (pad_e (pd_var 2 (pv 2)) pad_nil)))))
  (psd_cons (psd_own 3 Sc.nd (pd_call (o := true) (G_all_prices.at hr) (takes_of rfl rfl rfl rfl) (by rfl) (pad_e (pd_var 0 (pv 0)) (pad_e (pd_var 1 (pv 1)) (pad_e (pd_var 2 (pv 2)) pad_nil)))))
  (psd_cons (psd_if (pt_isN (pd_ixg (hu_of hr) (pd_varR 3 (pv 3)) (pd_var 2 (pv 2))).rd pd_non) (psd_one (psd_ret pd_non)) psd_nil)
  (psd_cons (psd_own 4 Sc.nd (pd_lst pad_nil))
  (psd_cons (psd_set 5 Sc.nd (pd_var 2 (pv 2)))
  (psd_cons (psd_while 1000 (pt_gt (pd_ixg (hu_of hr) (pd_varR 3 (pv 3)) (pd_var 5 (pv 5))) pd_int) (psd_one (psd_for (by rfl) (pid_listE (bnd_tup [6, 7]) ((pd_noD (pd_call (o := true) (G_moves_of.at hr) takes0 (by rfl) (pad_e (pd_var 0 (pv 0)) (pad_e (pd_var 1 (pv 1)) (pad_e (pd_var 5 (pv 5)) pad_nil))))).frz nd_noD)) (pg_tup (by rfl) (pgs_cons (pg_name (i := 6) Sc.nd (by rfl) (by first | exact .inl rfl | exact .inr rfl)) (pgs_cons (pg_name (i := 7) Sc.nd (by rfl) (by first | exact .inl rfl | exact .inr rfl)) pgs_nil))) (psd_one (psd_if (pt_eq (hu_of hr) (pd_ixg (hu_of hr) (pd_varR 3 (pv 3)) (pd_var 7 (pv 7))).rd (pd_sub (pd_ixg (hu_of hr) (pd_varR 3 (pv 3)) (pd_var 5 (pv 5))) pd_int).rd) (psd_cons (psd_app 4 (pv 4) (pd_var 6 (pv 6)))
  (psd_cons (psd_set 5 Sc.nd (pd_var 7 (pv 7)))
  (psd_one psd_brk))) psd_nil)))))
  (psd_one (psd_retV 4 (pv 4)))))))))
theorem sc_closed : FnScope ["lane", "ways", "stand", "known"] ["lane", "ways", "stand"] (defScope (top 35)) := ⟨rfl, rfl, rfl, by decide +kernel, rfl, by decide +kernel, by decide +kernel⟩
theorem ok_closed {f : Addr} {fd : FuncData} (F : FnP K "closed" (top 35) f fd) (gF : mg "closed" = some (.ref f)) (m_list : mg "list" = none) (G_need_stand : Dok P w K mg base xa 3 "need_stand" P_need_stand) (G_all_prices : Dok P w K mg base xa 5 "all_prices" P_all_prices) : Dok P w K mg base xa 6 "closed" P_closed := by
  have Sc := sc_closed
  refine mkDok (k := 5) (N := ["lane", "ways", "stand", "known"]) (ps := ["lane", "ways", "stand"]) (g := g_closed) F Sc gF (fun _ _ _ _ _ _ us hl => match us, hl with | [_, _, _], _ => rfl) (by decide) (by decide) fun cdv A outer s H E hr => ?_
  exact (psd_cons (psd_expr (pd_call (o := false) (G_need_stand.at hr) (takes_of rfl rfl rfl rfl) (by rfl) (pad_e (pd_var 0 (pv 0)) (pad_e (pd_var 1 (pv 1)) (pad_e (pd_var 2 (pv 2)) pad_nil)))))
  (psd_cons (psd_own 3 Sc.nd (pd_call (o := true) (G_all_prices.at hr) (takes_of rfl rfl rfl rfl) (by rfl) (pad_e (pd_var 0 (pv 0)) (pad_e (pd_var 1 (pv 1)) (pad_e (pd_var 2 (pv 2)) pad_nil)))))
  (psd_cons (psd_if (pt_notN (pd_ixg (hu_of hr) (pd_varR 3 (pv 3)) (pd_var 2 (pv 2))).rd pd_non) (psd_one (psd_ret pd_non)) psd_nil)
  (psd_one (psd_retO (pd_listD (by rfl) (by rfl) m_list (pd_varR 3 (pv 3))))))))
theorem sc_turned_lane : FnScope ["lane"] ["lane"] (defScope (top 38)) := ⟨rfl, rfl, rfl, by decide +kernel, rfl, by decide +kernel, by decide +kernel⟩
theorem ok_turned_lane {f : Addr} {fd : FuncData} (F : FnP K "turned_lane" (top 38) f fd) (gF : mg "turned_lane" = some (.ref f)) (m_list : mg "list" = none) (m_reversed : mg "reversed" = none) (G_need_lane : Dok P w K mg base xa 2 "need_lane" P_need_lane) : Dok P w K mg base xa 3 "turned_lane" P_turned_lane := by
  have Sc := sc_turned_lane
  refine mkDok (k := 2) (N := ["lane"]) (ps := ["lane"]) (g := g_turned_lane) F Sc gF (fun _ _ _ _ _ _ us hl => match us, hl with | [_], _ => rfl) (by decide) (by decide) fun cdv A outer s H E hr => ?_
  exact (psd_cons (psd_expr (pd_call (o := false) (G_need_lane.at hr) (takes_of rfl rfl rfl rfl) (by rfl) (pad_e (pd_var 0 (pv 0)) pad_nil)))
  (psd_one (psd_retO (pd_lstRev (by rfl) (by rfl) m_list (by rfl) m_reversed (pd_var 0 (pv 0)).rd))))
theorem sc_turned_ways : FnScope ["ways", "way"] ["ways"] (defScope (top 39)) := ⟨rfl, rfl, rfl, by decide +kernel, rfl, by decide +kernel, by decide +kernel⟩
theorem ok_turned_ways {f : Addr} {fd : FuncData} (F : FnP K "turned_ways" (top 39) f fd) (gF : mg "turned_ways" = some (.ref f)) (G_need_ways : Dok P w K mg base xa 1 "need_ways" P_need_ways) : Dok P w K mg base xa 2 "turned_ways" P_turned_ways := by
  have Sc := sc_turned_ways
  refine mkDok (k := 1) (N := ["ways", "way"]) (ps := ["ways"]) (g := g_turned_ways) F Sc gF (fun _ _ _ _ _ _ us hl => match us, hl with | [_], _ => rfl) (by decide) (by decide) fun cdv A outer s H E hr => ?_
  exact (psd_cons (psd_expr (pd_call (o := false) (G_need_ways.at hr) (takes_of rfl rfl rfl rfl) (by rfl) (pad_e (pd_var 0 (pv 0)) pad_nil)))
  (psd_one (psd_retO (pd_lc (by rfl) Sc.nd (pid_list (bnd_name 1) (pd_var 0 (pv 0)).rd) (blkOk_by (own := [("way", 1)]) (by kernel_rfl)) (fun _ _ _ _ _ => (pg_name (i := 1) Sc.nd (by rfl) (by first | exact .inl rfl | exact .inr rfl))) (fun _ _ _ _ _ => pts_yes) (fun _ _ _ _ _ => (pd_if (pt_eq (hu_of hr) (pd_var 1 (pv 1)).rd pd_str.rd) pd_str pd_str)) (by decide)))))
theorem sc_turned_spot : FnScope ["lane", "spot"] ["lane", "spot"] (defScope (top 40)) := ⟨rfl, rfl, rfl, by decide +kernel, rfl, by decide +kernel, by decide +kernel⟩
theorem ok_turned_spot {f : Addr} {fd : FuncData} (F : FnP K "turned_spot" (top 40) f fd) (gF : mg "turned_spot" = some (.ref f)) (m_len : mg "len" = none) : Dok P w K mg base xa 1 "turned_spot" P_turned_spot := by
  have Sc := sc_turned_spot
  refine mkDok (k := 0) (N := ["lane", "spot"]) (ps := ["lane", "spot"]) (g := g_turned_spot) F Sc gF (fun _ _ _ _ _ _ us hl => match us, hl with | [_, _], _ => rfl) (by decide) (by decide) fun cdv A outer s H E hr => ?_
  exact (psd_cons (psd_if (pt_eq (hu_of hr) (pd_ixg (hu_of hr) (pd_var 1 (pv 1)).rd pd_int).rd pd_str.rd) (psd_one (psd_ret (pd_var 1 (pv 1)))) psd_nil)
  (psd_one (psd_ret (pd_tup (pad_e (pd_ixg (hu_of hr) (pd_var 1 (pv 1)).rd pd_int) (pad_e (pd_sub (pd_sub (pd_len (by rfl) m_len (pd_var 0 (pv 0)).rd) pd_int) (pd_ixg (hu_of hr) (pd_var 1 (pv 1)).rd pd_int)) pad_nil))))))
theorem sc_turned_stand : FnScope ["lane", "stand", "spot"] ["lane", "stand"] (defScope (top 41)) := ⟨rfl, rfl, rfl, by decide +kernel, rfl, by decide +kernel, by decide +kernel⟩
theorem ok_turned_stand {f : Addr} {fd : FuncData} (F : FnP K "turned_stand" (top 41) f fd) (gF : mg "turned_stand" = some (.ref f)) (m_tuple : mg "tuple" = none) (G_need_lane : Dok P w K mg base xa 2 "need_lane" P_need_lane) (G_turned_spot : Dok P w K mg base xa 1 "turned_spot" P_turned_spot) : Dok P w K mg base xa 3 "turned_stand" P_turned_stand := by
  have Sc := sc_turned_stand
  refine mkDok (k := 2) (N := ["lane", "stand", "spot"]) (ps := ["lane", "stand"]) (g := g_turned_stand) F Sc gF (fun _ _ _ _ _ _ us hl => match us, hl with | [_, _], _ => rfl) (by decide) (by decide) fun cdv A outer s H E hr => ?_
  exact (psd_cons (psd_expr (pd_call (o := false) (G_need_lane.at hr) (takes_of rfl rfl rfl rfl) (by rfl) (pad_e (pd_var 0 (pv 0)) pad_nil)))
  (psd_one (psd_ret (pd_tuple1 (by rfl) m_tuple (pd_lc (by rfl) Sc.nd (pid_tup (bnd_name 2) (pd_var 1 (pv 1)).rd) (blkOk_by (own := [("spot", 2)]) (by kernel_rfl)) (fun _ _ _ _ _ => (pg_name (i := 2) Sc.nd (by rfl) (by first | exact .inl rfl | exact .inr rfl))) (fun _ _ _ _ _ => pts_yes) (fun _ _ _ _ _ => (pd_call (o := false) (G_turned_spot.at hr) takes0 (by rfl) (pad_e (pd_var 0 (pv 0)) (pad_e (pd_var 2 (pv 2)) pad_nil)))) (by decide)).rdo))))
theorem sc__law_cell_at : FnScope ["_law_script", "_law_k"] ["_law_script", "_law_k"] (defScope (top 45)) := ⟨rfl, rfl, rfl, by decide +kernel, rfl, by decide +kernel, by decide +kernel⟩
theorem ok__law_cell_at {f : Addr} {fd : FuncData} (F : FnP K "_law_cell_at" (top 45) f fd) (gF : mg "_law_cell_at" = some (.ref f)) (m_len : mg "len" = none) : Dok P w K mg base xa 1 "_law_cell_at" P_l_cell_at := by
  have Sc := sc__law_cell_at
  refine mkDok (k := 0) (N := ["_law_script", "_law_k"]) (ps := ["_law_script", "_law_k"]) (g := g_l_cell_at) F Sc gF (fun _ _ _ _ _ _ us hl => match us, hl with | [_, _], _ => rfl) (by decide) (by decide) fun cdv A outer s H E hr => ?_
  exact (psd_cons (psd_if (pt_lt (pd_var 1 (pv 1)) (pd_len (by rfl) m_len (pd_var 0 (pv 0)).rd)) (psd_one (psd_ret (pd_ixg (hu_of hr) (pd_var 0 (pv 0)).rd (pd_var 1 (pv 1))))) psd_nil)
  (psd_one (psd_ret pd_int)))
theorem sc__law_mixed : FnScope ["_law_script", "_law_k", "_law_first"] ["_law_script", "_law_k"] (defScope (top 46)) := ⟨rfl, rfl, rfl, by decide +kernel, rfl, by decide +kernel, by decide +kernel⟩
theorem ok__law_mixed {f : Addr} {fd : FuncData} (F : FnP K "_law_mixed" (top 46) f fd) (gF : mg "_law_mixed" = some (.ref f)) (G__law_cell_at : Dok P w K mg base xa 1 "_law_cell_at" P_l_cell_at) : Dok P w K mg base xa 2 "_law_mixed" P_l_mixed := by
  have Sc := sc__law_mixed
  refine mkDok (k := 1) (N := ["_law_script", "_law_k", "_law_first"]) (ps := ["_law_script", "_law_k"]) (g := g_l_mixed) F Sc gF (fun _ _ _ _ _ _ us hl => match us, hl with | [_, _], _ => rfl) (by decide) (by decide) fun cdv A outer s H E hr => ?_
  exact (psd_cons (psd_set 2 Sc.nd (pd_add (pd_call (o := false) (G__law_cell_at.at hr) (takes_of rfl rfl rfl rfl) (by rfl) (pad_e (pd_var 0 (pv 0)) (pad_e pd_int pad_nil))) (pd_mul pd_int (pd_call (o := false) (G__law_cell_at.at hr) (takes_of rfl rfl rfl rfl) (by rfl) (pad_e (pd_var 0 (pv 0)) (pad_e pd_int pad_nil))))))
  (psd_one (psd_ret (pd_div (pd_mod (pd_mul (pd_mod (pd_add (pd_add (pd_call (o := false) (G__law_cell_at.at hr) (takes_of rfl rfl rfl rfl) (by rfl) (pad_e (pd_var 0 (pv 0)) (pad_e (pd_var 1 (pv 1)) pad_nil))) (pd_mul (pd_var 2 (pv 2)) (pd_add (pd_var 1 (pv 1)) pd_int))) (pd_mul pd_int (pd_var 1 (pv 1)))) pd_int) pd_int) pd_int) pd_int))))
theorem sc__law_spot : FnScope ["_law_lane", "_law_stand", "_law_cell", "_law_spots", "_law_k", "_law_spot_here", "_law_place"] ["_law_lane", "_law_stand", "_law_cell"] (defScope (top 47)) := ⟨rfl, rfl, rfl, by decide +kernel, rfl, by decide +kernel, by decide +kernel⟩
theorem ok__law_spot {f : Addr} {fd : FuncData} (F : FnP K "_law_spot" (top 47) f fd) (gF : mg "_law_spot" = some (.ref f)) (m_len : mg "len" = none) (m_range : mg "range" = none) : Dok P w K mg base xa 1 "_law_spot" P_l_spot := by
  have Sc := sc__law_spot
  refine mkDok (k := 0) (N := ["_law_lane", "_law_stand", "_law_cell", "_law_spots", "_law_k", "_law_spot_here", "_law_place"]) (ps := ["_law_lane", "_law_stand", "_law_cell"]) (g := g_l_spot) F Sc gF (fun _ _ _ _ _ _ us hl => match us, hl with | [_, _, _], _ => rfl) (by decide) (by decide) fun cdv A outer s H E hr => ?_
  exact (psd_cons (psd_set 3 Sc.nd ((pd_catL (pd_lc (by rfl) Sc.nd (pid_rng (bnd_name 6) (by rfl) m_range (pd_len (by rfl) m_len (pd_var 0 (pv 0)).rd)) (blkOk_by (own := [("_law_place", 6)]) (by kernel_rfl)) (fun _ _ _ _ _ => (pg_name (i := 6) Sc.nd (by rfl) (by first | exact .inl rfl | exact .inr rfl))) (fun _ _ _ _ _ => pts_yes) (fun _ _ _ _ _ => (pd_tup (pad_e pd_str (pad_e (pd_var 6 (pv 6)) pad_nil)))) (by decide)).rdo (pd_lc (by rfl) Sc.nd (pid_rng (bnd_name 6) (by rfl) m_range (pd_len (by rfl) m_len (pd_var 0 (pv 0)).rd)) (blkOk_by (own := [("_law_place", 6)]) (by kernel_rfl)) (fun _ _ _ _ _ => (pg_name (i := 6) Sc.nd (by rfl) (by first | exact .inl rfl | exact .inr rfl))) (fun _ _ _ _ _ => pts_yes) (fun _ _ _ _ _ => (pd_tup (pad_e pd_str (pad_e (pd_var 6 (pv 6)) pad_nil)))) (by decide)).rdo).frz nd_cat))
  (psd_cons (psd_if (pt_eq (hu_of hr) (pd_mod (pd_div (pd_var 2 (pv 2)) pd_int) pd_int).rd pd_int.rd) (psd_one (psd_ret (pd_tup (pad_e pd_str pad_nil)))) psd_nil)
  (psd_cons (psd_for (by rfl) (pid_rng (bnd_name 4) (by rfl) m_range (pd_len (by rfl) m_len (pd_var 3 (pv 3)).rd)) (pg_name (i := 4) Sc.nd (by rfl) (by first | exact .inl rfl | exact .inr rfl)) (psd_cons (psd_set 5 Sc.nd (pd_ixg (hu_of hr) (pd_var 3 (pv 3)).rd (pd_mod (pd_add (pd_var 2 (pv 2)) (pd_var 4 (pv 4))) (pd_len (by rfl) m_len (pd_var 3 (pv 3)).rd))))
  (psd_one (psd_if (pt_w (pwd_or (pt_w (pwd_and (pt_eq (hu_of hr) (pd_ixg (hu_of hr) (pd_var 5 (pv 5)).rd pd_int).rd pd_str.rd) (pw1_and (pt_nin (hu_of hr) (pd_var 5 (pv 5)) (pd_var 1 (pv 1)).rd (by rfl))))) (pw1_or (pt_w (pwd_and (pt_eq (hu_of hr) (pd_ixg (hu_of hr) (pd_var 5 (pv 5)).rd pd_int).rd pd_str.rd) (pw1_and (pt_lt (pd_countL (hu_of hr) (pd_var 1 (pv 1)).rd (pd_var 5 (pv 5)).rd) (pd_ixg (hu_of hr) (pd_var 0 (pv 0)).rd (pd_ixg (hu_of hr) (pd_var 5 (pv 5)).rd pd_int))))))))) (psd_one (psd_ret (pd_var 5 (pv 5)))) psd_nil))))
  (psd_one (psd_ret (pd_tup (pad_e pd_str pad_nil)))))))
theorem sc__law_built : FnScope ["_law_script", "_law_first", "_law_second", "_law_many", "_law_trains", "_law_rooms", "_law_lane", "_law_ways", "_law_stand", "_law_k", "_law_cell"] ["_law_script"] (defScope (top 48)) := ⟨rfl, rfl, rfl, by decide +kernel, rfl, by decide +kernel, by decide +kernel⟩
theorem ok__law_built {f : Addr} {fd : FuncData} (F : FnP K "_law_built" (top 48) f fd) (gF : mg "_law_built" = some (.ref f)) (m_int : mg "int" = none) (m_range : mg "range" = none) (m_tuple : mg "tuple" = none) (G__law_cell_at : Dok P w K mg base xa 1 "_law_cell_at" P_l_cell_at) (G__law_mixed : Dok P w K mg base xa 2 "_law_mixed" P_l_mixed) (G__law_spot : Dok P w K mg base xa 1 "_law_spot" P_l_spot) : Dok P w K mg base xa 3 "_law_built" P_l_built := by
  have Sc := sc__law_built
  refine mkDok (k := 2) (N := ["_law_script", "_law_first", "_law_second", "_law_many", "_law_trains", "_law_rooms", "_law_lane", "_law_ways", "_law_stand", "_law_k", "_law_cell"]) (ps := ["_law_script"]) (g := g_l_built) F Sc gF (fun _ _ _ _ _ _ us hl => match us, hl with | [_], _ => rfl) (by decide) (by decide) fun cdv A outer s H E hr => ?_
  exact (psd_cons (psd_set 1 Sc.nd (pd_call (o := false) (G__law_cell_at.at hr) (takes_of rfl rfl rfl rfl) (by rfl) (pad_e (pd_var 0 (pv 0)) (pad_e pd_int pad_nil))))
  (psd_cons (psd_set 2 Sc.nd (pd_call (o := false) (G__law_cell_at.at hr) (takes_of rfl rfl rfl rfl) (by rfl) (pad_e (pd_var 0 (pv 0)) (pad_e pd_int pad_nil))))
  (psd_cons (psd_set 3 Sc.nd (pd_add pd_int (pd_mod (pd_var 1 (pv 1)) pd_int)))
  (psd_cons (psd_set 4 Sc.nd (pd_add pd_int (pd_mod (pd_var 2 (pv 2)) pd_int)))
  (psd_cons (psd_if (pt_eq (hu_of hr) (pd_mod (pd_div (pd_var 1 (pv 1)) pd_int) pd_int).rd pd_int.rd) (psd_cons (psd_set 3 Sc.nd (pd_add pd_int (pd_mod (pd_div (pd_var 1 (pv 1)) pd_int) pd_int)))
  (psd_one (psd_set 4 Sc.nd (pd_add pd_int (pd_mod (pd_var 2 (pv 2)) pd_int))))) psd_nil)
  (psd_cons (psd_if (pt_eq (hu_of hr) (pd_mod (pd_div (pd_var 1 (pv 1)) pd_int) pd_int).rd pd_int.rd) (psd_cons (psd_set 3 Sc.nd (pd_add pd_int (pd_mod (pd_div (pd_var 1 (pv 1)) pd_int) pd_int)))
  (psd_one (psd_set 4 Sc.nd (pd_add pd_int (pd_mod (pd_var 2 (pv 2)) pd_int))))) psd_nil)
  (psd_cons (psd_set 5 Sc.nd (pd_ixg (hu_of hr) (pd_lst (pad_e ((pd_lst (pad_e pd_int (pad_e pd_int (pad_e pd_int (pad_e pd_int (pad_e pd_int (pad_e pd_int (pad_e pd_int (pad_e pd_int pad_nil))))))))).frz nd_lst) (pad_e ((pd_lst (pad_e pd_int (pad_e pd_int (pad_e pd_int (pad_e pd_int (pad_e pd_int (pad_e pd_int (pad_e pd_int (pad_e pd_int pad_nil))))))))).frz nd_lst) pad_nil))).rdo (pd_int1 (by rfl) m_int (pd_gt (pd_mod (pd_div (pd_var 2 (pv 2)) pd_int) pd_int) pd_int))))
  (psd_cons (psd_setLc 6 (by rfl) Sc.nd (pid_rng (bnd_name 9) (by rfl) m_range (pd_var 3 (pv 3))) (blkOk_by (own := [("_law_k", 9)]) (by kernel_rfl)) (fun _ _ _ _ _ => (pg_name (i := 9) Sc.nd (by rfl) (by first | exact .inl rfl | exact .inr rfl))) (fun _ _ _ _ _ => pts_yes) (fun _ _ _ _ _ => (pd_ixg (hu_of hr) (pd_var 5 (pv 5)).rd (pd_mod (pd_call (o := false) (G__law_mixed.at hr) takes0 (by rfl) (pad_e (pd_var 0 (pv 0)) (pad_e (pd_add pd_int (pd_var 9 (pv 9))) pad_nil))) pd_int))) (by decide) (by rfl))
  (psd_cons (psd_own 7 Sc.nd (pd_lst pad_nil))
  (psd_cons (psd_own 8 Sc.nd (pd_lst pad_nil))
  (psd_cons (psd_for (by rfl) (pid_rng (bnd_name 9) (by rfl) m_range (pd_var 4 (pv 4))) (pg_name (i := 9) Sc.nd (by rfl) (by first | exact .inl rfl | exact .inr rfl)) (psd_cons (psd_set 10 Sc.nd (pd_call (o := false) (G__law_mixed.at hr) takes0 (by rfl) (pad_e (pd_var 0 (pv 0)) (pad_e (pd_add pd_int (pd_var 9 (pv 9))) pad_nil))))
  (psd_cons (psd_app 7 (pv 7) (pd_ixg (hu_of hr) (pd_lst (pad_e pd_str (pad_e pd_str pad_nil))).rdo (pd_mod (pd_var 10 (pv 10)) pd_int)))
  (psd_one (psd_app 8 (pv 8) (pd_callR (G__law_spot.at hr) takes0 (by rfl) (pad_v ((pd_noD (pd_varR 6 (pv 6))).rv nd_noD) (pad_v ((pd_noD (pd_varR 8 (pv 8))).rv nd_noD) (pad_v (pd_div (pd_var 10 (pv 10)) pd_int).ev pad_nil)))))))))
  (psd_frz 6 (psd_frz 7 (psd_one (psd_ret (pd_tup (pad_e (pd_var 6 (pv 6)) (pad_e (pd_var 7 (pv 7)) (pad_e (pd_tuple1 (by rfl) m_tuple (pd_varR 8 (pv 8))) pad_nil)))))))))))))))))))
theorem sc__law_kind : FnScope ["_law_e", "_law_some", "_law_word", "_law_fits"] ["_law_e"] (defScope (top 49)) := ⟨rfl, rfl, rfl, by decide +kernel, rfl, by decide +kernel, by decide +kernel⟩
theorem ok__law_kind {f : Addr} {fd : FuncData} (F : FnP K "_law_kind" (top 49) f fd) (gF : mg "_law_kind" = some (.ref f)) (m_isinstance : mg "isinstance" = none) (m_ValueError : mg "ValueError" = none) (m_int : mg "int" = none) (O_BadLane : XcOk K mg xa "BadLane" .lane) (O_BadWays : XcOk K mg xa "BadWays" .ways) (O_BadStand : XcOk K mg xa "BadStand" .stand) (O_NoMove : XcOk K mg xa "NoMove" .move) (O_NoPlace : XcOk K mg xa "NoPlace" .place) (O_ex : ExOk K xa) : FokK P w K mg base xa 1 "_law_kind" kindD := by
  have Sc := sc__law_kind
  refine mkKind (k := 0) (N := ["_law_e", "_law_some", "_law_word", "_law_fits"]) (ps := ["_law_e"]) (g := g_l_kind) F Sc gF (fun _ _ _ _ _ _ us hl => match us, hl with | [_], _ => rfl) rfl (by decide) (by decide) (fun c cdv A outer s H E p hr hh => ?_) (fun c => by cases c <;> rfl)
  exact (psd_cons (psd_set 1 Sc.nd ((pd_lst (pad_e (pd_tup (pad_e pd_str (pad_e (pd_isX O_ex hh.c (by rfl) m_isinstance (pd_var 0 (pv 0)) (by rfl) O_BadLane) pad_nil))) (pad_e (pd_tup (pad_e pd_str (pad_e (pd_isX O_ex hh.c (by rfl) m_isinstance (pd_var 0 (pv 0)) (by rfl) O_BadWays) pad_nil))) (pad_e (pd_tup (pad_e pd_str (pad_e (pd_isX O_ex hh.c (by rfl) m_isinstance (pd_var 0 (pv 0)) (by rfl) O_BadStand) pad_nil))) pad_nil)))).frz nd_lst))
  (psd_cons (psd_set 1 Sc.nd ((pd_catL (pd_var 1 (pv 1)).rd (pd_lst (pad_e (pd_tup (pad_e pd_str (pad_e (pd_isX O_ex hh.c (by rfl) m_isinstance (pd_var 0 (pv 0)) (by rfl) O_NoMove) pad_nil))) (pad_e (pd_tup (pad_e pd_str (pad_e (pd_isX O_ex hh.c (by rfl) m_isinstance (pd_var 0 (pv 0)) (by rfl) O_NoPlace) pad_nil))) pad_nil))).rdo).frz nd_cat))
  (psd_one (psd_retO (pd_catL (pd_lcH hh.c.hot Sc.nd (pid_listH (bnd_tup [2, 3]) (pd_var 1 (pv 1)).rd) (blkOk_by (own := [("_law_word", 2), ("_law_fits", 3)]) (by kernel_rfl)) (fun _ _ _ _ _ hhb => (pg_tupH hhb (pgs_cons (pg_name (i := 2) Sc.nd (by rfl) (by first | exact .inl rfl | exact .inr rfl)) (pgs_cons (pg_name (i := 3) Sc.nd (by rfl) (by first | exact .inl rfl | exact .inr rfl)) pgs_nil)))) (fun _ _ _ _ _ => (pts_if (pt_v (pd_var 3 (pv 3))))) (fun _ _ _ _ _ => (pd_var 2 (pv 2))) (by decide)).rdo (pd_repL (pd_lst (pad_e pd_str pad_nil)).rdo (pd_int1 (by rfl) m_int (pd_isV O_ex hh.c (by rfl) m_isinstance (pd_var 0 (pv 0)) (by rfl) m_ValueError))).rdo)))))
theorem sc__law_number : FnScope ["_law_cell", "_law_far"] ["_law_cell"] (defScope (top 50)) := ⟨rfl, rfl, rfl, by decide +kernel, rfl, by decide +kernel, by decide +kernel⟩
theorem ok__law_number {f : Addr} {fd : FuncData} (F : FnP K "_law_number" (top 50) f fd) (gF : mg "_law_number" = some (.ref f)) : Dok P w K mg base xa 1 "_law_number" P_l_number := by
  have Sc := sc__law_number
  refine mkDok (k := 0) (N := ["_law_cell", "_law_far"]) (ps := ["_law_cell"]) (g := g_l_number) F Sc gF (fun _ _ _ _ _ _ us hl => match us, hl with | [_], _ => rfl) (by decide) (by decide) fun cdv A outer s H E hr => ?_
  exact (psd_cons (psd_set 1 Sc.nd (pd_mod (pd_div (pd_var 0 (pv 0)) pd_int) (pd_pow pd_int pd_int)))
  (psd_one (psd_ret (pd_ixg (hu_of hr) (pd_lst (pad_e (pd_neg pd_int) (pad_e pd_int (pad_e (pd_add pd_int (pd_var 1 (pv 1))) (pad_e (pd_sub (pd_neg pd_int) (pd_var 1 (pv 1))) (pad_e pd_bl (pad_e pd_non (pad_e pd_str (pad_e ((pd_lst (pad_e pd_int pad_nil)).frz nd_lst) pad_nil))))))))).rdo (pd_mod (pd_var 0 (pv 0)) pd_int)))))
theorem sc__law_bad_lane : FnScope ["_law_lane", "_law_cell", "_law_at"] ["_law_lane", "_law_cell"] (defScope (top 51)) := ⟨rfl, rfl, rfl, by decide +kernel, rfl, by decide +kernel, by decide +kernel⟩
theorem ok__law_bad_lane {f : Addr} {fd : FuncData} (F : FnP K "_law_bad_lane" (top 51) f fd) (gF : mg "_law_bad_lane" = some (.ref f)) (m_len : mg "len" = none) (m_tuple : mg "tuple" = none) (G__law_number : Dok P w K mg base xa 1 "_law_number" P_l_number) : Dok P w K mg base xa 2 "_law_bad_lane" P_l_bad_lane := by
  have Sc := sc__law_bad_lane
  refine mkDok (k := 1) (N := ["_law_lane", "_law_cell", "_law_at"]) (ps := ["_law_lane", "_law_cell"]) (g := g_l_bad_lane) F Sc gF (fun _ _ _ _ _ _ us hl => match us, hl with | [_, _], _ => rfl) (by decide) (by decide) fun cdv A outer s H E hr => ?_
  exact (psd_cons (psd_set 2 Sc.nd (pd_mod (pd_div (pd_var 1 (pv 1)) pd_int) (pd_len (by rfl) m_len (pd_var 0 (pv 0)).rd)))
  (psd_cons (psd_if (pt_lt (pd_mod (pd_var 1 (pv 1)) pd_int) pd_int) (psd_one (psd_ret ((pd_catL (pd_catL (pd_slL (pd_var 0 (pv 0)).rd pod_none (pod_some (pd_var 2 (pv 2)))).rdo (pd_lst (pad_e (pd_call (o := false) (G__law_number.at hr) (takes_of rfl rfl rfl rfl) (by rfl) (pad_e (pd_div (pd_var 1 (pv 1)) pd_int) pad_nil)) pad_nil)).rdo).rdo (pd_slL (pd_var 0 (pv 0)).rd (pod_some (pd_add (pd_var 2 (pv 2)) pd_int)) pod_none).rdo).frz nd_cat))) psd_nil)
  (psd_cons (psd_if (pt_eq (hu_of hr) (pd_mod (pd_var 1 (pv 1)) pd_int).rd pd_int.rd) (psd_one (psd_ret (pd_ixg (hu_of hr) (pd_lst (pad_e ((pd_lst pad_nil).frz nd_lst) (pad_e ((pd_catL (pd_var 0 (pv 0)).rd (pd_repL (pd_lst (pad_e pd_int pad_nil)).rdo (pd_sub pd_int (pd_len (by rfl) m_len (pd_var 0 (pv 0)).rd))).rdo).frz nd_cat) (pad_e ((pd_catL (pd_var 0 (pv 0)).rd (pd_repL (pd_lst (pad_e pd_int pad_nil)).rdo pd_int).rdo).frz nd_cat) pad_nil)))).rdo (pd_mod (pd_div (pd_var 1 (pv 1)) pd_int) pd_int)))) psd_nil)
  (psd_one (psd_ret (pd_ixg (hu_of hr) (pd_lst (pad_e (pd_tuple1 (by rfl) m_tuple (pd_var 0 (pv 0)).rd) (pad_e pd_non (pad_e pd_str (pad_e pd_int (pad_e (pd_dk1 (key := .inl 0) (v := .int 1) pe_int pe_int (fun _ _ => .int 1)) pad_nil)))))).rdo (pd_mod (pd_div (pd_var 1 (pv 1)) pd_int) pd_int)))))))
theorem sc__law_bad_ways : FnScope ["_law_ways", "_law_cell", "_law_at", "_law_odd"] ["_law_ways", "_law_cell"] (defScope (top 52)) := ⟨rfl, rfl, rfl, by decide +kernel, rfl, by decide +kernel, by decide +kernel⟩
theorem ok__law_bad_ways {f : Addr} {fd : FuncData} (F : FnP K "_law_bad_ways" (top 52) f fd) (gF : mg "_law_bad_ways" = some (.ref f)) (m_len : mg "len" = none) (m_tuple : mg "tuple" = none) : Dok P w K mg base xa 1 "_law_bad_ways" P_l_bad_ways := by
  have Sc := sc__law_bad_ways
  refine mkDok (k := 0) (N := ["_law_ways", "_law_cell", "_law_at", "_law_odd"]) (ps := ["_law_ways", "_law_cell"]) (g := g_l_bad_ways) F Sc gF (fun _ _ _ _ _ _ us hl => match us, hl with | [_, _], _ => rfl) (by decide) (by decide) fun cdv A outer s H E hr => ?_
  exact (psd_cons (psd_set 2 Sc.nd (pd_mod (pd_div (pd_var 1 (pv 1)) pd_int) (pd_len (by rfl) m_len (pd_var 0 (pv 0)).rd)))
  (psd_cons (psd_if (pt_lt (pd_mod (pd_var 1 (pv 1)) pd_int) pd_int) (psd_cons (psd_set 3 Sc.nd (pd_ixg (hu_of hr) (pd_lst (pad_e pd_str (pad_e pd_str (pad_e pd_str (pad_e pd_str (pad_e pd_bl (pad_e pd_non (pad_e pd_int (pad_e ((pd_lst (pad_e pd_str pad_nil)).frz nd_lst) (pad_e pd_str pad_nil)))))))))).rdo (pd_mod (pd_div (pd_var 1 (pv 1)) pd_int) pd_int)))
  (psd_one (psd_ret ((pd_catL (pd_catL (pd_slL (pd_var 0 (pv 0)).rd pod_none (pod_some (pd_var 2 (pv 2)))).rdo (pd_lst (pad_e (pd_var 3 (pv 3)) pad_nil)).rdo).rdo (pd_slL (pd_var 0 (pv 0)).rd (pod_some (pd_add (pd_var 2 (pv 2)) pd_int)) pod_none).rdo).frz nd_cat)))) psd_nil)
  (psd_cons (psd_if (pt_eq (hu_of hr) (pd_mod (pd_var 1 (pv 1)) pd_int).rd pd_int.rd) (psd_one (psd_ret (pd_ixg (hu_of hr) (pd_lst (pad_e ((pd_lst pad_nil).frz nd_lst) (pad_e ((pd_catL (pd_var 0 (pv 0)).rd (pd_repL (pd_lst (pad_e pd_str pad_nil)).rdo (pd_sub pd_int (pd_len (by rfl) m_len (pd_var 0 (pv 0)).rd))).rdo).frz nd_cat) pad_nil))).rdo (pd_mod (pd_div (pd_var 1 (pv 1)) pd_int) pd_int)))) psd_nil)
  (psd_one (psd_ret (pd_ixg (hu_of hr) (pd_lst (pad_e (pd_tuple1 (by rfl) m_tuple (pd_var 0 (pv 0)).rd) (pad_e pd_non (pad_e pd_str (pad_e pd_int (pad_e (pd_dk1 (key := .inr "right") (v := .int 1) pe_str pe_int (fun _ _ => .int 1)) pad_nil)))))).rdo (pd_mod (pd_div (pd_var 1 (pv 1)) pd_int) pd_int)))))))
theorem sc__law_bad_spots : FnScope ["_law_lane", "_law_more", "_law_spots"] ["_law_lane", "_law_more"] (defScope (top 53)) := ⟨rfl, rfl, rfl, by decide +kernel, rfl, by decide +kernel, by decide +kernel⟩
theorem ok__law_bad_spots {f : Addr} {fd : FuncData} (F : FnP K "_law_bad_spots" (top 53) f fd) (gF : mg "_law_bad_spots" = some (.ref f)) (m_len : mg "len" = none) : Dok P w K mg base xa 1 "_law_bad_spots" P_l_bad_spots := by
  have Sc := sc__law_bad_spots
  refine mkDok (k := 0) (N := ["_law_lane", "_law_more", "_law_spots"]) (ps := ["_law_lane", "_law_more"]) (g := g_l_bad_spots) F Sc gF (fun _ _ _ _ _ _ us hl => match us, hl with | [_, _], _ => rfl) (by decide) (by decide) fun cdv A outer s H E hr => ?_
  exact (psd_cons (psd_set 2 Sc.nd ((pd_lst (pad_e (pd_tup (pad_e pd_str (pad_e (pd_len (by rfl) m_len (pd_var 0 (pv 0)).rd) pad_nil))) (pad_e (pd_tup (pad_e pd_str (pad_e (pd_neg pd_int) pad_nil))) (pad_e (pd_tup (pad_e pd_str (pad_e pd_bl pad_nil))) (pad_e (pd_tup (pad_e pd_str (pad_e pd_non pad_nil))) (pad_e (pd_tup (pad_e pd_str (pad_e pd_int pad_nil))) (pad_e (pd_tup (pad_e pd_str pad_nil)) pad_nil))))))).frz nd_lst))
  (psd_cons (psd_set 2 Sc.nd ((pd_catL (pd_var 2 (pv 2)).rd (pd_lst (pad_e ((pd_lst (pad_e pd_str (pad_e pd_int pad_nil))).frz nd_lst) (pad_e (pd_tup (pad_e pd_str (pad_e pd_int pad_nil))) (pad_e (pd_tup (pad_e pd_str (pad_e pd_str pad_nil))) (pad_e pd_non (pad_e (pd_tup pad_nil) (pad_e pd_str (pad_e (pd_tup (pad_e pd_str (pad_e (pd_add (pd_len (by rfl) m_len (pd_var 0 (pv 0)).rd) (pd_var 1 (pv 1))) pad_nil))) pad_nil)))))))).rdo).frz nd_cat))
  (psd_cons (psd_set 2 Sc.nd ((pd_catL (pd_var 2 (pv 2)).rd (pd_lst (pad_e (pd_tup (pad_e pd_int (pad_e pd_str pad_nil))) (pad_e (pd_tup (pad_e pd_str (pad_e pd_int pad_nil))) pad_nil))).rdo).frz nd_cat))
  (psd_one (psd_ret ((pd_catL (pd_var 2 (pv 2)).rd (pd_lst (pad_e (pd_tup (pad_e pd_str (pad_e (pd_sub (pd_neg pd_int) (pd_var 1 (pv 1))) pad_nil))) (pad_e (pd_tup (pad_e pd_str (pad_e pd_int (pad_e pd_int pad_nil)))) (pad_e (pd_tup (pad_e ((pd_lst (pad_e pd_str pad_nil)).frz nd_lst) (pad_e pd_int pad_nil))) (pad_e (pd_tup (pad_e pd_str (pad_e pd_bl pad_nil))) (pad_e (pd_tup (pad_e pd_str (pad_e ((pd_lst (pad_e pd_int pad_nil)).frz nd_lst) pad_nil))) pad_nil)))))).rdo).frz nd_cat))))))
theorem sc__law_crowded : FnScope ["_law_lane", "_law_stand", "_law_at", "_law_place"] ["_law_lane", "_law_stand", "_law_at"] (defScope (top 55)) := ⟨rfl, rfl, rfl, by decide +kernel, rfl, by decide +kernel, by decide +kernel⟩
theorem ok__law_crowded {f : Addr} {fd : FuncData} (F : FnP K "_law_crowded" (top 55) f fd) (gF : mg "_law_crowded" = some (.ref f)) (m_len : mg "len" = none) (m_range : mg "range" = none) : Dok P w K mg base xa 1 "_law_crowded" P_l_crowded := by
  have Sc := sc__law_crowded
  refine mkDok (k := 0) (N := ["_law_lane", "_law_stand", "_law_at", "_law_place"]) (ps := ["_law_lane", "_law_stand", "_law_at"]) (g := g_l_crowded) F Sc gF (fun _ _ _ _ _ _ us hl => match us, hl with | [_, _, _], _ => rfl) (by decide) (by decide) fun cdv A outer s H E hr => ?_
  exact (psd_cons (psd_for (by rfl) (pid_rng (bnd_name 3) (by rfl) m_range (pd_len (by rfl) m_len (pd_var 0 (pv 0)).rd)) (pg_name (i := 3) Sc.nd (by rfl) (by first | exact .inl rfl | exact .inr rfl)) (psd_one (psd_if (pt_lt (pd_ixg (hu_of hr) (pd_var 0 (pv 0)).rd (pd_var 3 (pv 3))) (pd_len (by rfl) m_len (pd_var 1 (pv 1)).rd)) (psd_one (psd_ret (pd_repT (pd_tup (pad_e (pd_tup (pad_e pd_str (pad_e (pd_var 3 (pv 3)) pad_nil))) pad_nil)) (pd_len (by rfl) m_len (pd_var 1 (pv 1)).rd)))) psd_nil)))
  (psd_one (psd_ret (pd_add (pd_add (pd_sl (pd_var 1 (pv 1)) pod_none (pod_some (pd_var 2 (pv 2)))) (pd_tup (pad_e (pd_tup (pad_e pd_str (pad_e pd_int pad_nil))) pad_nil))) (pd_sl (pd_var 1 (pv 1)) (pod_some (pd_add (pd_var 2 (pv 2)) pd_int)) pod_none)))))
theorem sc__law_bad_stand : FnScope ["_law_lane", "_law_ways", "_law_stand", "_law_cell", "_law_at", "_law_more", "_law_spot_here"] ["_law_lane", "_law_ways", "_law_stand", "_law_cell"] (defScope (top 54)) := ⟨rfl, rfl, rfl, by decide +kernel, rfl, by decide +kernel, by decide +kernel⟩
theorem ok__law_bad_stand {f : Addr} {fd : FuncData} (F : FnP K "_law_bad_stand" (top 54) f fd) (gF : mg "_law_bad_stand" = some (.ref f)) (m_len : mg "len" = none) (m_list : mg "list" = none) (G__law_bad_spots : Dok P w K mg base xa 1 "_law_bad_spots" P_l_bad_spots) (G__law_crowded : Dok P w K mg base xa 1 "_law_crowded" P_l_crowded) : Dok P w K mg base xa 2 "_law_bad_stand" P_l_bad_stand := by
  have Sc := sc__law_bad_stand
  refine mkDok (k := 1) (N := ["_law_lane", "_law_ways", "_law_stand", "_law_cell", "_law_at", "_law_more", "_law_spot_here"]) (ps := ["_law_lane", "_law_ways", "_law_stand", "_law_cell"]) (g := g_l_bad_stand) F Sc gF (fun _ _ _ _ _ _ us hl => match us, hl with | [_, _, _, _], _ => rfl) (by decide) (by decide) fun cdv A outer s H E hr => ?_
  exact (psd_cons (psd_set 4 Sc.nd (pd_mod (pd_div (pd_var 3 (pv 3)) pd_int) (pd_len (by rfl) m_len (pd_var 2 (pv 2)).rd)))
  (psd_cons (psd_set 5 Sc.nd (pd_mod (pd_div (pd_var 3 (pv 3)) pd_int) (pd_pow pd_int pd_int)))
  (psd_cons (psd_if (pt_lt (pd_mod (pd_var 3 (pv 3)) pd_int) pd_int) (psd_one (psd_ret (pd_add (pd_add (pd_sl (pd_var 2 (pv 2)) pod_none (pod_some (pd_var 4 (pv 4)))) (pd_tup (pad_e (pd_ixg (hu_of hr) (pd_call (o := false) (G__law_bad_spots.at hr) (takes_of rfl rfl rfl rfl) (by rfl) (pad_e (pd_var 0 (pv 0)) (pad_e (pd_var 5 (pv 5)) pad_nil))).rd (pd_mod (pd_var 5 (pv 5)) pd_int)) pad_nil))) (pd_sl (pd_var 2 (pv 2)) (pod_some (pd_add (pd_var 4 (pv 4)) pd_int)) pod_none)))) psd_nil)
  (psd_cons (psd_if (pt_eq (hu_of hr) (pd_mod (pd_var 3 (pv 3)) pd_int).rd pd_int.rd) (psd_one (psd_ret (pd_ixg (hu_of hr) (pd_lst (pad_e (pd_sl (pd_var 2 (pv 2)) (pod_some pd_int) pod_none) (pad_e (pd_add (pd_var 2 (pv 2)) (pd_tup (pad_e (pd_tup (pad_e pd_str pad_nil)) pad_nil))) (pad_e (pd_tup pad_nil) (pad_e (pd_add (pd_var 2 (pv 2)) (pd_var 2 (pv 2))) pad_nil))))).rdo (pd_mod (pd_var 5 (pv 5)) pd_int)))) psd_nil)
  (psd_cons (psd_if (pt_eq (hu_of hr) (pd_mod (pd_var 3 (pv 3)) pd_int).rd pd_int.rd) (psd_one (psd_ret (pd_ixg (hu_of hr) (pd_lst (pad_e ((pd_list1 (by rfl) m_list (pd_var 2 (pv 2)).rd).frz nd_list1) (pad_e pd_non (pad_e pd_str (pad_e pd_int (pad_e pd_dk0 pad_nil)))))).rdo (pd_mod (pd_var 5 (pv 5)) pd_int)))) psd_nil)
  (psd_cons (psd_if (pt_w (pwd_and (pt_gt (pd_len (by rfl) m_len (pd_var 2 (pv 2)).rd) pd_int) (pw1_and (pt_eq (hu_of hr) (pd_mod (pd_var 5 (pv 5)) pd_int).rd pd_int.rd)))) (psd_cons (psd_set 6 Sc.nd (pd_tup (pad_e pd_str (pad_e (pd_mod (pd_div (pd_var 5 (pv 5)) pd_int) (pd_len (by rfl) m_len (pd_var 0 (pv 0)).rd)) pad_nil))))
  (psd_one (psd_ret (pd_add (pd_add (pd_tup (pad_e (pd_var 6 (pv 6)) pad_nil)) (pd_sl (pd_var 2 (pv 2)) (pod_some pd_int) (pod_some (pd_neg pd_int)))) (pd_tup (pad_e (pd_var 6 (pv 6)) pad_nil)))))) psd_nil)
  (psd_one (psd_ret (pd_call (o := false) (G__law_crowded.at hr) (takes_of rfl rfl rfl rfl) (by rfl) (pad_e (pd_var 0 (pv 0)) (pad_e (pd_var 2 (pv 2)) (pad_e (pd_var 4 (pv 4)) pad_nil))))))))))))
theorem sc__law_asked : FnScope ["_law_way", "_law_lane", "_law_ways", "_law_stand", "_law_e"] ["_law_way", "_law_lane", "_law_ways", "_law_stand"] (defScope (top 56)) := ⟨rfl, rfl, rfl, by decide +kernel, rfl, by decide +kernel, by decide +kernel⟩
theorem ok__law_asked {f : Addr} {fd : FuncData} (F : FnP K "_law_asked" (top 56) f fd) (gF : mg "_law_asked" = some (.ref f)) {la : Addr} (O_LaneError : LnOk K mg xa la) {yc : Addr} (G_Yard : YokC P w K mg base xa 4 "Yard" yc P_need_stand) (G_need_stand : Dok P w K mg base xa 3 "need_stand" P_need_stand) (G_left_to_go : Dok P w K mg base xa 4 "left_to_go" P_left_to_go) (G_allowed : Dok P w K mg base xa 4 "allowed" P_allowed) (G_reached : Dok P w K mg base xa 5 "reached" P_reached) (G_prices : Dok P w K mg base xa 6 "prices" P_prices) (G_least_row : Dok P w K mg base xa 6 "least_row" P_least_row) (G_closed_search : Dok P w K mg base xa 6 "closed_search" P_closed) (G_behind : Dok P w K mg base xa 4 "behind" P_behind) (G__law_kind : FokK P w K mg base xa 1 "_law_kind" kindD) : Dok P w K mg base xa 7 "_law_asked" P_l_asked := by
  have Sc := sc__law_asked
  refine mkDok (k := 6) (N := ["_law_way", "_law_lane", "_law_ways", "_law_stand", "_law_e"]) (ps := ["_law_way", "_law_lane", "_law_ways", "_law_stand"]) (g := g_l_asked) F Sc gF (fun _ _ _ _ _ _ us hl => match us, hl with | [_, _, _, _], _ => rfl) (by decide) (by decide) fun cdv A outer s H E hr => ?_
  exact (psd_cons (psd_try rfl rfl Sc.nd 4 (by rfl) (by rfl) (O_LaneError.nm) O_LaneError.hx (takes_of rfl rfl rfl rfl) (fun W' pn xe tk' => (psd_one (psd_if (pt_lt (pd_var 0 (pv 0)) pd_int) (psd_one (psd_callIx tk' (NmOk.cons (G_need_stand.at hr) (by rfl) (NmOk.cons (G_left_to_go.at hr) (by rfl) (NmOk.cons (G_allowed.at hr) (by rfl) (NmOk.cons (G_reached.at hr) (by rfl) (NmOk.cons (G_prices.at hr) (by rfl) NmOk.nil))))) (by decide) (pd_var 0 (pv 0)) (pad_e (pd_var 1 (pv 1)) (pad_e (pd_var 2 (pv 2)) (pad_e (pd_var 3 (pv 3)) pad_nil))))) (psd_one (psd_if (pt_lt (pd_var 0 (pv 0)) pd_int) (psd_one (psd_callIx tk' (NmOk.cons (G_least_row.at hr) (by rfl) (NmOk.cons (G_closed_search.at hr) (by rfl) NmOk.nil)) (by decide) (pd_sub (pd_var 0 (pv 0)) pd_int) (pad_e (pd_var 1 (pv 1)) (pad_e (pd_var 2 (pv 2)) (pad_e (pd_var 3 (pv 3)) pad_nil))))) (psd_one (psd_if (pt_eq (hu_of hr) (pd_var 0 (pv 0)).rd pd_int.rd) (psd_one (psd_yard (k := 4) G_Yard (hr.mono (by decide)) tk' (by rfl) (pad_e (pd_var 1 (pv 1)) (pad_e (pd_var 2 (pv 2)) (pad_e (pd_var 3 (pv 3)) pad_nil))))) (psd_one (psd_expr (pd_call (o := false) (G_behind.at hr) tk' (by rfl) (pad_e (pd_var 1 (pv 1)) (pad_e (pd_var 2 (pv 2)) (pad_e (pd_var 3 (pv 3)) (pad_e pd_non pad_nil)))))))))))))) (fun a oe c pn hh => (psd_one (psd_retO (pd_kind (k := 1) G__law_kind (rH hr (by decide)) hh takes0 (by rfl) (pd_var 4 (pv 4)))))))
  (psd_one (psd_retO (pd_lst pad_nil))))
theorem sc__law_alone : FnScope ["_law_way", "_law_thing", "_law_e"] ["_law_way", "_law_thing"] (defScope (top 57)) := ⟨rfl, rfl, rfl, by decide +kernel, rfl, by decide +kernel, by decide +kernel⟩
theorem ok__law_alone {f : Addr} {fd : FuncData} (F : FnP K "_law_alone" (top 57) f fd) (gF : mg "_law_alone" = some (.ref f)) {la : Addr} (O_LaneError : LnOk K mg xa la) (G_turned_stand : Dok P w K mg base xa 3 "turned_stand" P_turned_stand) (G_need_lane : Dok P w K mg base xa 2 "need_lane" P_need_lane) (G_turned_lane : Dok P w K mg base xa 3 "turned_lane" P_turned_lane) (G_need_ways : Dok P w K mg base xa 1 "need_ways" P_need_ways) (G_turned_ways : Dok P w K mg base xa 2 "turned_ways" P_turned_ways) (G__law_kind : FokK P w K mg base xa 1 "_law_kind" kindD) : Dok P w K mg base xa 4 "_law_alone" P_l_alone := by
  have Sc := sc__law_alone
  refine mkDok (k := 3) (N := ["_law_way", "_law_thing", "_law_e"]) (ps := ["_law_way", "_law_thing"]) (g := g_l_alone) F Sc gF (fun _ _ _ _ _ _ us hl => match us, hl with | [_, _], _ => rfl) (by decide) (by decide) fun cdv A outer s H E hr => ?_
  exact (psd_cons (psd_try rfl rfl Sc.nd 2 (by rfl) (by rfl) (O_LaneError.nm) O_LaneError.hx (takes_of rfl rfl rfl rfl) (fun W' pn xe tk' => (psd_one (psd_if (pt_eq (hu_of hr) (pd_var 0 (pv 0)).rd pd_int.rd) (psd_one (psd_expr (pd_call (o := false) (G_turned_stand.at hr) tk' (by rfl) (pad_e (pd_var 1 (pv 1)) (pad_e (pd_tup (pad_e (pd_tup (pad_e pd_str (pad_e pd_int pad_nil))) pad_nil)) pad_nil))))) (psd_one (psd_if (pt_lt (pd_var 0 (pv 0)) pd_int) (psd_one (psd_callIx tk' (NmOk.cons (G_need_lane.at hr) (by rfl) (NmOk.cons (G_turned_lane.at hr) (by rfl) NmOk.nil)) (by decide) (pd_var 0 (pv 0)) (pad_e (pd_var 1 (pv 1)) pad_nil))) (psd_one (psd_callIx tk' (NmOk.cons (G_need_ways.at hr) (by rfl) (NmOk.cons (G_turned_ways.at hr) (by rfl) NmOk.nil)) (by decide) (pd_sub (pd_var 0 (pv 0)) pd_int) (pad_e (pd_var 1 (pv 1)) pad_nil)))))))) (fun a oe c pn hh => (psd_one (psd_retO (pd_kind (k := 1) G__law_kind (rH hr (by decide)) hh takes0 (by rfl) (pd_var 2 (pv 2)))))))
  (psd_one (psd_retO (pd_lst pad_nil))))
theorem sc_law : FnScope ["_law_script", "_law_cell", "_law_due", "_law_no_ways", "_law_handed", "_law_way", "_law_last", "_law_turn", "_law_at", "_law_spot_here", "_law_lane", "_law_ways", "_law_stand"] ["_law_script"] (defScope (top 58)) := ⟨rfl, rfl, rfl, by decide +kernel, rfl, by decide +kernel, by decide +kernel⟩
theorem ok_law {f : Addr} {fd : FuncData} (F : FnP K "law" (top 58) f fd) (m_list : mg "list" = none) (m_isinstance : mg "isinstance" = none) (m_range : mg "range" = none) (m_int : mg "int" = none) (m_len : mg "len" = none) (G__law_built : Dok P w K mg base xa 3 "_law_built" P_l_built) (G__law_cell_at : Dok P w K mg base xa 1 "_law_cell_at" P_l_cell_at) (G__law_bad_stand : Dok P w K mg base xa 2 "_law_bad_stand" P_l_bad_stand) (G__law_bad_ways : Dok P w K mg base xa 1 "_law_bad_ways" P_l_bad_ways) (G__law_bad_lane : Dok P w K mg base xa 2 "_law_bad_lane" P_l_bad_lane) (G__law_asked : Dok P w K mg base xa 7 "_law_asked" P_l_asked) (G__law_alone : Dok P w K mg base xa 4 "_law_alone" P_l_alone) (G__law_bad_spots : Dok P w K mg base xa 1 "_law_bad_spots" P_l_bad_spots) (G_need_lane : Dok P w K mg base xa 2 "need_lane" P_need_lane) (G_need_ways : Dok P w K mg base xa 1 "need_ways" P_need_ways) (G_need_stand : Dok P w K mg base xa 3 "need_stand" P_need_stand) : FnOk P w K mg base CX0 8 f fd ["_law_script"] (spL K) := by
  have Sc := sc_law
  refine law_fn (k := 7) (N := ["_law_script", "_law_cell", "_law_due", "_law_no_ways", "_law_handed", "_law_way", "_law_last", "_law_turn", "_law_at", "_law_spot_here", "_law_lane", "_law_ways", "_law_stand"]) (g := g_law01) (xa := xa) F Sc (by decide) (fun cdv A outer s H E hr => ?_) fun ns => g_of_run law01_t
  exact (psd_cons (psd_unp [10, 11, 12] (pd_call (o := false) (G__law_built.at hr) takes0 (by rfl) (pad_e (pd_var 0 (pv 0)) pad_nil)) (pg_tup (by rfl) (pgs_cons (pg_name (i := 10) Sc.nd (by rfl) (by first | exact .inl rfl | exact .inr rfl)) (pgs_cons (pg_name (i := 11) Sc.nd (by rfl) (by first | exact .inl rfl | exact .inr rfl)) (pgs_cons (pg_name (i := 12) Sc.nd (by rfl) (by first | exact .inl rfl | exact .inr rfl)) pgs_nil)))))
  (psd_cons (psd_set 1 Sc.nd (pd_call (o := false) (G__law_cell_at.at hr) takes0 (by rfl) (pad_e (pd_var 0 (pv 0)) (pad_e pd_int pad_nil))))
  (psd_cons (psd_set 2 Sc.nd ((pd_lst pad_nil).frz nd_lst))
  (psd_cons (psd_if (pt_eq (hu_of hr) (pd_mod (pd_div (pd_var 1 (pv 1)) pd_int) pd_int).rd pd_int.rd) (psd_cons (psd_set 12 Sc.nd (pd_call (o := false) (G__law_bad_stand.at hr) takes0 (by rfl) (pad_e (pd_var 10 (pv 10)) (pad_e (pd_var 11 (pv 11)) (pad_e (pd_var 12 (pv 12)) (pad_e (pd_call (o := false) (G__law_cell_at.at hr) takes0 (by rfl) (pad_e (pd_var 0 (pv 0)) (pad_e pd_int pad_nil))) pad_nil))))))
  (psd_one (psd_set 2 Sc.nd ((pd_lst (pad_e pd_str (pad_e pd_str pad_nil))).frz nd_lst)))) psd_nil)
  (psd_cons (psd_if (pt_eq (hu_of hr) (pd_mod (pd_div (pd_var 1 (pv 1)) pd_int) pd_int).rd pd_int.rd) (psd_cons (psd_set 11 Sc.nd (pd_call (o := false) (G__law_bad_ways.at hr) takes0 (by rfl) (pad_e (pd_var 11 (pv 11)) (pad_e (pd_call (o := false) (G__law_cell_at.at hr) takes0 (by rfl) (pad_e (pd_var 0 (pv 0)) (pad_e pd_int pad_nil))) pad_nil))))
  (psd_one (psd_set 2 Sc.nd ((pd_lst (pad_e pd_str (pad_e pd_str pad_nil))).frz nd_lst)))) psd_nil)
  (psd_cons (psd_set 3 Sc.nd (pd_eq (hu_of hr) (pd_var 2 (pv 2)).rd (pd_lst (pad_e pd_str (pad_e pd_str pad_nil))).rdo))
  (psd_cons (psd_if (pt_eq (hu_of hr) (pd_mod (pd_div (pd_var 1 (pv 1)) pd_int) pd_int).rd pd_int.rd) (psd_cons (psd_set 10 Sc.nd (pd_call (o := false) (G__law_bad_lane.at hr) takes0 (by rfl) (pad_e (pd_var 10 (pv 10)) (pad_e (pd_call (o := false) (G__law_cell_at.at hr) takes0 (by rfl) (pad_e (pd_var 0 (pv 0)) (pad_e pd_int pad_nil))) pad_nil))))
  (psd_one (psd_set 2 Sc.nd ((pd_lst (pad_e pd_str (pad_e pd_str pad_nil))).frz nd_lst)))) psd_nil)
  (psd_cons (psd_set 4 Sc.nd ((pd_lst (pad_e (pd_if (pt_v (pd_is .list (by rfl) m_isinstance (pd_var 10 (pv 10)).rd (by rfl) m_list (by rfl))) ((pd_list1 (by rfl) m_list (pd_var 10 (pv 10)).rd).frz nd_list1) (pd_var 10 (pv 10))) (pad_e (pd_if (pt_v (pd_is .list (by rfl) m_isinstance (pd_var 11 (pv 11)).rd (by rfl) m_list (by rfl))) ((pd_list1 (by rfl) m_list (pd_var 11 (pv 11)).rd).frz nd_list1) (pd_var 11 (pv 11))) pad_nil))).frz nd_lst))
  (psd_cons (psd_set 5 Sc.nd (pd_mod (pd_div (pd_var 1 (pv 1)) pd_int) pd_int))
  (psd_cons (psd_set 6 Sc.nd (pd_if (pt_w (pwd_and (pt_eq (hu_of hr) (pd_var 2 (pv 2)).rd (pd_lst pad_nil).rdo) (pw1_and (pt_eq (hu_of hr) (pd_var 5 (pv 5)).rd pd_int.rd)))) ((pd_lst (pad_e pd_str (pad_e pd_str pad_nil))).frz nd_lst) (pd_var 2 (pv 2))))
  (psd_cons (psd_if (pt_w (pwd_or (pt_ne (hu_of hr) (pd_call (o := true) (G__law_asked.at hr) takes0 (by rfl) (pad_e (pd_var 5 (pv 5)) (pad_e (pd_ixg (hu_of hr) (pd_var 4 (pv 4)).rd pd_int) (pad_e (pd_ixg (hu_of hr) (pd_var 4 (pv 4)).rd pd_int) (pad_e (pd_var 12 (pv 12)) pad_nil))))).rdo (pd_var 6 (pv 6)).rd) (pw1_or (pt_neS (hu_of hr) (pd_var 4 (pv 4)).rd (pd_lst (pad_e (pd_var 10 (pv 10)) (pad_e (pd_var 11 (pv 11)) pad_nil))).rdo)))) (psd_one (psd_ret pd_bl)) psd_nil)
  (psd_cons (psd_for (by rfl) (pid_rng (bnd_name 7) (by rfl) m_range pd_int) (pg_name (i := 7) Sc.nd (by rfl) (by first | exact .inl rfl | exact .inr rfl)) (psd_cons (psd_if (pt_ne (hu_of hr) (pd_call (o := true) (G__law_alone.at hr) takes0 (by rfl) (pad_e (pd_var 7 (pv 7)) (pad_e (pd_ixg (hu_of hr) (pd_var 4 (pv 4)).rd pd_int) pad_nil))).rdo (pd_ixg (hu_of hr) (pd_lst (pad_e ((pd_lst pad_nil).frz nd_lst) (pad_e ((pd_lst (pad_e pd_str (pad_e pd_str pad_nil))).frz nd_lst) pad_nil))).rdo (pd_int1 (by rfl) m_int (pd_eq (hu_of hr) (pd_var 2 (pv 2)).rd (pd_lst (pad_e pd_str (pad_e pd_str pad_nil))).rdo))).rd) (psd_one (psd_ret pd_bl)) psd_nil)
  (psd_one (psd_if (pt_ne (hu_of hr) (pd_call (o := true) (G__law_alone.at hr) takes0 (by rfl) (pad_e (pd_add pd_int (pd_var 7 (pv 7))) (pad_e (pd_ixg (hu_of hr) (pd_var 4 (pv 4)).rd pd_int) pad_nil))).rdo (pd_ixg (hu_of hr) (pd_lst (pad_e ((pd_lst pad_nil).frz nd_lst) (pad_e ((pd_lst (pad_e pd_str (pad_e pd_str pad_nil))).frz nd_lst) pad_nil))).rdo (pd_int1 (by rfl) m_int (pd_var 3 (pv 3)))).rd) (psd_one (psd_ret pd_bl)) psd_nil))))
  (psd_cons (psd_if (pt_ne (hu_of hr) (pd_call (o := true) (G__law_alone.at hr) takes0 (by rfl) (pad_e pd_int (pad_e (pd_ixg (hu_of hr) (pd_var 4 (pv 4)).rd pd_int) pad_nil))).rdo (pd_ixg (hu_of hr) (pd_lst (pad_e ((pd_lst pad_nil).frz nd_lst) (pad_e ((pd_lst (pad_e pd_str (pad_e pd_str pad_nil))).frz nd_lst) pad_nil))).rdo (pd_int1 (by rfl) m_int (pd_eq (hu_of hr) (pd_var 2 (pv 2)).rd (pd_lst (pad_e pd_str (pad_e pd_str pad_nil))).rdo))).rd) (psd_one (psd_ret pd_bl)) psd_nil)
  (psd_cons (psd_if (pt_ne (hu_of hr) (pd_var 2 (pv 2)).rd (pd_lst pad_nil).rdo) (psd_one (psd_ret pd_bl)) psd_nil)
  (psd_cons (psd_set 8 Sc.nd (pd_mod (pd_call (o := false) (G__law_cell_at.at hr) takes0 (by rfl) (pad_e (pd_var 0 (pv 0)) (pad_e pd_int pad_nil))) (pd_len (by rfl) m_len (pd_var 12 (pv 12)).rd)))
  (psd_cons (psd_for (by rfl) (pid_listE (bnd_name 9) (pd_call (o := false) (G__law_bad_spots.at hr) takes0 (by rfl) (pad_e (pd_var 10 (pv 10)) (pad_e (pd_mod (pd_call (o := false) (G__law_cell_at.at hr) takes0 (by rfl) (pad_e (pd_var 0 (pv 0)) (pad_e pd_int pad_nil))) (pd_pow pd_int pd_int)) pad_nil)))) (pg_name (i := 9) Sc.nd (by rfl) (by first | exact .inl rfl | exact .inr rfl)) (psd_one (psd_if (pt_ne (hu_of hr) (pd_call (o := true) (G__law_asked.at hr) takes0 (by rfl) (pad_e pd_int (pad_e (pd_var 10 (pv 10)) (pad_e (pd_var 11 (pv 11)) (pad_e (pd_add (pd_add (pd_sl (pd_var 12 (pv 12)) pod_none (pod_some (pd_var 8 (pv 8)))) (pd_tup (pad_e (pd_var 9 (pv 9)) pad_nil))) (pd_sl (pd_var 12 (pv 12)) (pod_some (pd_add (pd_var 8 (pv 8)) pd_int)) pod_none)) pad_nil))))).rdo (pd_lst (pad_e pd_str (pad_e pd_str pad_nil))).rdo) (psd_one (psd_ret pd_bl)) psd_nil)))
  (psd_one (psd_ret (pd_and (pd_isB (pd_call (o := false) (G_need_lane.at hr) takes0 (by rfl) (pad_e (pd_var 10 (pv 10)) pad_nil)) pd_bl) (pd_and (pd_isB (pd_call (o := false) (G_need_ways.at hr) takes0 (by rfl) (pad_e (pd_var 11 (pv 11)) pad_nil)) pd_bl) (pd_one (pd_isB (pd_call (o := false) (G_need_stand.at hr) takes0 (by rfl) (pad_e (pd_var 10 (pv 10)) (pad_e (pd_var 11 (pv 11)) (pad_e (pd_var 12 (pv 12)) pad_nil)))) pd_bl))))))))))))))))))))))
end
def d0 : He.DefD := ⟨("_wall", none), "_wall", "_wall", defArgs (top 0), defBody (top 0), defScope (top 0), [], []⟩
def d1 : He.DefD := ⟨("is_among", none), "is_among", "is_among", defArgs (top 12), defBody (top 12), defScope (top 12), [], []⟩
def d2 : He.DefD := ⟨("need_lane", none), "need_lane", "need_lane", defArgs (top 13), defBody (top 13), defScope (top 13), [], []⟩
def d3 : He.DefD := ⟨("need_ways", none), "need_ways", "need_ways", defArgs (top 14), defBody (top 14), defScope (top 14), [], []⟩
def d4 : He.DefD := ⟨("is_spot", none), "is_spot", "is_spot", defArgs (top 15), defBody (top 15), defScope (top 15), [], []⟩
def d5 : He.DefD := ⟨("has_room", none), "has_room", "has_room", defArgs (top 16), defBody (top 16), defScope (top 16), [], []⟩
def d6 : He.DefD := ⟨("need_stand", none), "need_stand", "need_stand", defArgs (top 17), defBody (top 17), defScope (top 17), [], []⟩
def d7 : He.DefD := ⟨("way_left", none), "way_left", "way_left", defArgs (top 19), defBody (top 19), defScope (top 19), [], []⟩
def d8 : He.DefD := ⟨("left_of", none), "left_of", "left_of", defArgs (top 20), defBody (top 20), defScope (top 20), [], []⟩
def d9 : He.DefD := ⟨("next_spot", none), "next_spot", "next_spot", defArgs (top 21), defBody (top 21), defScope (top 21), [], []⟩
def d10 : He.DefD := ⟨("goal_of", none), "goal_of", "goal_of", defArgs (top 22), defBody (top 22), defScope (top 22), [], []⟩
def d11 : He.DefD := ⟨("moved", none), "moved", "moved", defArgs (top 23), defBody (top 23), defScope (top 23), [], []⟩
def d12 : He.DefD := ⟨("moves_of", none), "moves_of", "moves_of", defArgs (top 24), defBody (top 24), defScope (top 24), [], []⟩
def d13 : He.DefD := ⟨("left_to_go", none), "left_to_go", "left_to_go", defArgs (top 25), defBody (top 25), defScope (top 25), [], []⟩
def d14 : He.DefD := ⟨("allowed", none), "allowed", "allowed", defArgs (top 26), defBody (top 26), defScope (top 26), [], []⟩
def d15 : He.DefD := ⟨("behind", none), "behind", "behind", defArgs (top 27), defBody (top 27), defScope (top 27), [], []⟩
def d16 : He.DefD := ⟨("all_reached", none), "all_reached", "all_reached", defArgs (top 29), defBody (top 29), defScope (top 29), [], []⟩
def d17 : He.DefD := ⟨("rank", none), "rank", "rank", defArgs (top 30), defBody (top 30), defScope (top 30), [], []⟩
def d18 : He.DefD := ⟨("all_prices", none), "all_prices", "all_prices", defArgs (top 31), defBody (top 31), defScope (top 31), [], []⟩
def d19 : He.DefD := ⟨("reached", none), "reached", "reached", defArgs (top 32), defBody (top 32), defScope (top 32), [], []⟩
def d20 : He.DefD := ⟨("prices", none), "prices", "prices", defArgs (top 33), defBody (top 33), defScope (top 33), [], []⟩
def d21 : He.DefD := ⟨("least_row", none), "least_row", "least_row", defArgs (top 34), defBody (top 34), defScope (top 34), [], []⟩
def d22 : He.DefD := ⟨("closed", none), "closed", "closed", defArgs (top 35), defBody (top 35), defScope (top 35), [], []⟩
def d23 : He.DefD := ⟨("turned_lane", none), "turned_lane", "turned_lane", defArgs (top 38), defBody (top 38), defScope (top 38), [], []⟩
def d24 : He.DefD := ⟨("turned_ways", none), "turned_ways", "turned_ways", defArgs (top 39), defBody (top 39), defScope (top 39), [], []⟩
def d25 : He.DefD := ⟨("turned_spot", none), "turned_spot", "turned_spot", defArgs (top 40), defBody (top 40), defScope (top 40), [], []⟩
def d26 : He.DefD := ⟨("turned_stand", none), "turned_stand", "turned_stand", defArgs (top 41), defBody (top 41), defScope (top 41), [], []⟩
def d27 : He.DefD := ⟨("_law_cell_at", none), "_law_cell_at", "_law_cell_at", defArgs (top 45), defBody (top 45), defScope (top 45), [], []⟩
def d28 : He.DefD := ⟨("_law_mixed", none), "_law_mixed", "_law_mixed", defArgs (top 46), defBody (top 46), defScope (top 46), [], []⟩
def d29 : He.DefD := ⟨("_law_spot", none), "_law_spot", "_law_spot", defArgs (top 47), defBody (top 47), defScope (top 47), [], []⟩
def d30 : He.DefD := ⟨("_law_built", none), "_law_built", "_law_built", defArgs (top 48), defBody (top 48), defScope (top 48), [], []⟩
def d31 : He.DefD := ⟨("_law_kind", none), "_law_kind", "_law_kind", defArgs (top 49), defBody (top 49), defScope (top 49), [], []⟩
def d32 : He.DefD := ⟨("_law_number", none), "_law_number", "_law_number", defArgs (top 50), defBody (top 50), defScope (top 50), [], []⟩
def d33 : He.DefD := ⟨("_law_bad_lane", none), "_law_bad_lane", "_law_bad_lane", defArgs (top 51), defBody (top 51), defScope (top 51), [], []⟩
def d34 : He.DefD := ⟨("_law_bad_ways", none), "_law_bad_ways", "_law_bad_ways", defArgs (top 52), defBody (top 52), defScope (top 52), [], []⟩
def d35 : He.DefD := ⟨("_law_bad_spots", none), "_law_bad_spots", "_law_bad_spots", defArgs (top 53), defBody (top 53), defScope (top 53), [], []⟩
def d36 : He.DefD := ⟨("_law_crowded", none), "_law_crowded", "_law_crowded", defArgs (top 55), defBody (top 55), defScope (top 55), [], []⟩
def d37 : He.DefD := ⟨("_law_bad_stand", none), "_law_bad_stand", "_law_bad_stand", defArgs (top 54), defBody (top 54), defScope (top 54), [], []⟩
def d38 : He.DefD := ⟨("_law_asked", none), "_law_asked", "_law_asked", defArgs (top 56), defBody (top 56), defScope (top 56), [], []⟩
def d39 : He.DefD := ⟨("_law_alone", none), "_law_alone", "_law_alone", defArgs (top 57), defBody (top 57), defScope (top 57), [], []⟩
def d40 : He.DefD := ⟨("law", none), "law", "law", defArgs (top 58), defBody (top 58), defScope (top 58), [], []⟩
def dY : He.DefD := ⟨("Yard", some "__init__"), "__init__", "Yard.__init__", defArgs (ymeth 0), defBody (ymeth 0), defScope (ymeth 0), [], []⟩
def fn : List He.DefD := [d0, d1, d2, d3, d4, d5, d6, d7, d8, d9, d10, d11, d12, d13, d14, d15, d16, d17, d18, d19, d20, d21, d22, d23, d24, d25, d26, d27, d28, d29, d30, d31, d32, d33, d34, d35, d36, d37, d38, d39, d40, dY]
def fa : List He.Fa := [.glo "_wall", .glo "is_among", .glo "need_lane", .glo "need_ways", .glo "is_spot", .glo "has_room", .glo "need_stand", .glo "way_left", .glo "left_of", .glo "next_spot", .glo "goal_of", .glo "moved", .glo "moves_of", .glo "left_to_go", .glo "allowed", .glo "behind", .glo "all_reached", .glo "rank", .glo "all_prices", .glo "reached", .glo "prices", .glo "least_row", .glo "closed", .glo "turned_lane", .glo "turned_ways", .glo "turned_spot", .glo "turned_stand", .glo "_law_cell_at", .glo "_law_mixed", .glo "_law_spot", .glo "_law_built", .glo "_law_kind", .glo "_law_number", .glo "_law_bad_lane", .glo "_law_bad_ways", .glo "_law_bad_spots", .glo "_law_crowded", .glo "_law_bad_stand", .glo "_law_asked", .glo "_law_alone", .glo "law", .free "int", .free "isinstance", .free "bool", .free "list", .free "len", .free "all", .free "str", .free "tuple", .free "range", .free "zip", .free "sum", .free "sorted", .free "min", .free "reversed", .free "ValueError", .int "MOST_PLACES" 8, .int "MOST_ASIDE" 4, .int "MOST_TRAINS" 6, .glo "BadLane", .glo "BadWays", .glo "BadStand", .glo "NoMove", .glo "NoPlace", .exc "BadLane", .exc "BadWays", .exc "BadStand", .exc "NoMove", .exc "NoPlace", .glo "LaneError", .exm "BadLane" "LaneError" true, .exm "BadWays" "LaneError" true, .exm "BadStand" "LaneError" true, .exm "NoMove" "LaneError" true, .exm "NoPlace" "LaneError" true, .glo "Yard", .cls "Yard", .mkr "Yard", .noat "Yard" "rooms", .noat "Yard" "courses", .noat "Yard" "spots", .noat "Yard" "ahead", .glo "closed_search"]
def xb (K : PySem.W.Frag) : Bool := isXB K ["BadLane", "BadWays", "BadStand", "NoMove", "NoPlace"] && decide (He.ga K "closed_search" = He.ga K "closed")
abbrev R : PySem.W.OpenRow := PySem.W.OpenLaw.row PySem.Challenge.rw_sidinglane_k01_what_is_refused
abbrev hk : PySem.W.Hook := hookE 5 fa fn xb
def ob (s : PySem.W.SharedT) : He.AlD × Bool := (He.obsDG 5 fa fn (HandSHeadRun.getT s), xb (He.frG (HandSHeadRun.getT s) (He.asD (HandSHeadRun.getT s) 5)))
theorem ob_eq (s : PySem.W.SharedT) : ob s = hk.obs s.abs := hookE_eq (HandSHeadRun.getT_eq s)
def others : List Str := "_wall" :: "LaneError" :: "BadLane" :: "BadWays" :: "BadStand" :: "NoMove" :: "NoPlace" :: "MOST_PLACES" :: "MOST_ASIDE" :: "MOST_TRAINS" :: "is_among" :: "need_lane" :: "need_ways" :: "is_spot" :: "has_room" :: "need_stand" :: "way_left" :: "left_of" :: "next_spot" :: "goal_of" :: "moved" :: "moves_of" :: "left_to_go" :: "allowed" :: "behind" :: "all_reached" :: "rank" :: "all_prices" :: "reached" :: "prices" :: "least_row" :: "closed" :: "closed_search" :: "turned_lane" :: "turned_ways" :: "turned_spot" :: "turned_stand" :: "Yard" :: "_law_cell_at" :: "_law_mixed" :: "_law_spot" :: "_law_built" :: "_law_kind" :: "_law_number" :: "_law_bad_lane" :: "_law_bad_ways" :: "_law_bad_spots" :: "_law_bad_stand" :: "_law_crowded" :: "_law_asked" :: "_law_alone" :: []
theorem run (w : World) : HandSHeadRun.RunEq R (PySem.W.view R.prog [58]) hk ob 4000 others w := by
  intro os
  kernel_rfl
def xcAt (K : PySem.W.Frag) : Xc → Addr
  | .lane => He.ga K "BadLane"
  | .ways => He.ga K "BadWays"
  | .stand => He.ga K "BadStand"
  | .move => He.ga K "NoMove"
  | .place => He.ga K "NoPlace"
theorem facts {P : Program} {w : World} {K : PySem.W.Frag} {h : Heap} {mg : Str → Option Value} {f : Addr} (X : K.In h) (G : h.Ns mainGlobals mg) (hfa : mg ("law" : Str) = some (.ref f)) (c : He.SaysD fa fn K ∧ xb K = true) :
    ∃ fd : FuncData, (∀ (s : Shared) (v : Value), BindsTo s fd ⟨[v], []⟩ [("_law_script", v)]) ∧ ∀ base : Heap, K.In base → base.Ns mainGlobals mg → FnOk P w K mg base CX0 8 f fd ["_law_script"] (spL K) := by
  obtain ⟨fd0, F0⟩ := c.1.def_ 0 (d := d0) rfl
  obtain ⟨fd1, F1⟩ := c.1.def_ 1 (d := d1) rfl
  obtain ⟨fd2, F2⟩ := c.1.def_ 2 (d := d2) rfl
  obtain ⟨fd3, F3⟩ := c.1.def_ 3 (d := d3) rfl
  obtain ⟨fd4, F4⟩ := c.1.def_ 4 (d := d4) rfl
  obtain ⟨fd5, F5⟩ := c.1.def_ 5 (d := d5) rfl
  obtain ⟨fd6, F6⟩ := c.1.def_ 6 (d := d6) rfl
  obtain ⟨fd7, F7⟩ := c.1.def_ 7 (d := d7) rfl
  obtain ⟨fd8, F8⟩ := c.1.def_ 8 (d := d8) rfl
  obtain ⟨fd9, F9⟩ := c.1.def_ 9 (d := d9) rfl
  obtain ⟨fd10, F10⟩ := c.1.def_ 10 (d := d10) rfl
  obtain ⟨fd11, F11⟩ := c.1.def_ 11 (d := d11) rfl
  obtain ⟨fd12, F12⟩ := c.1.def_ 12 (d := d12) rfl
  obtain ⟨fd13, F13⟩ := c.1.def_ 13 (d := d13) rfl
  obtain ⟨fd14, F14⟩ := c.1.def_ 14 (d := d14) rfl
  obtain ⟨fd15, F15⟩ := c.1.def_ 15 (d := d15) rfl
  obtain ⟨fd16, F16⟩ := c.1.def_ 16 (d := d16) rfl
  obtain ⟨fd17, F17⟩ := c.1.def_ 17 (d := d17) rfl
  obtain ⟨fd18, F18⟩ := c.1.def_ 18 (d := d18) rfl
  obtain ⟨fd19, F19⟩ := c.1.def_ 19 (d := d19) rfl
  obtain ⟨fd20, F20⟩ := c.1.def_ 20 (d := d20) rfl
  obtain ⟨fd21, F21⟩ := c.1.def_ 21 (d := d21) rfl
  obtain ⟨fd22, F22⟩ := c.1.def_ 22 (d := d22) rfl
  obtain ⟨fd23, F23⟩ := c.1.def_ 23 (d := d23) rfl
  obtain ⟨fd24, F24⟩ := c.1.def_ 24 (d := d24) rfl
  obtain ⟨fd25, F25⟩ := c.1.def_ 25 (d := d25) rfl
  obtain ⟨fd26, F26⟩ := c.1.def_ 26 (d := d26) rfl
  obtain ⟨fd27, F27⟩ := c.1.def_ 27 (d := d27) rfl
  obtain ⟨fd28, F28⟩ := c.1.def_ 28 (d := d28) rfl
  obtain ⟨fd29, F29⟩ := c.1.def_ 29 (d := d29) rfl
  obtain ⟨fd30, F30⟩ := c.1.def_ 30 (d := d30) rfl
  obtain ⟨fd31, F31⟩ := c.1.def_ 31 (d := d31) rfl
  obtain ⟨fd32, F32⟩ := c.1.def_ 32 (d := d32) rfl
  obtain ⟨fd33, F33⟩ := c.1.def_ 33 (d := d33) rfl
  obtain ⟨fd34, F34⟩ := c.1.def_ 34 (d := d34) rfl
  obtain ⟨fd35, F35⟩ := c.1.def_ 35 (d := d35) rfl
  obtain ⟨fd36, F36⟩ := c.1.def_ 36 (d := d36) rfl
  obtain ⟨fd37, F37⟩ := c.1.def_ 37 (d := d37) rfl
  obtain ⟨fd38, F38⟩ := c.1.def_ 38 (d := d38) rfl
  obtain ⟨fd39, F39⟩ := c.1.def_ 39 (d := d39) rfl
  obtain ⟨fd, F⟩ := c.1.def_ 40 (d := d40) rfl
  have e := hfa.symm.trans (He.glo_ok X G (c.1.fact 40 (f := .glo "law") rfl))
  cases e
  have b := FunD.bindsA (ps := ["_law_script"]) F fun _ _ _ _ _ _ us hl => match us, hl with | [_], _ => rfl
  have m_int := He.free_ok X G (c.1.fact 41 (f := .free "int") rfl)
  have m_isinstance := He.free_ok X G (c.1.fact 42 (f := .free "isinstance") rfl)
  have m_bool := He.free_ok X G (c.1.fact 43 (f := .free "bool") rfl)
  have m_list := He.free_ok X G (c.1.fact 44 (f := .free "list") rfl)
  have m_len := He.free_ok X G (c.1.fact 45 (f := .free "len") rfl)
  have m_all := He.free_ok X G (c.1.fact 46 (f := .free "all") rfl)
  have m_str := He.free_ok X G (c.1.fact 47 (f := .free "str") rfl)
  have m_tuple := He.free_ok X G (c.1.fact 48 (f := .free "tuple") rfl)
  have m_range := He.free_ok X G (c.1.fact 49 (f := .free "range") rfl)
  have m_zip := He.free_ok X G (c.1.fact 50 (f := .free "zip") rfl)
  have m_sum := He.free_ok X G (c.1.fact 51 (f := .free "sum") rfl)
  have m_sorted := He.free_ok X G (c.1.fact 52 (f := .free "sorted") rfl)
  have m_min := He.free_ok X G (c.1.fact 53 (f := .free "min") rfl)
  have m_reversed := He.free_ok X G (c.1.fact 54 (f := .free "reversed") rfl)
  have m_ValueError := He.free_ok X G (c.1.fact 55 (f := .free "ValueError") rfl)
  have i_MOST_PLACES := He.int_ok X G (c.1.fact 56 (f := .int "MOST_PLACES" 8) rfl)
  have i_MOST_ASIDE := He.int_ok X G (c.1.fact 57 (f := .int "MOST_ASIDE" 4) rfl)
  have i_MOST_TRAINS := He.int_ok X G (c.1.fact 58 (f := .int "MOST_TRAINS" 6) rfl)
  have x_BadLane := He.exc_ok (c.1.fact 64 (f := .exc "BadLane") rfl)
  have O_BadLane : XcOk K mg (xcAt K) "BadLane" .lane := ⟨He.glo_ok X G (c.1.fact 59 (f := .glo "BadLane") rfl), x_BadLane.1, x_BadLane.2.1, x_BadLane.2.2.1, x_BadLane.2.2.2⟩
  have x_BadWays := He.exc_ok (c.1.fact 65 (f := .exc "BadWays") rfl)
  have O_BadWays : XcOk K mg (xcAt K) "BadWays" .ways := ⟨He.glo_ok X G (c.1.fact 60 (f := .glo "BadWays") rfl), x_BadWays.1, x_BadWays.2.1, x_BadWays.2.2.1, x_BadWays.2.2.2⟩
  have x_BadStand := He.exc_ok (c.1.fact 66 (f := .exc "BadStand") rfl)
  have O_BadStand : XcOk K mg (xcAt K) "BadStand" .stand := ⟨He.glo_ok X G (c.1.fact 61 (f := .glo "BadStand") rfl), x_BadStand.1, x_BadStand.2.1, x_BadStand.2.2.1, x_BadStand.2.2.2⟩
  have x_NoMove := He.exc_ok (c.1.fact 67 (f := .exc "NoMove") rfl)
  have O_NoMove : XcOk K mg (xcAt K) "NoMove" .move := ⟨He.glo_ok X G (c.1.fact 62 (f := .glo "NoMove") rfl), x_NoMove.1, x_NoMove.2.1, x_NoMove.2.2.1, x_NoMove.2.2.2⟩
  have x_NoPlace := He.exc_ok (c.1.fact 68 (f := .exc "NoPlace") rfl)
  have O_NoPlace : XcOk K mg (xcAt K) "NoPlace" .place := ⟨He.glo_ok X G (c.1.fact 63 (f := .glo "NoPlace") rfl), x_NoPlace.1, x_NoPlace.2.1, x_NoPlace.2.2.1, x_NoPlace.2.2.2⟩
  have xc_eq : xcAt K = fun c => He.ga K (xcN c) := funext fun c => by cases c <;> rfl
  have O_ex : ExOk K (xcAt K) := xc_eq ▸ exOk_of (He.ba c.2).1
  have O_LaneError : LnOk K mg (xcAt K) (He.ga K "LaneError") := ⟨He.glo_ok X G (c.1.fact 69 (f := .glo "LaneError") rfl), fun d => match d with | .lane => He.exm_ok (c.1.fact 70 (f := .exm "BadLane" "LaneError" true) rfl) | .ways => He.exm_ok (c.1.fact 71 (f := .exm "BadWays" "LaneError" true) rfl) | .stand => He.exm_ok (c.1.fact 72 (f := .exm "BadStand" "LaneError" true) rfl) | .move => He.exm_ok (c.1.fact 73 (f := .exm "NoMove" "LaneError" true) rfl) | .place => He.exm_ok (c.1.fact 74 (f := .exm "NoPlace" "LaneError" true) rfl)⟩
  refine ⟨fd, fun s v => b s [v] rfl, fun base _ _ => ?_⟩
  have G__wall := ok__wall (P := P) (w := w) (base := base) (xa := xcAt K) F0 (He.glo_ok X G (c.1.fact 0 (f := .glo "_wall") rfl))
  have G_is_among := ok_is_among (P := P) (w := w) (base := base) (xa := xcAt K) F1 (He.glo_ok X G (c.1.fact 1 (f := .glo "is_among") rfl)) m_int m_isinstance m_bool
  have G_need_lane := ok_need_lane (P := P) (w := w) (base := base) (xa := xcAt K) F2 (He.glo_ok X G (c.1.fact 2 (f := .glo "need_lane") rfl)) m_list m_isinstance m_len m_all i_MOST_PLACES i_MOST_ASIDE O_BadLane G_is_among
  have G_need_ways := ok_need_ways (P := P) (w := w) (base := base) (xa := xcAt K) F3 (He.glo_ok X G (c.1.fact 3 (f := .glo "need_ways") rfl)) m_list m_isinstance m_len m_str m_all i_MOST_TRAINS O_BadWays
  have G_is_spot := ok_is_spot (P := P) (w := w) (base := base) (xa := xcAt K) F4 (He.glo_ok X G (c.1.fact 4 (f := .glo "is_spot") rfl)) m_tuple m_isinstance m_len m_str G_is_among
  have G_has_room := ok_has_room (P := P) (w := w) (base := base) (xa := xcAt K) F5 (He.glo_ok X G (c.1.fact 5 (f := .glo "has_room") rfl)) m_len m_range
  have G_need_stand := ok_need_stand (P := P) (w := w) (base := base) (xa := xcAt K) F6 (He.glo_ok X G (c.1.fact 6 (f := .glo "need_stand") rfl)) m_tuple m_isinstance m_len m_all O_BadStand G_need_lane G_need_ways G_is_spot G_has_room
  obtain ⟨fdY, FY⟩ := c.1.def_ 41 (d := dY) rfl
  have G_Yard := ok_Yard (P := P) (w := w) (base := base) (xa := xcAt K) FY (He.mkr_ok (c.1.fact 77 (f := .mkr "Yard") rfl)) ⟨He.cls_ok (c.1.fact 76 (f := .cls "Yard") rfl), He.noat_ok (c.1.fact 78 (f := .noat "Yard" "rooms") rfl), He.noat_ok (c.1.fact 79 (f := .noat "Yard" "courses") rfl), He.noat_ok (c.1.fact 80 (f := .noat "Yard" "spots") rfl), He.noat_ok (c.1.fact 81 (f := .noat "Yard" "ahead") rfl)⟩ (He.glo_ok X G (c.1.fact 75 (f := .glo "Yard") rfl)) m_list G_need_stand
  have G_way_left := ok_way_left (P := P) (w := w) (base := base) (xa := xcAt K) F7 (He.glo_ok X G (c.1.fact 7 (f := .glo "way_left") rfl)) m_len
  have G_left_of := ok_left_of (P := P) (w := w) (base := base) (xa := xcAt K) F8 (He.glo_ok X G (c.1.fact 8 (f := .glo "left_of") rfl)) m_zip m_sum G_way_left
  have G_next_spot := ok_next_spot (P := P) (w := w) (base := base) (xa := xcAt K) F9 (He.glo_ok X G (c.1.fact 9 (f := .glo "next_spot") rfl)) m_len
  have G_goal_of := ok_goal_of (P := P) (w := w) (base := base) (xa := xcAt K) F10 (He.glo_ok X G (c.1.fact 10 (f := .glo "goal_of") rfl)) G_next_spot
  have G_moved := ok_moved (P := P) (w := w) (base := base) (xa := xcAt K) F11 (He.glo_ok X G (c.1.fact 11 (f := .glo "moved") rfl))
  have G_moves_of := ok_moves_of (P := P) (w := w) (base := base) (xa := xcAt K) F12 (He.glo_ok X G (c.1.fact 12 (f := .glo "moves_of") rfl)) m_len m_range G_goal_of G_moved
  have G_left_to_go := ok_left_to_go (P := P) (w := w) (base := base) (xa := xcAt K) F13 (He.glo_ok X G (c.1.fact 13 (f := .glo "left_to_go") rfl)) G_need_stand G_left_of
  have G_allowed := ok_allowed (P := P) (w := w) (base := base) (xa := xcAt K) F14 (He.glo_ok X G (c.1.fact 14 (f := .glo "allowed") rfl)) G_need_stand G_moves_of
  have G_behind := ok_behind (P := P) (w := w) (base := base) (xa := xcAt K) F15 (He.glo_ok X G (c.1.fact 15 (f := .glo "behind") rfl)) m_tuple m_isinstance m_len O_NoMove G_need_stand G_is_among G_moves_of
  have G_all_reached := ok_all_reached (P := P) (w := w) (base := base) (xa := xcAt K) F16 (He.glo_ok X G (c.1.fact 16 (f := .glo "all_reached") rfl)) m_len G_moves_of
  have G_rank := ok_rank (P := P) (w := w) (base := base) (xa := xcAt K) F17 (He.glo_ok X G (c.1.fact 17 (f := .glo "rank") rfl)) m_len G_left_of
  have G_all_prices := ok_all_prices (P := P) (w := w) (base := base) (xa := xcAt K) F18 (He.glo_ok X G (c.1.fact 18 (f := .glo "all_prices") rfl)) m_sorted m_min G_all_reached G_rank G_left_of
  have G_reached := ok_reached (P := P) (w := w) (base := base) (xa := xcAt K) F19 (He.glo_ok X G (c.1.fact 19 (f := .glo "reached") rfl)) m_list G_need_stand G_all_reached
  have G_prices := ok_prices (P := P) (w := w) (base := base) (xa := xcAt K) F20 (He.glo_ok X G (c.1.fact 20 (f := .glo "prices") rfl)) m_list G_need_stand G_all_prices
  have G_least_row := ok_least_row (P := P) (w := w) (base := base) (xa := xcAt K) F21 (He.glo_ok X G (c.1.fact 21 (f := .glo "least_row") rfl)) G_need_stand G_all_prices G_moves_of
  have G_closed := ok_closed (P := P) (w := w) (base := base) (xa := xcAt K) F22 (He.glo_ok X G (c.1.fact 22 (f := .glo "closed") rfl)) m_list G_need_stand G_all_prices
  have G_closed_search := G_closed.alias (y := "closed_search") ((He.glo_ok X G (c.1.fact 82 (f := .glo "closed_search") rfl)).trans ((congrArg (fun a => some (Value.ref a)) (of_decide_eq_true (He.ba c.2).2)).trans (He.glo_ok X G (c.1.fact 22 (f := .glo "closed") rfl)).symm)) (by decide)
  have G_turned_lane := ok_turned_lane (P := P) (w := w) (base := base) (xa := xcAt K) F23 (He.glo_ok X G (c.1.fact 23 (f := .glo "turned_lane") rfl)) m_list m_reversed G_need_lane
  have G_turned_ways := ok_turned_ways (P := P) (w := w) (base := base) (xa := xcAt K) F24 (He.glo_ok X G (c.1.fact 24 (f := .glo "turned_ways") rfl)) G_need_ways
  have G_turned_spot := ok_turned_spot (P := P) (w := w) (base := base) (xa := xcAt K) F25 (He.glo_ok X G (c.1.fact 25 (f := .glo "turned_spot") rfl)) m_len
  have G_turned_stand := ok_turned_stand (P := P) (w := w) (base := base) (xa := xcAt K) F26 (He.glo_ok X G (c.1.fact 26 (f := .glo "turned_stand") rfl)) m_tuple G_need_lane G_turned_spot
  have G__law_cell_at := ok__law_cell_at (P := P) (w := w) (base := base) (xa := xcAt K) F27 (He.glo_ok X G (c.1.fact 27 (f := .glo "_law_cell_at") rfl)) m_len
  have G__law_mixed := ok__law_mixed (P := P) (w := w) (base := base) (xa := xcAt K) F28 (He.glo_ok X G (c.1.fact 28 (f := .glo "_law_mixed") rfl)) G__law_cell_at
  have G__law_spot := ok__law_spot (P := P) (w := w) (base := base) (xa := xcAt K) F29 (He.glo_ok X G (c.1.fact 29 (f := .glo "_law_spot") rfl)) m_len m_range
  have G__law_built := ok__law_built (P := P) (w := w) (base := base) (xa := xcAt K) F30 (He.glo_ok X G (c.1.fact 30 (f := .glo "_law_built") rfl)) m_int m_range m_tuple G__law_cell_at G__law_mixed G__law_spot
  have G__law_kind := ok__law_kind (P := P) (w := w) (base := base) (xa := xcAt K) F31 (He.glo_ok X G (c.1.fact 31 (f := .glo "_law_kind") rfl)) m_isinstance m_ValueError m_int O_BadLane O_BadWays O_BadStand O_NoMove O_NoPlace O_ex
  have G__law_number := ok__law_number (P := P) (w := w) (base := base) (xa := xcAt K) F32 (He.glo_ok X G (c.1.fact 32 (f := .glo "_law_number") rfl))
  have G__law_bad_lane := ok__law_bad_lane (P := P) (w := w) (base := base) (xa := xcAt K) F33 (He.glo_ok X G (c.1.fact 33 (f := .glo "_law_bad_lane") rfl)) m_len m_tuple G__law_number
  have G__law_bad_ways := ok__law_bad_ways (P := P) (w := w) (base := base) (xa := xcAt K) F34 (He.glo_ok X G (c.1.fact 34 (f := .glo "_law_bad_ways") rfl)) m_len m_tuple
  have G__law_bad_spots := ok__law_bad_spots (P := P) (w := w) (base := base) (xa := xcAt K) F35 (He.glo_ok X G (c.1.fact 35 (f := .glo "_law_bad_spots") rfl)) m_len
  have G__law_crowded := ok__law_crowded (P := P) (w := w) (base := base) (xa := xcAt K) F36 (He.glo_ok X G (c.1.fact 36 (f := .glo "_law_crowded") rfl)) m_len m_range
  have G__law_bad_stand := ok__law_bad_stand (P := P) (w := w) (base := base) (xa := xcAt K) F37 (He.glo_ok X G (c.1.fact 37 (f := .glo "_law_bad_stand") rfl)) m_len m_list G__law_bad_spots G__law_crowded
  have G__law_asked := ok__law_asked (P := P) (w := w) (base := base) (xa := xcAt K) F38 (He.glo_ok X G (c.1.fact 38 (f := .glo "_law_asked") rfl)) O_LaneError G_Yard G_need_stand G_left_to_go G_allowed G_reached G_prices G_least_row G_closed_search G_behind G__law_kind
  have G__law_alone := ok__law_alone (P := P) (w := w) (base := base) (xa := xcAt K) F39 (He.glo_ok X G (c.1.fact 39 (f := .glo "_law_alone") rfl)) O_LaneError G_turned_stand G_need_lane G_turned_lane G_need_ways G_turned_ways G__law_kind
  exact ok_law (xa := xcAt K) F m_list m_isinstance m_range m_int m_len G__law_built G__law_cell_at G__law_bad_stand G__law_bad_ways G__law_bad_lane G__law_asked G__law_alone G__law_bad_spots G_need_lane G_need_ways G_need_stand
end DS.K01
open PySem PySem.W PySem.Calls PyProof.Rows
theorem PySem.Challenge.cw_sidinglane_k01_what_is_refused_holds : PySem.Challenge.rw_sidinglane_k01_what_is_refused.Holds := by
  w_on; o_law
  refine HandSHeadRun.head_any (r := OpenLaw.row PySem.Challenge.rw_sidinglane_k01_what_is_refused) (q := view (OpenLaw.row PySem.Challenge.rw_sidinglane_k01_what_is_refused).prog [58]) (H := DS.K01.hk) (ob := DS.K01.ob) (M := 4000) (loose := DS.K01.others) (d := HandSHeadRun.topDef (OpenLaw.row PySem.Challenge.rw_sidinglane_k01_what_is_refused).prog 58) (kwd := []) DS.K01.ob_eq
    (by kernel_rfl) (fun s => by kernel_rfl) DS.K01.run (by kernel_rfl) (by kernel_rfl) (by kernel_rfl) (by rfl) (by first | assumption | decide +kernel) (by decide +kernel) ⟨rfl, rfl, rfl, rfl, rfl, by decide +kernel⟩ ?hw ?hc
  case hw => w_witness2
  case hc =>
    refine L2.walk_ofE (l := PySem.Challenge.rw_sidinglane_k01_what_is_refused) (n := 63) (k := 8) (x := "_law_script") (CX := L2.CX0) rfl (by decide) (by kernel_rfl) ⟨rfl, by decide, by decide⟩ ?F (fun _ _ _ _ z => z)
    intro w mg fa h Y G hmg0
    obtain ⟨K, KX, c⟩ := Y
    have hmg : mg ("law" : PySem.Str) = some (.ref fa) := by
      have e : (HandSHeadRun.topDef (OpenLaw.row PySem.Challenge.rw_sidinglane_k01_what_is_refused).prog 58).name = ("law" : PySem.Str) := by kernel_rfl
      rw [← e]
      exact hmg0
    obtain ⟨fd, hb, hF⟩ := DS.K01.facts (P := (PySem.Challenge.rw_sidinglane_k01_what_is_refused).prog) (w := w) KX G hmg c
    exact ⟨K, fd, DS.spL K, KX, hb, fun H a ns hl ho hS => ⟨a, ns, rfl, DS.scr_of ho hS, fun _ => rfl⟩, hF⟩
