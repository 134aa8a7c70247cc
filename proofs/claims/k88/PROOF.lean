import PyProof.Rows.All
import Wide.All
import OpenK.AllK
import Wide.FinOn
import HandS.Lambda
import HandS.ForMost
import HandS.TupLe
import HandS.TupAny
import HandS.Deep
import HandS.IsInst
import HandS.Gcd
import HandS.Comp
import HandS.Style
import HandS.Defaults
import HandS.Iter
import HandS.Zip
import KE.GoesMore
import PyProof.TupleOfSeq
import HandS.Conv
import HandS.Star
import HandS.SetFor
import PyProof.ReprRoads
import KE.DatumOrd
import HandS.SortOrd
import HandS.SortInts
import KE.KSortTup
import PyProof.Rows.SortKeyStr
import PyProof.Rows.SortStr
import HandS.TupSets
import HandS.Strs
import HandS.Dict
import HandS.More
import HandS.DictComp
import KE.DataMinMax
import HandS.SortKw
import HandS.Nested
import KE.KLam
import HandS.Head0
import KE.SortData
import HandS.HeadHook4
import HandS.HeadWalk
import HandS.Head1
import HandS.Head2
import HandS.Head3
import HandS.HeadEnd
import PySem.Challenge.RW_lotbooks_k88_whole_alike_books
set_option Elab.async false
set_option linter.all false
set_option maxRecDepth 100000
set_option maxHeartbeats 1000000
/-! PvA: plain data D, how a layer value stands for it, heaps that grow -/
namespace Pv
open PySem PySem.Spec PyProof.Rows L2

/-- plain data; wk: an own list that is just read; ref: an object of the small heap; fn: a def -/
inductive D where
  | non | bl (b : Bool) | int (i : Int) | str (x : Str)
  | tup (xs : List D) | lst (xs : List D) | wk (xs : List D)
  | dct (t : Bool) (ks vs : List D) | wkd (t : Bool) (ks vs : List D)
  | ref (i : Nat) | fn (f : Str) | ty (n : String)
  | sc (xs : List D) | clo (f k : Addr) (q : Str) (ws : List D) (us : List V)
  deriving Inhabited

def D.strong : D → Bool
  | .wk _ => false
  | .wkd _ _ _ => false
  | _ => true

/-- what is fixed while a def runs: the written part, where defs stand -/
structure Cn where
  K : PySem.W.Frag
  fa : Str → Addr
  st : Bool

def Fixed : HO → Prop
  | .tup _ => True
  | .frz _ _ => True
  | .ext _ => True
  | _ => False

/-- a dict's pairs as the layer has them: keys ints and texts -/
def keyD : D → Option Key
  | .int i => some (.inl i)
  | .str x => some (.inr x)
  | _ => none
def tkeyD : D → Option (List Key)
  | .tup xs => xs.mapM keyD
  | _ => none

/-- a list that no one changes: tracked and frozen, or of the module -/
def FzL (K : PySem.W.Frag) (H : Hp) (a : Addr) (xs : List V) : Prop :=
  (∃ o, H a = some (.frz o (.lst xs))) ∨
    ∃ (o : Obj) (its : Array Value) (n : Nat), K.lookup a = some o ∧ o.cls = .type "list" ∧ o.dict = none ∧ o.data = .seq its n ∧ its.size ≤ sizeLine ∧ Vals xs its.toList
theorem FzL.sq {K : PySem.W.Frag} {H : Hp} {a : Addr} {xs : List V} (h : FzL K H a xs) : SqL K H a xs := h.imp (fun ⟨o, h⟩ => .inr ⟨o, h⟩) id
/-- what the dict holds: by ints and texts (t = false), by tuples of them (t = true) -/
def DcK (s t : Bool) (ks : List D) (ws : List V) (u : HO) : Prop := match t with
  | false => ∃ kk : List Key, ks.mapM keyD = some kk ∧ kk.length = ws.length ∧ u = .dK (kk.zip ws)
  | true => ∃ kk : List (List Key), ks.mapM tkeyD = some kk ∧ kk.length = ws.length ∧ u = .dT (kk.zip ws) ∧ s = true
theorem DcK.mut {s t : Bool} {ks : List D} {ws : List V} {u : HO} (h : DcK s t ks ws u) : ¬ Fixed u := by
  cases t with
  | false => obtain ⟨_, _, _, rfl⟩ := h; exact fun z => z
  | true => obtain ⟨_, _, _, rfl, _⟩ := h; exact fun z => z
/-- a tuple: strictly tracked, where the law is of that kind -/
abbrev TupK (c : Cn) (H : Hp) (a : Addr) (vs : List V) : Prop := SqT c.K H a vs ∧ (c.st = true → H a = some (.tup vs))
mutual
def Rel (c : Cn) (G : List Addr) (H : Hp) : D → V → Prop
  | .non, v => v = .non
  | .bl b, v => v = .bl b
  | .int i, v => v = .int i
  | .str x, v => v = .str x
  | .tup xs, v => ∃ a vs, v = .ref a ∧ TupK c H a vs ∧ RelL c G H xs vs
  | .lst xs, v => ∃ a o vs, v = .ref a ∧ H a = some (.frz o (.lst vs)) ∧ RelL c G H xs vs
  | .wk xs, v => ∃ a vs, v = .ref a ∧ H a = some (.lst vs) ∧ a ∉ G ∧ RelL c G H xs vs
  | .dct t ks vs, v => ∃ a o u ws, v = .ref a ∧ H a = some (.frz o u) ∧ DcK c.st t ks ws u ∧ RelL c G H vs ws
  | .wkd t ks vs, v => ∃ a u ws, v = .ref a ∧ H a = some u ∧ a ∉ G ∧ DcK c.st t ks ws u ∧ RelL c G H vs ws
  | .ref i, v => ∃ a, G[i]? = some a ∧ v = .ref a
  | .fn f, v => v = .ref (c.fa f)
  | .ty n, v => v = .ty n
  | .sc xs, v => ∃ a vs, v = .ref a ∧ FzL c.K H a vs ∧ RelL c G H xs vs
  | .clo f k q ws us, v => v = .ref f ∧ H k = some (LamX.CodeO k q) ∧ RelL c G H ws us
def RelL (c : Cn) (G : List Addr) (H : Hp) : List D → List V → Prop
  | [], vs => vs = []
  | d :: ds, vs => ∃ v r, vs = v :: r ∧ d.strong = true ∧ Rel c G H d v ∧ RelL c G H ds r
end

/-- a heap that an expression leaves: what is tracked stands, but for the small heap's objects, which may change; these may become more -/
structure Ext (G : List Addr) (H : Hp) (G' : List Addr) (H' : Hp) : Prop where
  pre : ∃ N, G' = G ++ N ∧ ∀ a ∈ N, H a = none
  keep : ∀ a o, H a = some o → a ∉ G → H' a = some o
  fix : ∀ a o, H a = some o → Fixed o → H' a = some o
  live : ∀ a, H a ≠ none → H' a ≠ none
/-- new objects alone -/
def ExtN (H H' : Hp) : Prop := ∀ a o, H a = some o → H' a = some o
/-- what a statement leaves -/
structure ExtS (G : List Addr) (H : Hp) (G' : List Addr) (H' : Hp) : Prop where
  pre : ∃ N, G' = G ++ N
  fix : ∀ a o, H a = some o → Fixed o → H' a = some o

theorem Ext.toS {G H G' H'} (x : Ext G H G' H') : ExtS G H G' H' := ⟨let ⟨N, e, _⟩ := x.pre; ⟨N, e⟩, x.fix⟩
theorem Ext.refl {G H} : Ext G H G H := ⟨⟨[], by simp⟩, fun _ _ h _ => h, fun _ _ h _ => h, fun _ h => h⟩
theorem Ext.ofN {G H H'} (x : ExtN H H') : Ext G H G H' := ⟨⟨[], by simp⟩, fun _ _ h _ => x _ _ h, fun _ _ h _ => x _ _ h, fun a h => by
  cases q : H a with
  | none => exact absurd q h
  | some o => rw [x a o q]; exact Option.some_ne_none o⟩
theorem ExtN.refl {H} : ExtN H H := fun _ _ h => h
theorem ExtN.trans {H H1 H2} (a : ExtN H H1) (b : ExtN H1 H2) : ExtN H H2 := fun _ _ h => b _ _ (a _ _ h)
theorem ExtN.upd {H : Hp} {a : Addr} {o : HO} (h : H a = none) : ExtN H (upd H a o) := fun b x e => by
  rw [upd_ne (ne_of_none e h)]; exact e
theorem ExtS.refl {G H} : ExtS G H G H := ⟨⟨[], by simp⟩, fun _ _ h _ => h⟩
theorem ExtS.trans {G H G1 H1 G2 H2} (a : ExtS G H G1 H1) (b : ExtS G1 H1 G2 H2) : ExtS G H G2 H2 := by
  obtain ⟨N, e⟩ := a.pre
  obtain ⟨M, e'⟩ := b.pre
  exact ⟨⟨N ++ M, by rw [e', e, List.append_assoc]⟩, fun x o h f => b.fix _ _ (a.fix _ _ h f) f⟩
theorem Ext.notMem {G H G' H'} (x : Ext G H G' H') {a : Addr} {o : HO} (h : H a = some o) (n : a ∉ G) : a ∉ G' := by
  obtain ⟨N, e, f⟩ := x.pre
  subst e
  intro z
  rcases List.mem_append.mp z with z | z
  · exact n z
  · rw [f a z] at h; cases h
theorem Ext.trans {G H G1 H1 G2 H2} (a : Ext G H G1 H1) (b : Ext G1 H1 G2 H2) : Ext G H G2 H2 := by
  obtain ⟨N, e, f⟩ := a.pre
  obtain ⟨M, e', f'⟩ := b.pre
  refine ⟨⟨N ++ M, by rw [e', e, List.append_assoc], fun x hx => ?_⟩, fun x o h n => b.keep _ _ (a.keep _ _ h n) (a.notMem h n), fun x o h f => b.fix _ _ (a.fix _ _ h f) f, fun x h => b.live _ (a.live _ h)⟩
  rcases List.mem_append.mp hx with z | z
  · exact f x z
  · cases q : H x with
    | none => rfl
    | some o => exact absurd (f' x z) (a.live x (by rw [q]; exact Option.some_ne_none o))

/-! ### what stands for data stays -/
theorem SqT.extS {K : PySem.W.Frag} {G H G' H'} {a : Addr} {vs : List V} (h : SqT K H a vs) (x : ExtS G H G' H') : SqT K H' a vs := by
  rcases h with h | h
  · rcases h with h | ⟨o, h⟩
    · exact .inl (.inl (x.fix _ _ h trivial))
    · exact .inl (.inr ⟨o, x.fix _ _ h trivial⟩)
  · exact .inr h
theorem TupK.extS {c : Cn} {G H G' H'} {a : Addr} {vs : List V} (h : TupK c H a vs) (x : ExtS G H G' H') : TupK c H' a vs := ⟨SqT.extS h.1 x, fun z => x.fix _ _ (h.2 z) trivial⟩
theorem get_pre {G G' : List Addr} (x : ∃ N, G' = G ++ N) {i : Nat} {a : Addr} (h : G[i]? = some a) : G'[i]? = some a := by
  obtain ⟨N, e⟩ := x
  rw [e, List.getElem?_append_left (List.getElem?_eq_some_iff.mp h).1]
  exact h
mutual
theorem Rel.extS {c : Cn} {G H G' H'} (x : ExtS G H G' H') : ∀ {d : D} {v : V}, d.strong = true → Rel c G H d v → Rel c G' H' d v
  | .non, _, _, h => by simpa [Rel] using h
  | .bl _, _, _, h => by simpa [Rel] using h
  | .int _, _, _, h => by simpa [Rel] using h
  | .str _, _, _, h => by simpa [Rel] using h
  | .tup xs, v, _, h => by
    simp only [Rel] at h ⊢
    obtain ⟨a, vs, e, h1, h2⟩ := h
    exact ⟨a, vs, e, ⟨SqT.extS h1.1 x, fun z => x.fix _ _ (h1.2 z) trivial⟩, RelL.extS x h2⟩
  | .lst xs, v, _, h => by
    simp only [Rel] at h ⊢
    obtain ⟨a, o, vs, e, h1, h2⟩ := h
    exact ⟨a, o, vs, e, x.fix _ _ h1 trivial, RelL.extS x h2⟩
  | .wk _, _, s, _ => by cases s
  | .dct t ks vs, _, _, h => by
    simp only [Rel] at h ⊢
    obtain ⟨a, o, u, ws, e, h1, h2, h3⟩ := h
    exact ⟨a, o, u, ws, e, x.fix _ _ h1 trivial, h2, RelL.extS x h3⟩
  | .wkd _ _ _, _, s, _ => by cases s
  | .ref i, v, _, h => by
    simp only [Rel] at h ⊢
    obtain ⟨a, h1, h2⟩ := h
    exact ⟨a, get_pre x.pre h1, h2⟩
  | .fn f, v, _, h => by simpa [Rel] using h
  | .ty n, v, _, h => by simpa [Rel] using h
  | .sc xs, v, _, h => by
    simp only [Rel] at h ⊢
    obtain ⟨a, vs, e, h1, h2⟩ := h
    exact ⟨a, vs, e, h1.imp (fun ⟨o, h⟩ => ⟨o, x.fix _ _ h trivial⟩) id, RelL.extS x h2⟩
  | .clo f k q ws us, v, _, h => by
    simp only [Rel] at h ⊢
    exact ⟨h.1, x.fix _ _ h.2.1 trivial, RelL.extS x h.2.2⟩
theorem RelL.extS {c : Cn} {G H G' H'} (x : ExtS G H G' H') : ∀ {ds : List D} {vs : List V}, RelL c G H ds vs → RelL c G' H' ds vs
  | [], _, h => by simpa [RelL] using h
  | d :: ds, _, h => by
    simp only [RelL] at h ⊢
    obtain ⟨v, r, e, s, h1, h2⟩ := h
    exact ⟨v, r, e, s, Rel.extS x s h1, RelL.extS x h2⟩
end
theorem Rel.ext {c : Cn} {G H G' H'} (x : Ext G H G' H') {d : D} {v : V} (h : Rel c G H d v) : Rel c G' H' d v := by
  cases d with
  | wk xs =>
    simp only [Rel] at h ⊢
    obtain ⟨a, vs, e, h1, h2, h3⟩ := h
    exact ⟨a, vs, e, x.keep _ _ h1 h2, x.notMem h1 h2, RelL.extS x.toS h3⟩
  | wkd t ks vs =>
    simp only [Rel] at h ⊢
    obtain ⟨a, u, ws, e, h1, h2, h3, h4⟩ := h
    exact ⟨a, u, ws, e, x.keep _ _ h1 h2, x.notMem h1 h2, h3, RelL.extS x.toS h4⟩
  | _ => exact Rel.extS x.toS rfl h
theorem RelL.length {c : Cn} {G H} : ∀ {ds : List D} {vs : List V}, RelL c G H ds vs → vs.length = ds.length
  | [], _, h => by simp only [RelL] at h; subst h; rfl
  | d :: ds, _, h => by
    simp only [RelL] at h
    obtain ⟨v, r, e, _, _, h2⟩ := h
    subst e
    simp [RelL.length h2]
theorem RelL.get {c : Cn} {G H} : ∀ {ds : List D} {vs : List V} {i : Nat} {d : D}, RelL c G H ds vs → ds[i]? = some d → ∃ v, vs[i]? = some v ∧ d.strong = true ∧ Rel c G H d v
  | [], _, _, _, _, e => by simp at e
  | d :: ds, _, 0, d', h, e => by
    simp only [RelL] at h
    obtain ⟨v, r, rfl, s, h1, h2⟩ := h
    simp at e; subst e
    exact ⟨v, rfl, s, h1⟩
  | d :: ds, _, i + 1, d', h, e => by
    simp only [RelL] at h
    obtain ⟨v, r, rfl, s, h1, h2⟩ := h
    simp at e
    obtain ⟨v', e1, e2⟩ := RelL.get h2 e
    exact ⟨v', by simpa using e1, e2⟩
theorem RelL.get' {c : Cn} {G H} : ∀ {ds : List D} {vs : List V} {i : Nat} {v : V}, RelL c G H ds vs → vs[i]? = some v → ∃ d, ds[i]? = some d ∧ d.strong = true ∧ Rel c G H d v := fun {ds vs i v} h e => by
  have hl := RelL.length h
  have hi : i < ds.length := by rw [← hl]; exact (List.getElem?_eq_some_iff.mp e).1
  obtain ⟨v', e1, e2, e3⟩ := RelL.get h (List.getElem?_eq_getElem hi)
  rw [e] at e1; cases e1
  exact ⟨_, List.getElem?_eq_getElem hi, e2, e3⟩
theorem RelL.append {c : Cn} {G H} : ∀ {ds es : List D} {vs ws : List V}, RelL c G H ds vs → RelL c G H es ws → RelL c G H (ds ++ es) (vs ++ ws)
  | [], _, _, _, h, h' => by simp only [RelL] at h; subst h; simpa using h'
  | d :: ds, es, _, ws, h, h' => by
    simp only [RelL, List.cons_append] at h ⊢
    obtain ⟨v, r, rfl, s, h1, h2⟩ := h
    exact ⟨v, r ++ ws, rfl, s, h1, RelL.append h2 h'⟩
theorem RelL.drop {c : Cn} {G H} : ∀ (n : Nat) {ds : List D} {vs : List V}, RelL c G H ds vs → RelL c G H (ds.drop n) (vs.drop n)
  | 0, _, _, h => by simpa using h
  | n + 1, [], _, h => by simp only [RelL] at h; subst h; simp [RelL]
  | n + 1, d :: ds, _, h => by
    simp only [RelL] at h
    obtain ⟨v, r, rfl, s, h1, h2⟩ := h
    simpa using RelL.drop n h2
theorem RelL.take {c : Cn} {G H} : ∀ (n : Nat) {ds : List D} {vs : List V}, RelL c G H ds vs → RelL c G H (ds.take n) (vs.take n)
  | 0, _, _, h => by simp [RelL]
  | n + 1, [], _, h => by simp only [RelL] at h; subst h; simp [RelL]
  | n + 1, d :: ds, _, h => by
    simp only [RelL] at h
    obtain ⟨v, r, rfl, s, h1, h2⟩ := h
    simp only [List.take_succ_cons, RelL]
    exact ⟨v, _, rfl, s, h1, RelL.take n h2⟩
theorem RelL.set {c : Cn} {G H} {d' : D} {v' : V} (s' : d'.strong = true) (h' : Rel c G H d' v') : ∀ (n : Nat) {ds : List D} {vs : List V}, RelL c G H ds vs → RelL c G H (ds.set n d') (vs.set n v')
  | _, [], _, h => by simp only [RelL] at h; subst h; simp [RelL]
  | 0, d :: ds, _, h => by
    simp only [RelL] at h
    obtain ⟨v, r, rfl, s, h1, h2⟩ := h
    simp only [List.set_cons_zero, RelL]
    exact ⟨v', r, rfl, s', h', h2⟩
  | n + 1, d :: ds, _, h => by
    simp only [RelL] at h
    obtain ⟨v, r, rfl, s, h1, h2⟩ := h
    simp only [List.set_cons_succ, RelL]
    exact ⟨v, _, rfl, s, h1, RelL.set s' h' n h2⟩
theorem RelL.eraseIdx {c : Cn} {G H} : ∀ (n : Nat) {ds : List D} {vs : List V}, RelL c G H ds vs → RelL c G H (ds.eraseIdx n) (vs.eraseIdx n)
  | _, [], _, h => by simp only [RelL] at h; subst h; simp [RelL]
  | 0, d :: ds, _, h => by
    simp only [RelL] at h
    obtain ⟨v, r, rfl, s, h1, h2⟩ := h
    simpa using h2
  | n + 1, d :: ds, _, h => by
    simp only [RelL] at h
    obtain ⟨v, r, rfl, s, h1, h2⟩ := h
    simp only [List.eraseIdx_cons_succ, RelL]
    exact ⟨v, _, rfl, s, h1, RelL.eraseIdx n h2⟩
theorem RelL.dropLast {c : Cn} {G H} {ds : List D} {vs : List V} (h : RelL c G H ds vs) : RelL c G H ds.dropLast vs.dropLast := by
  rw [List.dropLast_eq_take, List.dropLast_eq_take, RelL.length h]
  exact RelL.take _ h
/-- arguments: weak ones too -/
def RelA (c : Cn) (G : List Addr) (H : Hp) : List D → List V → Prop
  | [], vs => vs = []
  | d :: ds, vs => ∃ v r, vs = v :: r ∧ Rel c G H d v ∧ RelA c G H ds r
theorem RelA.ext {c : Cn} {G H G' H'} (x : Ext G H G' H') : ∀ {ds : List D} {vs : List V}, RelA c G H ds vs → RelA c G' H' ds vs
  | [], _, h => by simpa [RelA] using h
  | d :: ds, _, h => by
    simp only [RelA] at h ⊢
    obtain ⟨v, r, e, h1, h2⟩ := h
    exact ⟨v, r, e, Rel.ext x h1, RelA.ext x h2⟩
theorem RelA.strong {c : Cn} {G H} : ∀ {ds : List D} {vs : List V}, RelA c G H ds vs → ds.all D.strong = true → RelL c G H ds vs
  | [], _, h, _ => by simpa [RelA, RelL] using h
  | d :: ds, _, h, s => by
    simp only [RelA] at h
    obtain ⟨v, r, e, h1, h2⟩ := h
    simp only [List.all_cons, Bool.and_eq_true] at s
    simp only [RelL]
    exact ⟨v, r, e, s.1, h1, RelA.strong h2 s.2⟩
theorem RelA.length {c : Cn} {G H} : ∀ {ds : List D} {vs : List V}, RelA c G H ds vs → vs.length = ds.length
  | [], _, h => by simp only [RelA] at h; subst h; rfl
  | d :: ds, _, h => by
    simp only [RelA] at h
    obtain ⟨v, r, e, _, h2⟩ := h
    subst e
    simp [RelA.length h2]

/-! ### the small heap -/
inductive Bx where
  | lst (xs : List D)
  | ins (cls : Str) (fs : List (Str × D))
  | tab (P : Addr) (q : Str)
def BxR (c : Cn) (G : List Addr) (H : Hp) : Bx → Addr → Prop
  | .lst xs, a => ∃ vs, H a = some (.lst vs) ∧ RelL c G H xs vs
  | .ins _ _, _ => False
  | .tab P q, a => a = P ∧ LamX.TabS H P q
theorem tab_step {H H' : Hp} {P : Addr} {q : Str} (h : LamX.TabS H P q) (e : H' P = H P) (f : ∀ b u, H b = some u → Fixed u → H' b = some u) : LamX.TabS H' P q := by
  obtain ⟨ps, h1, h2, h3⟩ := h
  refine ⟨ps, by rw [e]; exact h1, h2, fun pos cv hc => ?_⟩
  obtain ⟨k, e1, e2⟩ := h3 pos cv hc
  exact ⟨k, e1, f _ _ e2 trivial⟩
structure DR (c : Cn) (G : List Addr) (H : Hp) (δ : List Bx) : Prop where
  len : G.length = δ.length
  nd : G.Nodup
  ob : ∀ (i : Nat) (o : Bx), δ[i]? = some o → ∃ a : Addr, G[i]? = some a ∧ BxR c G H o a
theorem BxR.mut {c : Cn} {G : List Addr} {H : Hp} {o : Bx} {a : Addr} (h : BxR c G H o a) : ∃ x, H a = some x ∧ ¬ Fixed x := by
  cases o with
  | lst xs => obtain ⟨vs, e, _⟩ := h; exact ⟨_, e, fun z => z⟩
  | ins _ _ => exact h.elim
  | tab P q => obtain ⟨rfl, ps, e, _⟩ := h; exact ⟨_, e, fun z => z⟩
theorem DR.at {c : Cn} {G : List Addr} {H : Hp} {δ : List Bx} (d : DR c G H δ) {a : Addr} (h : a ∈ G) : ∃ x, H a = some x ∧ ¬ Fixed x := by
  obtain ⟨i, hi, e⟩ := List.getElem_of_mem h
  obtain ⟨a', e1, r⟩ := d.ob i (δ[i]'(by rw [← d.len]; exact hi)) (List.getElem?_eq_getElem _)
  rw [List.getElem?_eq_getElem hi, e] at e1
  cases e1
  exact r.mut
/-- new objects: the small heap as it was -/
theorem DR.new {c : Cn} {G : List Addr} {H H' : Hp} {δ : List Bx} (d : DR c G H δ) (x : ExtN H H') : DR c G H' δ := by
  refine ⟨d.len, d.nd, fun i o h => ?_⟩
  obtain ⟨a, e, r⟩ := d.ob i o h
  refine ⟨a, e, ?_⟩
  cases o with
  | lst xs =>
    obtain ⟨vs, e1, r1⟩ := r
    exact ⟨vs, x _ _ e1, RelL.extS (Ext.ofN x).toS r1⟩
  | ins _ _ => exact r.elim
  | tab P q =>
    obtain ⟨rfl, t⟩ := r
    refine ⟨rfl, tab_step t ?_ fun b u e _ => x _ _ e⟩
    obtain ⟨ps, e, _⟩ := t
    rw [e, x _ _ e]

/-! ### slots -/
inductive Sl where
  | no | v (d : D) | own (xs : List D) | ownd (t : Bool) (ks vs : List D)
  deriving Inhabited
def SlotR (c : Cn) (G : List Addr) (H : Hp) (σ : L2.St) (i : Nat) : Sl → Prop
  | .no => True
  | .v d => d.strong = true ∧ ∃ v, σ[i]? = some (some v) ∧ Rel c G H d v
  | .own xs => ∃ a vs, σ[i]? = some (some (.ref a)) ∧ H a = some (.lst vs) ∧ a ∉ G ∧ RelL c G H xs vs
  | .ownd t ks vs => ∃ a u ws, σ[i]? = some (some (.ref a)) ∧ H a = some u ∧ a ∉ G ∧ DcK c.st t ks ws u ∧ RelL c G H vs ws
def Sl.isOwn : Sl → Bool
  | .own _ => true
  | .ownd _ _ _ => true
  | _ => false
structure SR (c : Cn) (G : List Addr) (H : Hp) (σ : L2.St) (ρ : List Sl) : Prop where
  len : σ.length = ρ.length
  sl : ∀ (i : Nat) (s : Sl), ρ[i]? = some s → SlotR c G H σ i s
  sep : ∀ (i j : Nat) (s s' : Sl) (a : Addr), ρ[i]? = some s → s.isOwn = true → ρ[j]? = some s' → s'.isOwn = true → σ[i]? = some (some (.ref a)) → σ[j]? = some (some (.ref a)) → i = j
theorem SR.ext {c : Cn} {G G' : List Addr} {H H' : Hp} {σ : L2.St} {ρ : List Sl} (s : SR c G H σ ρ) (x : Ext G H G' H') : SR c G' H' σ ρ := by
  refine ⟨s.len, fun i l h => ?_, s.sep⟩
  have r := s.sl i l h
  cases l with
  | no => trivial
  | v d =>
    obtain ⟨st, v, e, r⟩ := r
    exact ⟨st, v, e, Rel.ext x r⟩
  | own xs =>
    obtain ⟨a, vs, e, h1, h2, h3⟩ := r
    exact ⟨a, vs, e, x.keep _ _ h1 h2, x.notMem h1 h2, RelL.extS x.toS h3⟩
  | ownd t ks vs =>
    obtain ⟨a, u, ws, e, h1, h2, h3, h4⟩ := r
    exact ⟨a, u, ws, e, x.keep _ _ h1 h2, x.notMem h1 h2, h3, RelL.extS x.toS h4⟩
end Pv
set_option maxRecDepth 100000
set_option maxHeartbeats 1000000
/-! PvB: results, readings over plain data -/
namespace Pv
open PySem PySem.Spec PyProof.Rows L2

inductive Res (α : Type) where
  | ok (a : α) (δ : List Bx)
  | er (c : Str) (d : D) (δ : List Bx)
  | no
  deriving Inhabited
def Res.bind {α β : Type} (r : Res α) (k : α → List Bx → Res β) : Res β :=
  match r with
  | .ok a δ => k a δ
  | .er c d δ => .er c d δ
  | .no => .no
@[simp] theorem Res.bind_ok {α β : Type} (a : α) (δ : List Bx) (k : α → List Bx → Res β) : (Res.ok a δ).bind k = k a δ := (rfl)
@[simp] theorem Res.bind_er {α β : Type} (c : Str) (d : D) (δ : List Bx) (k : α → List Bx → Res β) : (Res.er c d δ).bind k = .er c d δ := (rfl)
@[simp] theorem Res.bind_no {α β : Type} (k : α → List Bx → Res β) : (Res.no : Res α).bind k = .no := (rfl)
def ofO {α : Type} (o : Option α) (δ : List Bx) : Res α :=
  match o with
  | some a => .ok a δ
  | none => .no
@[simp] theorem ofO_some {α : Type} (a : α) (δ : List Bx) : ofO (some a) δ = .ok a δ := (rfl)
@[simp] theorem ofO_none {α : Type} (δ : List Bx) : ofO (none : Option α) δ = .no := (rfl)

/-- what is wished of an exception: its class by name, what it keeps -/
abbrev WE := Str → D → List Addr → Hp → Prop
def Post {α : Type} (c : Cn) (W : WE) (G : List Addr) (H : Hp) (r : Res α) (P : α → List Addr → Hp → Prop) : Prop :=
  match r with
  | .ok a δ => ∀ G' H', Ext G H G' H' → DR c G' H' δ → P a G' H'
  | .er k d δ => ∀ G' H', Ext G H G' H' → DR c G' H' δ → W k d G' H'
  | .no => False
section
variable {α β : Type} {c : Cn} {W : WE} {G G1 : List Addr} {H H1 : Hp}
theorem Post.mono {r : Res α} {P P' : α → List Addr → Hp → Prop} (h : Post c W G H r P) (hp : ∀ a G' H', Ext G H G' H' → P a G' H' → P' a G' H') : Post c W G H r P' := by
  cases r with
  | ok a δ => exact fun G' H' x d => hp _ _ _ x (h G' H' x d)
  | er k d δ => exact h
  | no => exact h
theorem Post.later {r : Res α} {P : α → List Addr → Hp → Prop} (h : Post c W G H r P) (x : Ext G H G1 H1) : Post c W G1 H1 r P := by
  cases r with
  | ok a δ => exact fun G' H' y d => h G' H' (x.trans y) d
  | er k d δ => exact fun G' H' y d => h G' H' (x.trans y) d
  | no => exact h
theorem Post.bind {r : Res α} {k : α → List Bx → Res β} {P : β → List Addr → Hp → Prop} (h : Post c W G H (r.bind k) P) :
    Post c W G H r (fun a G1 H1 => ∃ δ1, DR c G1 H1 δ1 ∧ Post c W G1 H1 (k a δ1) P) := by
  cases r with
  | ok a δ => exact fun G' H' x d => ⟨δ, d, Post.later (r := k a δ) h x⟩
  | er k d δ => exact h
  | no => exact h
end

abbrev RX (α : Type) := List Sl → List Bx → Res α
def tG {α : Type} (c : Cn) (W : L2.St → WE) (f : RX α) (σ : L2.St) (H : Hp) (P : α → List Addr → Hp → Prop) : Prop :=
  ∃ ρ δ G, SR c G H σ ρ ∧ DR c G H δ ∧ Post c (W σ) G H (f ρ δ) P
def tD (c : Cn) (W : L2.St → WE) (f : RX D) : TE := fun σ H Q => tG c W f σ H fun d G' H' => ∀ v, Rel c G' H' d v → Q v H'
def tT (c : Cn) (W : L2.St → WE) (f : RX Bool) : TT := fun σ H Q => tG c W f σ H fun b _ H' => Q b H'
def tA (c : Cn) (W : L2.St → WE) (f : RX (List D)) : TA := fun σ H Q => tG c W f σ H fun ds G' H' => ∀ vs, RelA c G' H' ds vs → Q vs H'

/-- what stands at one point of an expression -/
structure At (c : Cn) (G : List Addr) (H : Hp) (σ : L2.St) (ρ : List Sl) (δ : List Bx) : Prop where
  sr : SR c G H σ ρ
  dr : DR c G H δ
theorem At.tG {α : Type} {c : Cn} {W : L2.St → WE} {G : List Addr} {H : Hp} {σ : L2.St} {ρ : List Sl} {δ : List Bx} {f : RX α} {P : α → List Addr → Hp → Prop} (a : At c G H σ ρ δ) (h : Post c (W σ) G H (f ρ δ) P) : Pv.tG c W f σ H P := ⟨ρ, δ, G, a.sr, a.dr, h⟩

section
variable {X : Cx} {c : Cn} {W : L2.St → WE}
theorem _root_.L2.PE.imp {e : Expr} {t t' : TE} (h : PE X e t) (i : ∀ σ H Q, t' σ H Q → t σ H Q) : PE X e t' := ⟨fun pins s σ H Q I hw => h.run pins s σ H Q I (i _ _ _ hw)⟩
theorem _root_.L2.PT.imp {e : Expr} {t t' : TT} (h : PT X e t) (i : ∀ σ H Q, t' σ H Q → t σ H Q) : PT X e t' := ⟨fun pins s σ H Q I hw => h.run pins s σ H Q I (i _ _ _ hw)⟩
theorem _root_.L2.PA.imp {es : List Expr} {t t' : TA} (h : PA X es t) (i : ∀ σ H Q, t' σ H Q → t σ H Q) : PA X es t' := ⟨fun pos pins s σ H Q I hw => h.run pos pins s σ H Q I (i _ _ _ hw)⟩
/-- the first part of a bind -/
theorem tG.first {α β : Type} {f : RX α} {k : α → RX β} {σ : L2.St} {H : Hp} {P : β → List Addr → Hp → Prop} {R : α → List Addr → Hp → Prop}
    (h : Pv.tG c W (fun ρ δ => (f ρ δ).bind fun a δ1 => k a ρ δ1) σ H P)
    (hR : ∀ ρ a δ1 G1 H1, At c G1 H1 σ ρ δ1 → Post c (W σ) G1 H1 (k a ρ δ1) P → R a G1 H1) : Pv.tG c W f σ H R := by
  obtain ⟨ρ, δ, G, s, d, p⟩ := h
  refine ⟨ρ, δ, G, s, d, (Post.bind p).mono fun a G1 H1 x ⟨δ1, d1, p1⟩ => hR ρ a δ1 G1 H1 ⟨s.ext x, d1⟩ p1⟩
theorem Post.okIn {α : Type} {W : WE} {G : List Addr} {H : Hp} {a : α} {δ : List Bx} {P : α → List Addr → Hp → Prop} (h : Post c W G H (.ok a δ) P) (d : DR c G H δ) : P a G H := h G H Ext.refl d
theorem Post.okN {α : Type} {W : WE} {G : List Addr} {H H' : Hp} {a : α} {δ : List Bx} {P : α → List Addr → Hp → Prop} (h : Post c W G H (.ok a δ) P) (d : DR c G H δ) (x : ExtN H H') : P a G H' := h G H' (Ext.ofN x) (d.new x)
theorem Post.ofO {α : Type} {W : WE} {G : List Addr} {H : Hp} {o : Option α} {δ : List Bx} {P : α → List Addr → Hp → Prop} (h : Post c W G H (ofO o δ) P) : ∃ a, o = some a ∧ Post c W G H (.ok a δ) P := by
  cases o with
  | none => exact h.elim
  | some a => exact ⟨a, rfl, h⟩

/-! ### constants, names -/
theorem pe_constD {e : Expr} {v : V} {d : D} (h : PE X e (tC v)) (r : ∀ G H, Rel c G H d v) : PE X e (tD c W fun _ δ => .ok d δ) :=
  h.imp fun σ H Q ⟨ρ, δ, G, s, dr, p⟩ => Post.okIn p dr v (r G H)
/-- a slot, read -/
def rdSl : Option Sl → Option D
  | some (.v d) => some d
  | some (.own xs) => some (.wk xs)
  | some (.ownd t ks vs) => some (.wkd t ks vs)
  | _ => none
theorem SR.rd {G : List Addr} {H : Hp} {σ : L2.St} {ρ : List Sl} (s : SR c G H σ ρ) {i : Nat} {d : D} (h : rdSl ρ[i]? = some d) : ∃ v, σ[i]? = some (some v) ∧ Rel c G H d v := by
  cases e : ρ[i]? with
  | none => rw [e] at h; cases h
  | some l =>
    have r := s.sl i l e
    rw [e] at h
    cases l with
    | no => cases h
    | v d' =>
      obtain ⟨st, v, e1, r⟩ := r
      cases h
      exact ⟨v, e1, r⟩
    | own xs =>
      obtain ⟨a, vs, e1, h1, h2, h3⟩ := r
      cases h
      exact ⟨_, e1, by simp only [Rel]; exact ⟨a, vs, rfl, h1, h2, h3⟩⟩
    | ownd t ks vs =>
      obtain ⟨a, u, ws, e1, h1, h2, h3, h4⟩ := r
      cases h
      exact ⟨_, e1, by simp only [Rel]; exact ⟨a, u, ws, rfl, h1, h2, h3, h4⟩⟩
theorem pe_varD {i : Nat} {e : Expr} (h : PE X e (tVar i)) : PE X e (tD c W fun ρ δ => ofO (rdSl ρ[i]?) δ) :=
  h.imp fun σ H Q ⟨ρ, δ, G, s, dr, p⟩ => by
    obtain ⟨d, e1, p⟩ := Post.ofO p
    obtain ⟨v, e2, r⟩ := s.rd e1
    exact ⟨v, e2, Post.okIn p dr v r⟩

/-! ### operators by values -/
/-- a rule of two values, told by plain data; new objects may come -/
def rD2 (c : Cn) (g : D → D → Option D) : R2 := fun x y H Q => ∃ G d1 d2 d, Rel c G H d1 x ∧ Rel c G H d2 y ∧ g d1 d2 = some d ∧ ∀ v H', ExtN H H' → Rel c G H' d v → Q v H'
theorem _root_.L2.OpR.imp {f : Value → Value → Sem Value} {r r' : R2} (h : OpR X f r) (i : ∀ x y H Q, r' x y H Q → r x y H Q) : OpR X f r' := fun pins s σ H x y v u Q I h1 h2 hq => h pins s σ H x y v u Q I h1 h2 (i _ _ _ _ hq)
def bin2 (g : D → D → Option D) (fa fb : RX D) : RX D := fun ρ δ => (fa ρ δ).bind fun x δ1 => (fb ρ δ1).bind fun y δ2 => ofO (g x y) δ2
theorem tD.two {g : D → D → Option D} {fa fb : RX D} {σ : L2.St} {H : Hp} {Q : VK} (h : tD c W (bin2 g fa fb) σ H Q) :
    tD c W fa σ H fun x H1 => tD c W fb σ H1 fun y H2 => rD2 c g x y H2 Q := by
  refine tG.first (f := fa) (k := fun x ρ δ1 => (fb ρ δ1).bind fun y δ2 => ofO (g x y) δ2) h fun ρ x δ1 G1 H1 a1 p1 v rv => ?_
  refine ⟨ρ, δ1, G1, a1.sr, a1.dr, (Post.bind p1).mono fun y G2 H2 x2 ⟨δ2, d2, p2⟩ w rw' => ?_⟩
  obtain ⟨d, e, p3⟩ := Post.ofO p2
  exact ⟨G2, x, y, d, rv.ext x2, rw', e, fun z H' xn rz => Post.okN p3 d2 xn z rz⟩
theorem pe_opD {op : Operator} {a b : Expr} {pos : Pos} {g : D → D → Option D} {fa fb : RX D} (ho : OpR X (binaryOp op) (rD2 c g)) (ha : PE X a (tD c W fa)) (hb : PE X b (tD c W fb)) : PE X (.BinOp a op b pos) (tD c W (bin2 g fa fb)) :=
  (pe_op ho ha hb).imp fun _ _ _ h => tD.two h
theorem pe_cmpD {op : CmpOp} {a b : Expr} {pos : Pos} {g : D → D → Option D} {fa fb : RX D} (ho : OpR X (compareOp op) (rD2 c g)) (ha : PE X a (tD c W fa)) (hb : PE X b (tD c W fb)) (hm : behindInMarks op b = false) : PE X (.Compare a [op] [b] pos) (tD c W (bin2 g fa fb)) :=
  (pe_cmpR ho ha hb hm).imp fun _ _ _ h => tD.two h
def toB : D → Option Bool
  | .bl b => some b
  | _ => none
def asB (f : RX D) : RX Bool := fun ρ δ => (f ρ δ).bind fun d δ1 => ofO (toB d) δ1
theorem toB_some {d : D} {b : Bool} (h : toB d = some b) : d = .bl b := by
  cases d <;> simp [toB] at h; rw [h]
theorem tT.val {f : RX D} {σ : L2.St} {H : Hp} {Q : Bool → Hp → Prop} (h : tT c W (asB f) σ H Q) : tD c W f σ H fun x H' => ∃ k, x = .bl k ∧ Q k H' := by
  refine tG.first (f := f) (k := fun d ρ δ1 => ofO (toB d) δ1) h fun ρ d δ1 G1 H1 a1 p1 v rv => ?_
  obtain ⟨b, e, p⟩ := Post.ofO p1
  rw [toB_some e] at rv
  simp only [Rel] at rv
  exact ⟨b, rv, Post.okIn p a1.dr⟩
theorem pt_valD {e : Expr} {f : RX D} (h : PE X e (tD c W f)) (he : ∀ whole, isTrue e X.env whole = (do let v ← whole; standAt e.pos; holding [v] (truthy v))) : PT X e (tT c W (asB f)) :=
  (pt_val h he).imp fun _ _ _ h => tT.val h
theorem pt_cmpD {op : CmpOp} {a b : Expr} {pos : Pos} {g : D → D → Option D} {fa fb : RX D} (ho : OpR X (compareOp op) (rD2 c g)) (ha : PE X a (tD c W fa)) (hb : PE X b (tD c W fb)) (hm : behindInMarks op b = false) : PT X (.Compare a [op] [b] pos) (tT c W (asB (bin2 g fa fb))) :=
  (pt_cmpR ho ha hb hm).imp fun σ H Q h => by
    have h1 := tT.val h
    have h2 : tD c W (bin2 g fa fb) σ H (fun x H' => ∃ k, x = V.bl k ∧ Q k H') := h1
    exact tD.two h2
/-- chains -/
def chain2 (g g' : D → D → Option D) (fa fb fc : RX D) : RX D := fun ρ δ => (fa ρ δ).bind fun x δ1 => (fb ρ δ1).bind fun y δ2 => (ofO ((g x y).bind toB) δ2).bind fun k δ3 => if k then (fc ρ δ3).bind fun z δ4 => ofO (g' y z) δ4 else .ok (.bl false) δ3

/-! ### and, or, not, if -/
def andT (f g : RX Bool) : RX Bool := fun ρ δ => (f ρ δ).bind fun b δ1 => if b then g ρ δ1 else .ok false δ1
def orT (f g : RX Bool) : RX Bool := fun ρ δ => (f ρ δ).bind fun b δ1 => if b then .ok true δ1 else g ρ δ1
def notT (f : RX Bool) : RX Bool := fun ρ δ => (f ρ δ).bind fun b δ1 => .ok (!b) δ1
def iteD {α : Type} (t : RX Bool) (f g : RX α) : RX α := fun ρ δ => (t ρ δ).bind fun b δ1 => if b then f ρ δ1 else g ρ δ1
theorem tT.and {f g : RX Bool} {σ : L2.St} {H : Hp} {Q : Bool → Hp → Prop} (h : tT c W (andT f g) σ H Q) : tAnd (tT c W f) (tT c W g) σ H Q := by
  refine tG.first (f := f) (k := fun b ρ δ1 => if b then g ρ δ1 else .ok false δ1) h fun ρ b δ1 G1 H1 a1 p1 => ?_
  cases b with
  | true => exact ⟨ρ, δ1, G1, a1.sr, a1.dr, p1⟩
  | false => exact Post.okIn p1 a1.dr
theorem tT.or {f g : RX Bool} {σ : L2.St} {H : Hp} {Q : Bool → Hp → Prop} (h : tT c W (orT f g) σ H Q) : tOr (tT c W f) (tT c W g) σ H Q := by
  refine tG.first (f := f) (k := fun b ρ δ1 => if b then .ok true δ1 else g ρ δ1) h fun ρ b δ1 G1 H1 a1 p1 => ?_
  cases b with
  | false => exact ⟨ρ, δ1, G1, a1.sr, a1.dr, p1⟩
  | true => exact Post.okIn p1 a1.dr
theorem tT.not {f : RX Bool} {σ : L2.St} {H : Hp} {Q : Bool → Hp → Prop} (h : tT c W (notT f) σ H Q) : tNot (tT c W f) σ H Q := by
  refine tG.first (f := f) (k := fun b ρ δ1 => .ok (!b) δ1) h fun ρ b δ1 G1 H1 a1 p1 => ?_
  exact Post.okIn p1 a1.dr
theorem pe_ifD {t a b : Expr} {pos : Pos} {ft : RX Bool} {fa fb : RX D} (ht : PT X t (tT c W ft)) (ha : PE X a (tD c W fa)) (hb : PE X b (tD c W fb)) : PE X (.IfExp t a b pos) (tD c W (iteD ft fa fb)) :=
  (pe_ifExp ht ha hb).imp fun σ H Q h => by
    refine tG.first (f := ft) (k := fun b ρ δ1 => if b then fa ρ δ1 else fb ρ δ1) h fun ρ b δ1 G1 H1 a1 p1 => ?_
    cases b with
    | true => exact ⟨ρ, δ1, G1, a1.sr, a1.dr, p1⟩
    | false => exact ⟨ρ, δ1, G1, a1.sr, a1.dr, p1⟩
/-- and, or as values: the first ones truths -/
def andD (f g : RX D) : RX D := fun ρ δ => (f ρ δ).bind fun d δ1 => (ofO (toB d) δ1).bind fun b δ2 => if b then g ρ δ2 else .ok (.bl false) δ2
def orD (f g : RX D) : RX D := fun ρ δ => (f ρ δ).bind fun d δ1 => (ofO (toB d) δ1).bind fun b δ2 => if b then .ok (.bl true) δ2 else g ρ δ2
def notD (f : RX D) : RX D := fun ρ δ => (f ρ δ).bind fun d δ1 => (ofO (toB d) δ1).bind fun b δ2 => .ok (.bl (!b)) δ2
theorem Post.ofB {β : Type} {W : WE} {G : List Addr} {H : Hp} {d : D} {δ : List Bx} {k : Bool → List Bx → Res β} {P : β → List Addr → Hp → Prop} (h : Post c W G H ((Pv.ofO (toB d) δ).bind k) P) : ∃ b, d = .bl b ∧ Post c W G H (k b δ) P := by
  cases e : toB d with
  | none => rw [e] at h; exact h.elim
  | some b => rw [e] at h; exact ⟨b, toB_some e, h⟩
theorem tD.and {f g : RX D} {σ : L2.St} {H : Hp} {Q : VK} (h : tD c W (andD f g) σ H Q) : tAndV (tD c W f) (tD c W g) σ H Q := by
  refine tG.first (f := f) (k := fun d ρ δ1 => (ofO (toB d) δ1).bind fun b δ2 => if b then g ρ δ2 else .ok (.bl false) δ2) h fun ρ d δ1 G1 H1 a1 p1 v rv => ?_
  obtain ⟨b, rfl, p⟩ := Post.ofB p1
  simp only [Rel] at rv
  refine ⟨b, rv, ?_⟩
  cases b with
  | true => exact ⟨ρ, δ1, G1, a1.sr, a1.dr, p⟩
  | false => exact Post.okIn p a1.dr _ (by simp [Rel])
theorem tD.or {f g : RX D} {σ : L2.St} {H : Hp} {Q : VK} (h : tD c W (orD f g) σ H Q) : tOrV (tD c W f) (tD c W g) σ H Q := by
  refine tG.first (f := f) (β := D) (k := fun d ρ δ1 => (ofO (toB d) δ1).bind fun b δ2 => if b then .ok (.bl true) δ2 else g ρ δ2) h fun ρ d δ1 G1 H1 a1 p1 v rv => ?_
  obtain ⟨b, rfl, p⟩ := Post.ofB p1
  simp only [Rel] at rv
  refine ⟨b, rv, ?_⟩
  cases b with
  | false => exact ⟨ρ, δ1, G1, a1.sr, a1.dr, p⟩
  | true => exact Post.okIn p a1.dr _ (by simp [Rel])
theorem tD.not {f : RX D} {σ : L2.St} {H : Hp} {Q : VK} (h : tD c W (notD f) σ H Q) : tNotV (tD c W f) σ H Q := by
  refine tG.first (f := f) (β := D) (k := fun d ρ δ1 => (ofO (toB d) δ1).bind fun b δ2 => .ok (.bl (!b)) δ2) h fun ρ d δ1 G1 H1 a1 p1 v rv => ?_
  obtain ⟨b, rfl, p⟩ := Post.ofB p1
  simp only [Rel] at rv
  exact ⟨b, rv, Post.okIn p a1.dr _ (by simp [Rel])⟩

/-! ### arguments -/
def nilA : RX (List D) := fun _ δ => .ok [] δ
def consA (f : RX D) (g : RX (List D)) : RX (List D) := fun ρ δ => (f ρ δ).bind fun d δ1 => (g ρ δ1).bind fun ds δ2 => .ok (d :: ds) δ2
theorem pa_nilD : PA X [] (tA c W nilA) := pa_nil.imp fun σ H Q ⟨ρ, δ, G, s, dr, p⟩ => Post.okIn p dr [] (by simp [RelA])
theorem tA.cons {f : RX D} {g : RX (List D)} {σ : L2.St} {H : Hp} {Q : List V → Hp → Prop} (h : tA c W (consA f g) σ H Q) : tCons (tD c W f) (tA c W g) σ H Q := by
  refine tG.first (f := f) (k := fun d ρ δ1 => (g ρ δ1).bind fun ds δ2 => .ok (d :: ds) δ2) h fun ρ d δ1 G1 H1 a1 p1 v rv => ?_
  refine ⟨ρ, δ1, G1, a1.sr, a1.dr, (Post.bind p1).mono fun ds G2 H2 x2 ⟨δ2, d2, p2⟩ vs rs => ?_⟩
  exact Post.okIn p2 d2 _ (by simp only [RelA]; exact ⟨v, vs, rfl, rv.ext x2, rs⟩)
theorem pa_consD {e : Expr} {es : List Expr} {f : RX D} {g : RX (List D)} (ha : PE X e (tD c W f)) (hr : PA X es (tA c W g)) (hs : starEach (e :: es) X.env = (false, eval e X.env) :: starEach es X.env) : PA X (e :: es) (tA c W (consA f g)) :=
  (pa_cons ha hr hs).imp fun _ _ _ h => tA.cons h
end

/-! ### a new list is made fixed -/
section
variable {X : Cx} {pins : List (Addr × Obj)} {σ : L2.St} {H : Hp} {s : Shared} {a : Addr} {xs : List V}
theorem _root_.L2.Inv.freeze (I : Inv X pins σ H s) (h : H a = some (.lst xs)) : ∃ o, Inv X pins σ (upd H a (.frz o (.lst xs))) s := by
  have w : ObjOk X.prog X.w H s.heap a (.lst xs) := I.hok a _ h
  obtain ⟨hl, its, n, r, e⟩ := w
  have m : Mut (H a) := by rw [h]; trivial
  refine ⟨_, I.un (h' := s.heap) (t' := s.toks) (H' := upd H a (.frz { cls := .type "list", data := .seq its.toArray n } (.lst xs))) (Un.write m (.inl rfl) (fun b u _ q => q) ⟨_, e⟩) (HOk.write I.hok m (.inl rfl) (fun b u _ q => q) ⟨_, e⟩ ?_)⟩
  exact ⟨e, hl, its, n, r, e⟩
end
def tFrz (t : TE) : TE := fun σ H Q => t σ H fun v H1 => ∃ a xs, v = .ref a ∧ H1 a = some (.lst xs) ∧ ∀ o, Q v (upd H1 a (.frz o (.lst xs)))
theorem pe_frz {X : Cx} {e : Expr} {t : TE} (h : PE X e t) : PE X e (tFrz t) := by
  refine ⟨fun pins s σ H Q I hw => thn (h.run pins s σ H _ I hw) fun u s1 ⟨v, H1, I1, r, a, xs, e, h1, q⟩ => ?_⟩
  obtain ⟨o, I2⟩ := I1.freeze h1
  exact ⟨v, _, I2, r, q o⟩
end Pv
set_option maxRecDepth 100000
set_option maxHeartbeats 1000000
/-! PvC: operators by plain data -/
namespace Pv
open PySem PySem.Spec PyProof.Rows L2

/-! ### data that compare: as the library's data -/
mutual
def pd : D → PyData
  | .non => .none
  | .bl b => .bool b
  | .int i => .int i
  | .str x => .str x
  | .tup xs => .tuple (pdL xs)
  | .lst xs => .list (pdL xs)
  | .wk xs => .list (pdL xs)
  | .dct _ _ _ => .none
  | .wkd _ _ _ => .none
  | .ref _ => .none
  | .fn _ => .none
  | .ty _ => .none
  | .sc _ => .none
  | .clo _ _ _ _ _ => .none
def pdL : List D → List PyData
  | [] => []
  | x :: xs => pd x :: pdL xs
end
mutual
/-- plain data, not deeper than so much -/
def okD : Nat → D → Bool
  | _, .non => true
  | _, .bl _ => true
  | _, .int _ => true
  | _, .str x => PyData.strOk x
  | 0, .tup _ => false
  | n + 1, .tup xs => okL n xs
  | 0, .lst _ => false
  | n + 1, .lst xs => okL n xs
  | 0, .wk _ => false
  | n + 1, .wk xs => okL n xs
  | _, .dct _ _ _ => false
  | _, .wkd _ _ _ => false
  | _, .ref _ => false
  | _, .fn _ => false
  | _, .ty _ => false
  | _, .sc _ => false
  | _, .clo _ _ _ _ _ => false
def okL : Nat → List D → Bool
  | _, [] => true
  | n, x :: xs => okD n x && okL n xs
end
mutual
def eqD : D → D → Bool
  | .non, .non => true
  | .bl a, .bl b => a == b
  | .bl a, .int j => (if a then 1 else 0) == j
  | .int i, .bl b => i == (if b then 1 else 0)
  | .int i, .int j => i == j
  | .str x, .str y => x == y
  | .lst xs, .lst ys => eqL xs ys
  | .lst xs, .wk ys => eqL xs ys
  | .wk xs, .lst ys => eqL xs ys
  | .wk xs, .wk ys => eqL xs ys
  | .tup xs, .tup ys => eqL xs ys
  | _, _ => false
def eqL : List D → List D → Bool
  | [], [] => true
  | x :: xs, y :: ys => eqD x y && eqL xs ys
  | _, _ => false
end
mutual
theorem eqD_pd : ∀ (n m : Nat) (x y : D), okD n x = true → okD m y = true → eqD x y = PyData.eqv (pd x) (pd y)
  | n, m, .non, y, h, h' => by cases y <;> first | (simp [okD] at h'; done) | (simp [eqD, pd, PyData.eqv])
  | n, m, .bl a, y, h, h' => by cases y <;> first | (simp [okD] at h'; done) | (simp [eqD, pd, PyData.eqv])
  | n, m, .int a, y, h, h' => by cases y <;> first | (simp [okD] at h'; done) | (simp [eqD, pd, PyData.eqv])
  | n, m, .str a, y, h, h' => by cases y <;> first | (simp [okD] at h'; done) | (simp [eqD, pd, PyData.eqv])
  | n, m, .tup xs, y, h, h' => by
    cases y <;> first | (simp [okD] at h'; done) | (simp [eqD, pd, PyData.eqv]; done) | skip
    rename_i ys
    cases n with
    | zero => simp [okD] at h
    | succ n =>
      cases m with
      | zero => simp [okD] at h'
      | succ m =>
        simp only [okD] at h h'
        simp only [eqD, pd, PyData.eqv]
        exact eqL_pd n m xs ys h h'
  | n, m, .lst xs, y, h, h' => by
    cases y <;> first | (simp [okD] at h'; done) | (simp [eqD, pd, PyData.eqv]; done) | skip
    all_goals
      rename_i ys
      cases n with
      | zero => simp [okD] at h
      | succ n =>
        cases m with
        | zero => simp [okD] at h'
        | succ m =>
          simp only [okD] at h h'
          simp only [eqD, pd, PyData.eqv]
          exact eqL_pd n m xs ys h h'
  | n, m, .wk xs, y, h, h' => by
    cases y <;> first | (simp [okD] at h'; done) | (simp [eqD, pd, PyData.eqv]; done) | skip
    all_goals
      rename_i ys
      cases n with
      | zero => simp [okD] at h
      | succ n =>
        cases m with
        | zero => simp [okD] at h'
        | succ m =>
          simp only [okD] at h h'
          simp only [eqD, pd, PyData.eqv]
          exact eqL_pd n m xs ys h h'
  | n, m, .dct _ _ _, y, h, h' => by simp [okD] at h
  | n, m, .wkd _ _ _, y, h, h' => by simp [okD] at h
  | n, m, .ref _, y, h, h' => by simp [okD] at h
  | n, m, .fn _, y, h, h' => by simp [okD] at h
  | n, m, .ty _, y, h, h' => by simp [okD] at h
theorem eqL_pd : ∀ (n m : Nat) (xs ys : List D), okL n xs = true → okL m ys = true → eqL xs ys = PyData.eqvAll (pdL xs) (pdL ys)
  | n, m, [], [], h, h' => by simp [eqL, pdL, PyData.eqvAll]
  | n, m, [], y :: ys, h, h' => by simp [eqL, pdL, PyData.eqvAll]
  | n, m, x :: xs, [], h, h' => by simp [eqL, pdL, PyData.eqvAll]
  | n, m, x :: xs, y :: ys, h, h' => by
    simp only [okL, Bool.and_eq_true] at h h'
    simp only [eqL, pdL, PyData.eqvAll]
    rw [eqD_pd n m x y h.1 h'.1, eqL_pd n m xs ys h.2 h'.2]
end
mutual
theorem pd_lay : ∀ (n : Nat) (x : D), okD n x = true → (pd x).canLay0 = true ∧ (pd x).depth ≤ n
  | n, .non, h => by simp [pd, PyData.canLay0, PyData.depth]
  | n, .bl _, h => by simp [pd, PyData.canLay0, PyData.depth]
  | n, .int _, h => by simp [pd, PyData.canLay0, PyData.depth]
  | n, .str x, h => by
    cases n <;> (simp only [okD] at h; simp [pd, PyData.canLay0, PyData.depth, h])
  | 0, .tup xs, h => by simp [okD] at h
  | n + 1, .tup xs, h => by
    simp only [okD] at h
    have z := pdL_lay n xs h
    simp only [pd, PyData.canLay0, PyData.depth]
    exact ⟨z.1, Nat.succ_le_succ z.2⟩
  | 0, .lst xs, h => by simp [okD] at h
  | n + 1, .lst xs, h => by
    simp only [okD] at h
    have z := pdL_lay n xs h
    simp only [pd, PyData.canLay0, PyData.depth]
    exact ⟨z.1, Nat.succ_le_succ z.2⟩
  | 0, .wk xs, h => by simp [okD] at h
  | n + 1, .wk xs, h => by
    simp only [okD] at h
    have z := pdL_lay n xs h
    simp only [pd, PyData.canLay0, PyData.depth]
    exact ⟨z.1, Nat.succ_le_succ z.2⟩
  | n, .dct _ _ _, h => by cases n <;> simp [okD] at h
  | n, .wkd _ _ _, h => by cases n <;> simp [okD] at h
  | n, .ref _, h => by cases n <;> simp [okD] at h
  | n, .fn _, h => by cases n <;> simp [okD] at h
  | n, .ty _, h => by cases n <;> simp [okD] at h
theorem pdL_lay : ∀ (n : Nat) (xs : List D), okL n xs = true → PyData.canLayAll0 (pdL xs) = true ∧ PyData.depthAll (pdL xs) ≤ n
  | n, [], h => by simp [pdL, PyData.canLayAll0, PyData.depthAll]
  | n, x :: xs, h => by
    simp only [okL, Bool.and_eq_true] at h
    have a := pd_lay n x h.1
    have b := pdL_lay n xs h.2
    simp only [pdL, PyData.canLayAll0, PyData.depthAll, a.1, b.1, Bool.and_self, true_and]
    exact Nat.max_le.mpr ⟨a.2, b.2⟩
end
/-- deep enough for all -/
abbrev okd (x : D) : Bool := okD 40 x
theorem okd_shaped {x : D} (h : okd x = true) : SeqAt.shaped (pd x) = true := by
  have z := pd_lay 40 x h
  unfold SeqAt.shaped
  rw [z.1, decide_eq_true (Nat.le_trans z.2 (by decide))]
  rfl
mutual
theorem Rel.dp {c : Cn} {G : List Addr} {H : Hp} : ∀ (n : Nat) (d : D) (v : V), okD n d = true → Rel c G H d v → Dp c.K H v (pd d)
  | n, .non, v, _, h => by simp only [Rel] at h; subst h; exact .non
  | n, .bl b, v, _, h => by simp only [Rel] at h; subst h; exact .bl b
  | n, .int i, v, _, h => by simp only [Rel] at h; subst h; exact .int i
  | n, .str x, v, _, h => by simp only [Rel] at h; subst h; exact .str x
  | n, .tup xs, v, k, h => by
    simp only [Rel] at h
    obtain ⟨a, vs, rfl, h1, h2⟩ := h
    cases n with
    | zero => simp [okD] at k
    | succ n => exact .tup h1.1 (RelL.dp n xs vs (by simpa [okD] using k) h2)
  | n, .lst xs, v, k, h => by
    simp only [Rel] at h
    obtain ⟨a, o, vs, rfl, h1, h2⟩ := h
    cases n with
    | zero => simp [okD] at k
    | succ n => exact .lst (.inl (.inr ⟨o, h1⟩)) (RelL.dp n xs vs (by simpa [okD] using k) h2)
  | n, .wk xs, v, k, h => by
    simp only [Rel] at h
    obtain ⟨a, vs, rfl, h1, _, h2⟩ := h
    cases n with
    | zero => simp [okD] at k
    | succ n => exact .lst (.inl (.inl h1)) (RelL.dp n xs vs (by simpa [okD] using k) h2)
  | n, .dct _ _ _, v, k, _ => by cases n <;> simp [okD] at k
  | n, .wkd _ _ _, v, k, _ => by cases n <;> simp [okD] at k
  | n, .ref _, v, k, _ => by cases n <;> simp [okD] at k
  | n, .fn _, v, k, _ => by cases n <;> simp [okD] at k
  | n, .ty _, v, k, _ => by cases n <;> simp [okD] at k
theorem RelL.dp {c : Cn} {G : List Addr} {H : Hp} : ∀ (n : Nat) (ds : List D) (vs : List V), okL n ds = true → RelL c G H ds vs → DpAll c.K H vs (pdL ds)
  | n, [], vs, _, h => by simp only [RelL] at h; subst h; exact .nil
  | n, d :: ds, vs, k, h => by
    simp only [RelL] at h
    obtain ⟨v, r, rfl, _, h1, h2⟩ := h
    simp only [okL, Bool.and_eq_true] at k
    exact .cons (Rel.dp n d v k.1 h1) (RelL.dp n ds r k.2 h2)
end

/-! ### lists, tuples by their items -/
def listD : D → Option (List D)
  | .lst xs => some xs
  | .wk xs => some xs
  | _ => none
def seqD : D → Option (List D)
  | .lst xs => some xs
  | .wk xs => some xs
  | .tup xs => some xs
  | _ => none
theorem Rel.list {c : Cn} {G : List Addr} {H : Hp} {d : D} {xs : List D} {v : V} (e : listD d = some xs) (r : Rel c G H d v) : ∃ a vs, v = .ref a ∧ Rd H a (.lst vs) ∧ RelL c G H xs vs := by
  cases d <;> simp only [listD, Option.some.injEq, reduceCtorEq] at e
  · subst e
    simp only [Rel] at r
    obtain ⟨a, o, vs, e, h1, h2⟩ := r
    exact ⟨a, vs, e, .inr ⟨o, h1⟩, h2⟩
  · subst e
    simp only [Rel] at r
    obtain ⟨a, vs, e, h1, _, h2⟩ := r
    exact ⟨a, vs, e, .inl h1, h2⟩
theorem Rel.tup {c : Cn} {G : List Addr} {H : Hp} {xs : List D} {v : V} (r : Rel c G H (.tup xs) v) : ∃ a vs, v = .ref a ∧ SqT c.K H a vs ∧ RelL c G H xs vs := by
  simp only [Rel] at r
  obtain ⟨a, vs, e, h1, h2⟩ := r
  exact ⟨a, vs, e, h1.1, h2⟩
theorem Rel.tupK {c : Cn} {G : List Addr} {H : Hp} {xs : List D} {v : V} (r : Rel c G H (.tup xs) v) : ∃ a vs, v = .ref a ∧ TupK c H a vs ∧ RelL c G H xs vs := by
  simpa only [Rel] using r
theorem Rel.seq {c : Cn} {G : List Addr} {H : Hp} {d : D} {xs : List D} {v : V} (e : seqD d = some xs) (r : Rel c G H d v) : ∃ a vs, v = .ref a ∧ (SqL c.K H a vs ∨ SqT c.K H a vs) ∧ RelL c G H xs vs := by
  cases h : listD d with
  | some ys =>
    obtain ⟨a, vs, e1, h1, h2⟩ := Rel.list h r
    have : ys = xs := by cases d <;> simp_all [listD, seqD]
    subst this
    exact ⟨a, vs, e1, .inl (.inl h1), h2⟩
  | none =>
    cases d <;> simp only [listD, seqD, Option.some.injEq, reduceCtorEq] at h e
    subst e
    obtain ⟨a, vs, e1, h1, h2⟩ := r.tup
    exact ⟨a, vs, e1, .inr h1, h2⟩

def seqC : D → Option (List D)
  | .sc xs => some xs
  | d => seqD d
theorem seqC_of {d : D} {xs : List D} (e : seqC d = some xs) : d = .sc xs ∨ seqD d = some xs := by
  cases d <;> first | exact .inr e | skip
  simp only [seqC, Option.some.injEq] at e
  exact .inl (by rw [e])
theorem Rel.seqC {c : Cn} {G : List Addr} {H : Hp} {d : D} {xs : List D} {v : V} (e : Pv.seqC d = some xs) (r : Rel c G H d v) : ∃ a vs, v = .ref a ∧ (SqL c.K H a vs ∨ SqT c.K H a vs) ∧ RelL c G H xs vs := by
  rcases seqC_of e with rfl | e
  · simp only [Rel] at r
    obtain ⟨a, vs, ex, h1, h2⟩ := r
    exact ⟨a, vs, ex, .inl h1.sq, h2⟩
  · exact Rel.seq e r

/-! ### numbers -/
def cap : Nat := 16777216
theorem cap_eq : sizeLine = cap := sizeLine_eq
def small64 (i : Int) : Bool := decide (-(2 ^ 64) < i) && decide (i < 2 ^ 64)
def dAdd : D → D → Option D
  | .int i, .int j => some (.int (i + j))
  | .str x, .str y => if x.length + y.length ≤ cap then some (.str (x ++ y)) else none
  | .tup xs, .tup ys => if xs.length + ys.length ≤ cap then some (.tup (xs ++ ys)) else none
  | .lst xs, .lst ys => if xs.length + ys.length ≤ cap then some (.lst (xs ++ ys)) else none
  | .lst xs, .wk ys => if xs.length + ys.length ≤ cap then some (.lst (xs ++ ys)) else none
  | .wk xs, .lst ys => if xs.length + ys.length ≤ cap then some (.lst (xs ++ ys)) else none
  | .wk xs, .wk ys => if xs.length + ys.length ≤ cap then some (.lst (xs ++ ys)) else none
  | _, _ => none
def dSub : D → D → Option D
  | .int i, .int j => some (.int (i - j))
  | _, _ => none
def dMul : D → D → Option D
  | .int i, .int j => if small64 i || small64 j then some (.int (i * j)) else none
  | _, _ => none
def dDiv : D → D → Option D
  | .int i, .int j => if j ≠ 0 ∧ j.natAbs < 1073741824 then some (.int (i.fdiv j)) else none
  | _, _ => none
def dMod : D → D → Option D
  | .int i, .int j => if j ≠ 0 then some (.int (i.fmod j)) else none
  | _, _ => none
def dPow : D → D → Option D
  | .int i, .int j => if 0 ≤ j ∧ j ≤ 1000000 ∧ i.natAbs < 2 ^ 64 then some (.int (i ^ j.toNat)) else none
  | _, _ => none
def dShl : D → D → Option D
  | .int i, .int j => if 0 ≤ j ∧ j ≤ 1000000 ∧ i.natAbs < 2 ^ 64 then some (.int (i * 2 ^ j.toNat)) else none
  | _, _ => none
def dOr : D → D → Option D
  | .int i, .int j => some (.int (Builtin.bitOr i j))
  | _, _ => none
def dXor : D → D → Option D
  | .int i, .int j => some (.int (Builtin.bitXor i j))
  | _, _ => none
def dAnd : D → D → Option D
  | .int i, .int j => some (.int (Builtin.bitAnd i j))
  | _, _ => none

section
variable {X : Cx} {c : Cn}
theorem Rel.int {G : List Addr} {H : Hp} {i : Int} {v : V} (h : Rel c G H (.int i) v) : v = .int i := by simpa only [Rel] using h
theorem op_ofI {f : Value → Value → Sem Value} {C : Int → Int → Prop} {h : Int → Int → Int} {g : D → D → Option D} (ho : OpR X f (rI C fun i j => .int (h i j)))
    (hg : ∀ x y d, g x y = some d → ∃ i j, x = .int i ∧ y = .int j ∧ C i j ∧ d = .int (h i j)) : OpR X f (rD2 c g) :=
  ho.imp fun x y H Q ⟨G, d1, d2, d, r1, r2, e, q⟩ => by
    obtain ⟨i, j, rfl, rfl, hc, rfl⟩ := hg _ _ _ e
    exact ⟨i, j, r1.int, r2.int, hc, q _ _ ExtN.refl (by simp only [Rel])⟩
theorem op_ofI0 {f : Value → Value → Sem Value} {h : Int → Int → Int} {g : D → D → Option D} (ho : OpR X f (rI0 fun i j => .int (h i j)))
    (hg : ∀ x y d, g x y = some d → ∃ i j, x = .int i ∧ y = .int j ∧ d = .int (h i j)) : OpR X f (rD2 c g) :=
  ho.imp fun x y H Q ⟨G, d1, d2, d, r1, r2, e, q⟩ => by
    obtain ⟨i, j, rfl, rfl, rfl⟩ := hg _ _ _ e
    exact ⟨i, j, r1.int, r2.int, q _ _ ExtN.refl (by simp only [Rel])⟩
theorem op_subD : OpR X (binaryOp .Sub) (rD2 c dSub) := op_ofI0 op_sub fun x y d h => by
  unfold dSub at h; split at h <;> simp at h; exact ⟨_, _, rfl, rfl, h.symm⟩
theorem op_mulD : OpR X (binaryOp .Mult) (rD2 c dMul) := op_ofI op_mul fun x y d h => by
  unfold dMul at h
  split at h
  · rename_i i j
    split at h
    · rename_i hs
      refine ⟨i, j, rfl, rfl, ?_, (Option.some.inj h).symm⟩
      simp only [small64, Bool.or_eq_true, Bool.and_eq_true, decide_eq_true_eq] at hs
      exact hs
    · cases h
  · cases h
theorem op_divD : OpR X (binaryOp .FloorDiv) (rD2 c dDiv) := op_ofI op_fdivN fun x y d h => by
  unfold dDiv at h
  split at h
  · rename_i i j
    split at h
    · rename_i hs; exact ⟨i, j, rfl, rfl, hs, (Option.some.inj h).symm⟩
    · cases h
  · cases h
theorem op_modD : OpR X (binaryOp .Mod) (rD2 c dMod) := op_ofI op_modN fun x y d h => by
  unfold dMod at h
  split at h
  · rename_i i j
    split at h
    · rename_i hs; exact ⟨i, j, rfl, rfl, hs, (Option.some.inj h).symm⟩
    · cases h
  · cases h
theorem op_powD : OpR X (binaryOp .Pow) (rD2 c dPow) := op_ofI op_pow fun x y d h => by
  unfold dPow at h
  split at h
  · rename_i i j
    split at h
    · rename_i hs; exact ⟨i, j, rfl, rfl, hs, (Option.some.inj h).symm⟩
    · cases h
  · cases h
theorem op_shlD : OpR X (binaryOp .LShift) (rD2 c dShl) := op_ofI op_shl fun x y d h => by
  unfold dShl at h
  split at h
  · rename_i i j
    split at h
    · rename_i hs; exact ⟨i, j, rfl, rfl, hs, (Option.some.inj h).symm⟩
    · cases h
  · cases h
theorem op_orD : OpR X (binaryOp .BitOr) (rD2 c dOr) := op_ofI0 op_or fun x y d h => by
  unfold dOr at h; split at h <;> simp at h; exact ⟨_, _, rfl, rfl, h.symm⟩
theorem op_xorD : OpR X (binaryOp .BitXor) (rD2 c dXor) := op_ofI0 op_xor fun x y d h => by
  unfold dXor at h; split at h <;> simp at h; exact ⟨_, _, rfl, rfl, h.symm⟩
theorem op_andD : OpR X (binaryOp .BitAnd) (rD2 c dAnd) := op_ofI0 op_and fun x y d h => by
  unfold dAnd at h; split at h <;> simp at h; exact ⟨_, _, rfl, rfl, h.symm⟩

/-! ### + -/
/-- a rule whose answer is a new list, made fixed at once -/
theorem _root_.L2.OpR.frz {f : Value → Value → Sem Value} {r : R2} (h : OpR X f r) : OpR X f (fun x y H Q => r x y H fun v H1 => ∃ a xs, v = .ref a ∧ H1 a = some (.lst xs) ∧ ∀ o, Q v (upd H1 a (.frz o (.lst xs)))) := by
  intro pins s σ H x y v u Q I h1 h2 hq
  refine thn (h pins s σ H x y v u _ I h1 h2 hq) fun u s1 ⟨v, H1, I1, r, a, xs, e, h1, q⟩ => ?_
  obtain ⟨o, I2⟩ := I1.freeze h1
  exact ⟨v, _, I2, r, q o⟩
theorem op_catS : OpR X (binaryOp .Add) (fun x y H Q => ∃ l b xs zs, x = .ref l ∧ y = .ref b ∧ Rd H l (.lst xs) ∧ Rd H b (.lst zs) ∧ xs.length + zs.length ≤ sizeLine ∧ ∀ p, H p = none → Q (.ref p) (upd H p (.lst (xs ++ zs)))) := by
  intro pins s σ H x y v u Q I rx ry h
  obtain ⟨l, b, xs, zs, rfl, rfl, hH, hB, hz, q⟩ := h
  cases rx
  cases ry
  obtain ⟨z, its, n, r, e⟩ := hH.ok I.hok
  obtain ⟨z2, its2, n2, r2, e2⟩ := hB.ok I.hok
  have hl := r.length
  have hl2 := r2.length
  refine PySem.P.add_list e e2 ?_ (by rw [List.size_toArray, List.size_toArray]; omega)
  have ea : its.toArray ++ its2.toArray = (its ++ its2).toArray := by simp
  rw [ea]
  exact ⟨.ref _, _, I.lnew (t' := s.toks) (r.append r2) (by rw [List.length_append]; omega), rfl, q _ I.fresh⟩
/-- a new list at p, made fixed -/
theorem frz_new {H : Hp} {p : Addr} {xs : List V} {o : Obj} : upd (upd H p (.lst xs)) p (.frz o (.lst xs)) = upd H p (.frz o (.lst xs)) := upd_upd
theorem Rel.newLst {G : List Addr} {H : Hp} {ds : List D} {vs : List V} {p : Addr} {o : Obj} (np : H p = none) (r : RelL c G H ds vs) : Rel c G (upd H p (.frz o (.lst vs))) (.lst ds) (.ref p) := by
  simp only [Rel]
  exact ⟨p, o, vs, rfl, upd_same, RelL.extS (Ext.ofN (ExtN.upd np)).toS r⟩
theorem Rel.newTup {G : List Addr} {H : Hp} {ds : List D} {vs : List V} {p : Addr} (np : H p = none) (r : RelL c G H ds vs) : Rel c G (upd H p (.tup vs)) (.tup ds) (.ref p) := by
  simp only [Rel]
  exact ⟨p, vs, rfl, ⟨.inl (.inl upd_same), fun _ => upd_same⟩, RelL.extS (Ext.ofN (ExtN.upd np)).toS r⟩
theorem op_addD (hc : X.K = c.K) : OpR X (binaryOp .Add) (rD2 c dAdd) := by
  refine ((op_add.or op_add_str).or (op_catA.or op_catS.frz)).imp fun x y H Q ⟨G, d1, d2, d, r1, r2, e, q⟩ => ?_
  have lists : ∀ xs ys, listD d1 = some xs → listD d2 = some ys → xs.length + ys.length ≤ cap → d = .lst (xs ++ ys) →
      ∃ l b xs zs, x = .ref l ∧ y = .ref b ∧ Rd H l (.lst xs) ∧ Rd H b (.lst zs) ∧ xs.length + zs.length ≤ sizeLine ∧ ∀ p, H p = none → ∃ a xs1, V.ref p = .ref a ∧ (upd H p (.lst (xs ++ zs))) a = some (.lst xs1) ∧ ∀ o, Q (V.ref p) (upd (upd H p (.lst (xs ++ zs))) a (.frz o (.lst xs1))) := by
    intro xs ys h1 h2 hz hd
    obtain ⟨a, vs, ex, ha, ra⟩ := Rel.list h1 r1
    obtain ⟨b, ws, ey, hb, rb⟩ := Rel.list h2 r2
    refine ⟨a, b, vs, ws, ex, ey, ha, hb, by rw [ra.length, rb.length, cap_eq]; exact hz, fun p np => ⟨p, _, rfl, upd_same, fun o => ?_⟩⟩
    rw [frz_new]
    subst hd
    exact q _ _ (ExtN.upd np) (Rel.newLst np (ra.append rb))
  unfold dAdd at e
  split at e
  · cases e
    exact .inl (.inl ⟨_, _, r1.int, r2.int, q _ _ ExtN.refl (by simp only [Rel])⟩)
  · split at e
    · rename_i hz
      cases e
      simp only [Rel] at r1 r2
      exact .inl (.inr ⟨_, _, r1, r2, by rw [cap_eq]; exact hz, q _ _ ExtN.refl (by simp only [Rel])⟩)
    · cases e
  · split at e
    · rename_i xs ys hz
      cases e
      obtain ⟨a, vs, ex, ha, ra⟩ := r1.tup
      obtain ⟨b, ws, ey, hb, rb⟩ := r2.tup
      refine .inr (.inl ⟨a, b, vs, ws, ex, ey, by rw [hc]; exact ha, by rw [hc]; exact hb, by rw [ra.length, rb.length, cap_eq]; exact hz, fun h0 => ?_, fun _ h0 => ?_, fun _ _ p np => ?_⟩)
      · subst h0
        have e0 : xs = [] := by
          have := ra.length
          simpa using this.symm
        subst e0
        rw [← ey]
        exact q _ _ ExtN.refl r2
      · subst h0
        have e0 : ys = [] := by
          have := rb.length
          simpa using this.symm
        subst e0
        rw [← ex]
        exact q _ _ ExtN.refl (by simpa using r1)
      · exact q _ _ (ExtN.upd np) (Rel.newTup np (ra.append rb))
    · cases e
  all_goals first
    | (split at e
       · rename_i xs ys hz
         exact .inr (.inr (lists xs ys rfl rfl hz (Option.some.inj e).symm))
       · cases e)
    | cases e

/-! ### == and != -/
def dEq : D → D → Option D := fun x y => if okd x && okd y then some (.bl (eqD x y)) else none
def dNe : D → D → Option D := fun x y => if okd x && okd y then some (.bl (!eqD x y)) else none
theorem op_eqDD (hc : X.K = c.K) (hu : X.A.units + 64 < cLine) : OpR X (compareOp .Eq) (rD2 c dEq) := by
  refine (op_eqD hu).imp fun x y H Q ⟨G, d1, d2, d, r1, r2, e, q⟩ => ?_
  unfold dEq at e
  split at e
  · rename_i h
    simp only [Bool.and_eq_true] at h
    cases e
    refine ⟨pd d1, pd d2, by rw [hc]; exact Rel.dp _ _ _ h.1 r1, by rw [hc]; exact Rel.dp _ _ _ h.2 r2, okd_shaped h.1, okd_shaped h.2, q _ _ ExtN.refl ?_⟩
    simp only [Rel]
    rw [eqD_pd _ _ _ _ h.1 h.2]
  · cases e
theorem op_neDD (hc : X.K = c.K) (hu : X.A.units + 64 < cLine) : OpR X (compareOp .NotEq) (rD2 c dNe) := by
  refine (op_neD hu).imp fun x y H Q ⟨G, d1, d2, d, r1, r2, e, q⟩ => ?_
  unfold dNe at e
  split at e
  · rename_i h
    simp only [Bool.and_eq_true] at h
    cases e
    refine ⟨pd d1, pd d2, by rw [hc]; exact Rel.dp _ _ _ h.1 r1, by rw [hc]; exact Rel.dp _ _ _ h.2 r2, okd_shaped h.1, okd_shaped h.2, q _ _ ExtN.refl ?_⟩
    simp only [Rel]
    rw [eqD_pd _ _ _ _ h.1 h.2]
  · cases e

/-! ### in, not in -/
def inL (x : D) (xs : List D) : Bool := xs.any fun z => eqD z x
def dIn : D → D → Option D := fun x y => match seqD y with
  | some xs => if okd x && okL 39 xs then some (.bl (inL x xs)) else none
  | none => none
def dNin : D → D → Option D := fun x y => match seqD y with
  | some xs => if okd x && okL 39 xs then some (.bl (!inL x xs)) else none
  | none => none
theorem any_pd {x : D} (h : okd x = true) : ∀ {xs : List D}, okL 39 xs = true → (pdL xs).any (fun z => PyData.eqv z (pd x)) = inL x xs
  | [], _ => rfl
  | y :: ys, k => by
    simp only [okL, Bool.and_eq_true] at k
    simp only [pdL, List.any_cons, inL]
    rw [eqD_pd _ _ _ _ k.1 h, any_pd h k.2]
    rfl
theorem in_reads (hu : X.A.units + 65 < cLine) {G : List Addr} {H : Hp} {x y : V} {d1 d2 : D} {xs : List D} (hc : X.K = c.K) (e : seqD d2 = some xs) (h1 : okd d1 = true) (h2 : okL 39 xs = true) (r1 : Rel c G H d1 x) (r2 : Rel c G H d2 y)
    {pins : List (Addr × Obj)} {s : Shared} {σ : L2.St} {v u : Value} (I : Inv X pins σ H s) (rx : RelV x v) (ry : RelV y u) (Q : VK) (k : Bool) (q : Q (.bl (if k then !inL d1 xs else inL d1 xs)) H) :
    wpAny (model X.prog X.w) X.A (compareOp (if k then .NotIn else .In) v u) (EP X pins σ Q) X.xe s := by
  obtain ⟨as, rd1⟩ := Dp.reads I (pd d1) x v (by rw [hc]; exact Rel.dp _ _ _ h1 r1) rx
  have sh := okd_shaped h1
  have room := PyProof.Rows.room_in_shaped (xs := pdL xs) sh hu
  have lay := (pdL_lay 39 xs h2).1
  have hany := any_pd h1 h2
  have fin : ∀ b : Bool, Q (.bl b) H → EP X pins σ Q (.bool b) s := fun b hb => ⟨.bl b, H, I, rfl, hb⟩
  cases hl : listD d2 with
  | some ys =>
    have hy : ys = xs := by cases d2 <;> simp_all [listD, seqD]
    subst hy
    have p2 : pd d2 = .list (pdL ys) := by cases d2 <;> simp_all [listD, pd]
    have o2 : okD 40 d2 = true := by cases d2 <;> simp_all [listD, okD]
    obtain ⟨bs, rd2⟩ := Dp.reads I (pd d2) y u (by rw [hc]; exact Rel.dp _ _ _ o2 r2) ry
    rw [p2] at rd2
    cases k with
    | true => exact SeqAt.notIn_list_reads rd2 rd1 lay (SeqAt.canLay_of_shaped sh) room (by rw [hany]; exact fin _ q)
    | false => exact SeqAt.in_list_reads rd2 rd1 lay (SeqAt.canLay_of_shaped sh) room (by rw [hany]; exact fin _ q)
  | none =>
    have p2 : pd d2 = .tuple (pdL xs) := by cases d2 <;> simp_all [listD, seqD, pd]
    have o2 : okD 40 d2 = true := by cases d2 <;> simp_all [listD, seqD, okD]
    obtain ⟨bs, rd2⟩ := Dp.reads I (pd d2) y u (by rw [hc]; exact Rel.dp _ _ _ o2 r2) ry
    rw [p2] at rd2
    cases k with
    | true => exact SeqAt.notIn_tuple_reads rd2 rd1 lay (SeqAt.canLay_of_shaped sh) room (by rw [hany]; exact fin _ q)
    | false => exact SeqAt.in_tuple_reads rd2 rd1 lay (SeqAt.canLay_of_shaped sh) room (by rw [hany]; exact fin _ q)
theorem op_inDD (hc : X.K = c.K) (hu : X.A.units + 65 < cLine) : OpR X (compareOp .In) (rD2 c dIn) := by
  intro pins s σ H x y v u Q I rx ry ⟨G, d1, d2, d, r1, r2, e, q⟩
  unfold dIn at e
  split at e
  · rename_i xs hs
    split at e
    · rename_i h
      simp only [Bool.and_eq_true] at h
      cases e
      exact in_reads hu hc hs h.1 h.2 r1 r2 I rx ry Q false (q _ _ ExtN.refl (by simp only [Rel]; rfl))
    · cases e
  · cases e
theorem op_ninDD (hc : X.K = c.K) (hu : X.A.units + 65 < cLine) : OpR X (compareOp .NotIn) (rD2 c dNin) := by
  intro pins s σ H x y v u Q I rx ry ⟨G, d1, d2, d, r1, r2, e, q⟩
  unfold dNin at e
  split at e
  · rename_i xs hs
    split at e
    · rename_i h
      simp only [Bool.and_eq_true] at h
      cases e
      exact in_reads hu hc hs h.1 h.2 r1 r2 I rx ry Q true (q _ _ ExtN.refl (by simp only [Rel]; rfl))
    · cases e
  · cases e

/-! ### is, is not -/
def isNon : D → Bool
  | .non => true
  | _ => false
def dIs : D → D → Option D
  | x, .non => some (.bl (isNon x))
  | .bl a, .bl b => some (.bl (decide (a = b)))
  | _, _ => none
def dIsn : D → D → Option D
  | x, .non => some (.bl (!isNon x))
  | .bl a, .bl b => some (.bl (!decide (a = b)))
  | _, _ => none
theorem Rel.isNon {G : List Addr} {H : Hp} {d : D} {v : V} (r : Rel c G H d v) : decide (v = .non) = isNon d := by
  cases d <;> simp only [Rel, Pv.isNon] at r ⊢
  all_goals first
    | (subst r; rfl)
    | (obtain ⟨a, _, h, _⟩ := r; subst h; rfl)
    | (obtain ⟨a, _, h, _, _⟩ := r; subst h; rfl)
    | (obtain ⟨a, o, vs, h, _, _⟩ := r; subst h; rfl)
    | (obtain ⟨a, o, u, ws, h, _⟩ := r; subst h; rfl)
    | (obtain ⟨a, u, ws, h, _⟩ := r; subst h; rfl)
    | (obtain ⟨a, _, h⟩ := r; subst h; rfl)
    | (obtain ⟨h, _⟩ := r; subst h; rfl)
    | exact r.elim
theorem op_isDD : OpR X (compareOp .Is) (rD2 c dIs) := by
  refine (op_isN.or op_is_bl).imp fun x y H Q ⟨G, d1, d2, d, r1, r2, e, q⟩ => ?_
  unfold dIs at e
  split at e
  · cases e
    refine .inl ⟨by simpa only [Rel] using r2, q _ _ ExtN.refl ?_⟩
    rw [r1.isNon]
    simp only [Rel]
  · cases e
    simp only [Rel] at r1 r2
    exact .inr ⟨_, _, r1, r2, q _ _ ExtN.refl (by simp only [Rel])⟩
  · cases e
theorem op_isnDD : OpR X (compareOp .IsNot) (rD2 c dIsn) := by
  refine (op_notN.or op_isnot_bl).imp fun x y H Q ⟨G, d1, d2, d, r1, r2, e, q⟩ => ?_
  unfold dIsn at e
  split at e
  · cases e
    refine .inl ⟨by simpa only [Rel] using r2, q _ _ ExtN.refl ?_⟩
    rw [r1.isNon]
    simp only [Rel]
  · cases e
    simp only [Rel] at r1 r2
    exact .inr ⟨_, _, r1, r2, q _ _ ExtN.refl (by simp only [Rel])⟩
  · cases e
end

/-! ### order -/
mutual
def ltD : D → D → Option Bool
  | .int i, .int j => some (decide (i < j))
  | .str x, .str y => some (decide (x.cps.toList < y.cps.toList))
  | .tup xs, .tup ys => ltL xs ys
  | _, _ => none
def ltL : List D → List D → Option Bool
  | [], [] => some false
  | [], _ :: _ => some true
  | _ :: _, [] => some false
  | x :: xs, y :: ys => match ltD x y, ltL xs ys with
    | some a, some b => some (if eqD x y then b else a)
    | _, _ => none
end
theorem lexAt_shift {e r e' r' : Nat → Bool} {z : Bool} (he : ∀ j, e (j + 1) = e' j) (hr : ∀ j, r (j + 1) = r' j) : ∀ (k i : Nat), _root_.Ob.lexAt e r z (i + 1) k = _root_.Ob.lexAt e' r' z i k
  | 0, i => rfl
  | k + 1, i => by
    rw [_root_.Ob.lexAt_succ, _root_.Ob.lexAt_succ, he, hr, lexAt_shift he hr k (i + 1)]
def eqAtL (xs ys : List D) (j : Nat) : Bool := eqD (xs.getD j .non) (ys.getD j .non)
def ltAtL (xs ys : List D) (j : Nat) : Bool := (ltD (xs.getD j .non) (ys.getD j .non)).getD false
theorem lexAt_ltL : ∀ (xs ys : List D) (b : Bool), ltL xs ys = some b → _root_.Ob.lexAt (eqAtL xs ys) (ltAtL xs ys) (decide (xs.length < ys.length)) 0 (min xs.length ys.length) = b
  | [], [], b, h => by simp [ltL] at h; subst h; rfl
  | [], y :: ys, b, h => by simp [ltL] at h; subst h; simp [_root_.Ob.lexAt]
  | x :: xs, [], b, h => by simp [ltL] at h; subst h; simp [_root_.Ob.lexAt]
  | x :: xs, y :: ys, b, h => by
    simp only [ltL] at h
    split at h
    · rename_i a b' h1 h2
      cases h
      have ih := lexAt_ltL xs ys b' h2
      rw [show min (x :: xs).length (y :: ys).length = min xs.length ys.length + 1 by simp only [List.length_cons]; omega, _root_.Ob.lexAt_succ]
      rw [lexAt_shift (e' := eqAtL xs ys) (r' := ltAtL xs ys) (fun j => by simp [eqAtL]) (fun j => by simp [ltAtL])]
      have hz : decide ((x :: xs).length < (y :: ys).length) = decide (xs.length < ys.length) := by simp
      rw [hz, ih]
      have e0 : eqAtL (x :: xs) (y :: ys) 0 = eqD x y := by simp [eqAtL]
      have r0 : ltAtL (x :: xs) (y :: ys) 0 = a := by simp [ltAtL, h1]
      rw [e0, r0]
    · cases h
theorem ltL_all : ∀ (xs ys : List D) (b : Bool), ltL xs ys = some b → ∀ j, j < xs.length → j < ys.length → ∃ a, ltD (xs.getD j .non) (ys.getD j .non) = some a
  | [], _, _, _, j, h, _ => absurd h (Nat.not_lt_zero _)
  | _ :: _, [], _, _, j, _, h => absurd h (Nat.not_lt_zero _)
  | x :: xs, y :: ys, b, h, j, h1, h2 => by
    simp only [ltL] at h
    split at h
    · rename_i a b' e1 e2
      cases j with
      | zero => exact ⟨a, by simpa using e1⟩
      | succ j => simpa using ltL_all xs ys b' e2 j (by simpa using h1) (by simpa using h2)
    · cases h
theorem okL_get : ∀ {n : Nat} {xs : List D}, okL n xs = true → ∀ j, j < xs.length → okD n (xs.getD j .non) = true
  | _, [], _, _, h => absurd h (Nat.not_lt_zero _)
  | n, x :: xs, h, 0, _ => by simp only [okL, Bool.and_eq_true] at h; simpa using h.1
  | n, x :: xs, h, j + 1, hj => by simp only [okL, Bool.and_eq_true] at h; simpa using okL_get h.2 j (by simpa using hj)
theorem eqAt_D {c : Cn} {X : Cx} {pins : List (Addr × Obj)} {σ : L2.St} {H : Hp} {s : Shared} (hc : X.K = c.K) (I : Inv X pins σ H s) {G : List Addr} {n m : Nat} {A : Around} (hu : A.units + 41 < cLine) (hn : n ≤ 40) {d e : D} {x y : V} {v u : Value} (o1 : okD n d = true) (o2 : okD m e = true)
    (r1 : Rel c G H d x) (r2 : Rel c G H e y) (rx : RelV x v) (ry : RelV y u) : SeqAt.EqAt A s v u (eqD d e) := by
  obtain ⟨as, q1⟩ := Dp.reads I (pd d) x v (by rw [hc]; exact Rel.dp _ _ _ o1 r1) rx
  obtain ⟨bs, q2⟩ := Dp.reads I (pd e) y u (by rw [hc]; exact Rel.dp _ _ _ o2 r2) ry
  rw [eqD_pd _ _ _ _ o1 o2]
  have l1 := pd_lay _ _ o1
  have l2 := pd_lay _ _ o2
  refine SeqAt.eqAt_reads _ _ A s v u as bs q1 q2 l1.1 l2.1 ?_
  have := Nat.min_le_left (pd d).depth (pd e).depth
  omega
/-- x < y of two data -/
theorem rcLt {c : Cn} {X : Cx} {pins : List (Addr × Obj)} {σ : L2.St} {H : Hp} {s : Shared} (hc : X.K = c.K) (I : Inv X pins σ H s) {G : List Addr} : ∀ (n : Nat) (A : Around) (d e : D) (x y : V) (v u : Value) (b : Bool), n ≤ 40 → A.units + 41 + n < cLine → okD n d = true → okD n e = true →
    Rel c G H d x → Rel c G H e y → RelV x v → RelV y u → ltD d e = some b → _root_.Ob.RcOp .Lt A s v u b := by
  intro n
  induction n with
  | zero =>
    intro A d e x y v u b hn hu o1 o2 r1 r2 rx ry h
    cases d <;> cases e <;> simp only [ltD, reduceCtorEq, Option.some.injEq] at h
    · simp only [Rel] at r1 r2
      subst r1 r2 h
      obtain ⟨t, rfl⟩ := rx
      obtain ⟨t', rfl⟩ := ry
      exact _root_.Ob.RcOp.lt_int _ _ _ _
    · simp only [Rel] at r1 r2
      subst r1 r2 h
      obtain ⟨t, rfl⟩ := rx
      obtain ⟨t', rfl⟩ := ry
      intro prog w E Q q
      exact PySem.P.lt_str q
    · simp [okD] at o1
  | succ n ih =>
    intro A d e x y v u b hn hu o1 o2 r1 r2 rx ry h
    cases d <;> cases e <;> simp only [ltD, reduceCtorEq, Option.some.injEq] at h
    · simp only [Rel] at r1 r2
      subst r1 r2 h
      obtain ⟨t, rfl⟩ := rx
      obtain ⟨t', rfl⟩ := ry
      exact _root_.Ob.RcOp.lt_int _ _ _ _
    · simp only [Rel] at r1 r2
      subst r1 r2 h
      obtain ⟨t, rfl⟩ := rx
      obtain ⟨t', rfl⟩ := ry
      intro prog w E Q q
      exact PySem.P.lt_str q
    · rename_i xs ys
      simp only [okD] at o1 o2
      obtain ⟨a, vs, rfl, ha, ra⟩ := r1.tup
      obtain ⟨a', ws, rfl, hb, rb⟩ := r2.tup
      cases rx
      cases ry
      obtain ⟨its, rv, p1, _⟩ := I.tuple (by rw [hc]; exact ha)
      obtain ⟨its2, rw', p2, _⟩ := I.tuple (by rw [hc]; exact hb)
      have n1 : its.length = xs.length := by rw [← rv.length, ra.length]
      have n2 : its2.length = ys.length := by rw [← rw'.length, rb.length]
      have at1 : ∀ j (h1 : j < its.toArray.size), ∃ z, Rel c G H (xs.getD j .non) z ∧ RelV z its.toArray[j] ∧ j < xs.length := fun j h1 => by
        have hj : j < xs.length := by rw [← n1]; simpa using h1
        obtain ⟨z, e1, _, e2⟩ := ra.get (List.getElem?_eq_getElem hj)
        obtain ⟨u', e3, e4⟩ := rv.get e1
        refine ⟨z, ?_, ?_, hj⟩
        · rw [List.getD_eq_getElem?_getD, List.getElem?_eq_getElem hj]; exact e2
        · have : its.toArray[j] = u' := by
            have := (List.getElem?_eq_some_iff.mp e3).2
            simpa using this
          rw [this]; exact e4
      have at2 : ∀ j (h1 : j < its2.toArray.size), ∃ z, Rel c G H (ys.getD j .non) z ∧ RelV z its2.toArray[j] ∧ j < ys.length := fun j h1 => by
        have hj : j < ys.length := by rw [← n2]; simpa using h1
        obtain ⟨z, e1, _, e2⟩ := rb.get (List.getElem?_eq_getElem hj)
        obtain ⟨u', e3, e4⟩ := rw'.get e1
        refine ⟨z, ?_, ?_, hj⟩
        · rw [List.getD_eq_getElem?_getD, List.getElem?_eq_getElem hj]; exact e2
        · have : its2.toArray[j] = u' := by
            have := (List.getElem?_eq_some_iff.mp e3).2
            simpa using this
          rw [this]; exact e4
      have R := _root_.Ob.RcOp.tuples_lt (A := A) (s := s) (e := eqAtL xs ys) (r := ltAtL xs ys) p1 p2 (by omega) (fun j h1 h2 => by
        obtain ⟨z, q1, q2, q3⟩ := at1 j h1
        obtain ⟨z', q1', q2', q3'⟩ := at2 j h2
        exact eqAt_D hc I (by show A.units + 1 + 41 < cLine; omega) (by omega) (okL_get o1 j q3) (okL_get o2 j q3') q1 q1' q2 q2') (fun j h1 h2 _ => by
        obtain ⟨z, q1, q2, q3⟩ := at1 j h1
        obtain ⟨z', q1', q2', q3'⟩ := at2 j h2
        obtain ⟨b', hb'⟩ := ltL_all xs ys b h j q3 q3'
        have : ltAtL xs ys j = b' := by unfold ltAtL; rw [hb']; rfl
        rw [this]
        exact ih A.in1 _ _ _ _ _ _ b' (by omega) (by show A.units + 1 + 41 + n < cLine; omega) (okL_get o1 j q3) (okL_get o2 j q3') q1 q1' q2 q2' hb')
      have s1 : its.toArray.size = xs.length := by simpa using n1
      have s2 : its2.toArray.size = ys.length := by simpa using n2
      rw [s1, s2, lexAt_ltL xs ys b h] at R
      exact R
def dLt : D → D → Option D := fun x y => if okd x && okd y then (ltD x y).map .bl else none
theorem op_ltDD {X : Cx} {c : Cn} (hc : X.K = c.K) (hu : X.A.units + 90 < cLine) : OpR X (compareOp .Lt) (rD2 c dLt) := by
  intro pins s σ H x y v u Q I rx ry ⟨G, d1, d2, d, r1, r2, e, q⟩
  unfold dLt at e
  split at e
  · rename_i h
    simp only [Bool.and_eq_true] at h
    cases e1 : ltD d1 d2 with
    | none => rw [e1] at e; cases e
    | some b =>
      rw [e1] at e
      cases e
      exact rcLt hc I 40 X.A d1 d2 x y v u b (Nat.le_refl _) (by omega) h.1 h.2 r1 r2 rx ry e1 X.prog X.w X.xe _ ⟨.bl b, H, I, rfl, q _ _ ExtN.refl (by simp only [Rel])⟩
  · cases e
def dLe : D → D → Option D
  | .int i, .int j => some (.bl (decide (i ≤ j)))
  | _, _ => none
def dGt : D → D → Option D
  | .int i, .int j => some (.bl (decide (j < i)))
  | _, _ => none
def dGe : D → D → Option D
  | .int i, .int j => some (.bl (decide (j ≤ i)))
  | _, _ => none
section
variable {X : Cx} {c : Cn}
theorem op_leDD : OpR X (compareOp .LtE) (rD2 c dLe) := op_le.imp fun x y H Q ⟨G, d1, d2, d, r1, r2, e, q⟩ => by
  unfold dLe at e; split at e <;> simp at e; subst e; exact ⟨_, _, r1.int, r2.int, q _ _ ExtN.refl (by simp only [Rel])⟩
theorem op_gtDD : OpR X (compareOp .Gt) (rD2 c dGt) := op_gt.imp fun x y H Q ⟨G, d1, d2, d, r1, r2, e, q⟩ => by
  unfold dGt at e; split at e <;> simp at e; subst e; exact ⟨_, _, r1.int, r2.int, q _ _ ExtN.refl (by simp only [Rel])⟩
theorem op_geDD : OpR X (compareOp .GtE) (rD2 c dGe) := op_ge.imp fun x y H Q ⟨G, d1, d2, d, r1, r2, e, q⟩ => by
  unfold dGe at e; split at e <;> simp at e; subst e; exact ⟨_, _, r1.int, r2.int, q _ _ ExtN.refl (by simp only [Rel])⟩
end
end Pv
set_option maxRecDepth 100000
set_option maxHeartbeats 1000000
/-! PvD: subscripts, displays, built-ins by plain data -/
namespace Pv
open PySem PySem.Spec PyProof.Rows L2
section
variable {X : Cx} {c : Cn} {W : L2.St → WE}

/-! ### -x -/
def un1 (g : D → Option D) (f : RX D) : RX D := fun ρ δ => (f ρ δ).bind fun d δ1 => ofO (g d) δ1
theorem tD.one {g : D → Option D} {f : RX D} {σ : L2.St} {H : Hp} {Q : VK} (h : tD c W (un1 g f) σ H Q) :
    tD c W f σ H fun x H1 => ∃ G d d', Rel c G H1 d x ∧ g d = some d' ∧ ∀ v H', ExtN H1 H' → Rel c G H' d' v → Q v H' := by
  refine tG.first (f := f) (k := fun d ρ δ1 => ofO (g d) δ1) h fun ρ d δ1 G1 H1 a1 p1 v rv => ?_
  obtain ⟨d', e, p⟩ := Post.ofO p1
  exact ⟨G1, d, d', rv, e, fun z H' xn rz => Post.okN p a1.dr xn z rz⟩
def dNeg : D → Option D
  | .int i => some (.int (-i))
  | _ => none
theorem pe_negD {e : Expr} {pos : Pos} {f : RX D} (h : PE X e (tD c W f)) : PE X (.UnaryOp .USub e pos) (tD c W (un1 dNeg f)) :=
  (pe_un un_neg h).imp fun σ H Q h => by
    refine tG_mono (tD.one h) fun x H1 ⟨G, d, d', r, e, q⟩ => ?_
    unfold dNeg at e
    split at e
    · cases e
      exact ⟨_, r.int, q _ _ ExtN.refl (by simp only [Rel])⟩
    · cases e
where
  tG_mono {f : RX D} {σ : L2.St} {H : Hp} {Q Q' : VK} (h : tD c W f σ H Q) (i : ∀ x H1, Q x H1 → Q' x H1) : tD c W f σ H Q' := by
    obtain ⟨ρ, δ, G, s, d, p⟩ := h
    exact ⟨ρ, δ, G, s, d, p.mono fun a G' H' _ q v r => i _ _ (q v r)⟩
theorem tD.mono {f : RX D} {σ : L2.St} {H : Hp} {Q Q' : VK} (h : tD c W f σ H Q) (i : ∀ x H1, Q x H1 → Q' x H1) : tD c W f σ H Q' := pe_negD.tG_mono h i

/-! ### x[i] -/
def dIdx : D → D → Option D
  | x, .int i => match x with
    | .str z => if z.length ≤ cap then (atI z.cps.toList i).map fun a => .str ⟨#[a]⟩ else none
    | x => (seqC x).bind fun xs => atI xs i
  | _, _ => none
theorem atI_rel {G : List Addr} {H : Hp} {xs : List D} {vs : List V} (r : RelL c G H xs vs) {i : Int} {d : D} (h : atI xs i = some d) : ∃ v, atI vs i = some v ∧ d.strong = true ∧ Rel c G H d v := by
  unfold atI at h ⊢
  rw [r.length]
  cases e : ixN xs.length i with
  | none => rw [e] at h; cases h
  | some j =>
    rw [e] at h
    obtain ⟨v, e1, e2, e3⟩ := r.get (show xs[j]? = some d from h)
    exact ⟨v, e1, e2, e3⟩
theorem _root_.L2.IxR.imp {r r' : R2} (h : IxR X r) (i : ∀ x y H Q, r' x y H Q → r x y H Q) : IxR X r' := fun value slice pins s σ H x y v u Q I h1 h2 hq hs => h value slice pins s σ H x y v u Q I h1 h2 (i _ _ _ _ hq) hs
theorem ix_D (hc : X.K = c.K) : IxR X (rD2 c dIdx) := by
  refine ix_seq.imp fun x y H Q ⟨G, d1, d2, d, r1, r2, e, q⟩ => ?_
  cases d2 <;> simp only [dIdx, reduceCtorEq] at e
  rename_i i
  have ey := r2.int
  have seq : ∀ xs, seqC d1 = some xs → atI xs i = some d → rIx X.K x y H Q := by
    intro xs hs ha
    obtain ⟨a, vs, ex, hp, ra⟩ := r1.seqC hs
    obtain ⟨z, e1, _, e3⟩ := atI_rel ra ha
    have qq := q z H ExtN.refl e3
    rcases hp with hp | hp
    · exact .inl ⟨a, vs, i, z, ex, ey, by rw [hc]; exact hp, e1, qq⟩
    · exact .inr (.inl ⟨a, vs, i, z, ex, ey, by rw [hc]; exact hp, e1, qq⟩)
  split at e
  · rename_i z
    split at e
    · rename_i hz
      cases ea : atI z.cps.toList i with
      | none => rw [ea] at e; cases e
      | some a =>
        rw [ea] at e
        cases e
        simp only [Rel] at r1
        exact .inr (.inr ⟨z, i, a, r1, ey, by rw [cap_eq]; exact hz, ea, q _ _ ExtN.refl (by simp only [Rel])⟩)
    · cases e
  · cases hs : seqC d1 with
    | none => rw [hs] at e; cases e
    | some xs =>
      rw [hs] at e
      exact seq xs hs e
theorem pe_idxD {a b : Expr} {pos : Pos} {fa fb : RX D} (hc : X.K = c.K) (ha : PE X a (tD c W fa)) (hb : PE X b (tD c W fb)) (hs : PlainIx b) : PE X (.Subscript a b pos) (tD c W (bin2 dIdx fa fb)) :=
  (pe_ix (ix_D hc) ha hb hs).imp fun _ _ _ h => tD.two h

/-! ### x[a:b] -/
def optA (f : Option (RX D)) : RX (Option Int) := fun ρ δ => match f with
  | none => .ok none δ
  | some f => (f ρ δ).bind fun d δ1 => match d with
    | .int i => .ok (some i) δ1
    | _ => .no
def tO (c : Cn) (W : L2.St → WE) (f : RX (Option Int)) : TO := fun σ H Q => tG c W f σ H fun o _ H' => Q o H'
theorem po_noneD : PO X none (tO c W (optA none)) := by
  have h : PO X none tNoPart := po_none
  refine ⟨fun pins s σ H Q I hw => h.run pins s σ H Q I ?_⟩
  obtain ⟨ρ, δ, G, s, d, p⟩ := hw
  exact Post.okIn p d
theorem po_someD {e : Expr} {f : RX D} (h : PE X e (tD c W f)) : PO X (some e) (tO c W (optA (some f))) := by
  have h : PO X (some e) (tPart (tD c W f)) := po_some h
  refine ⟨fun pins s σ H Q I hw => h.run pins s σ H Q I ?_⟩
  refine tG.first (f := f) (k := fun d ρ δ1 => match d with
    | .int i => .ok (some i) δ1
    | _ => .no) hw fun ρ d δ1 G1 H1 a1 p1 v rv => ?_
  cases d <;> first | exact p1.elim | skip
  exact ⟨_, rv.int, Post.okIn p1 a1.dr⟩
def cutD {α : Type} (xs : List α) (lo hi : Option Int) : List α := (xs.drop (HT.sIx xs.length 0 lo)).take (HT.sIx xs.length xs.length hi - HT.sIx xs.length 0 lo)
def dCut (x : D) (lo hi : Option Int) : Option D := match x with
  | .lst xs => some (.lst (cutD xs lo hi))
  | .wk xs => some (.lst (cutD xs lo hi))
  | .tup xs => some (.tup (cutD xs lo hi))
  | .sc xs => some (.lst (cutD xs lo hi))
  | _ => none
def slc (f : RX D) (lo hi : RX (Option Int)) : RX D := fun ρ δ => (f ρ δ).bind fun x δ1 => (lo ρ δ1).bind fun l δ2 => (hi ρ δ2).bind fun h δ3 => ofO (dCut x l h) δ3
def rSlD (c : Cn) : V → Option Int → Option Int → Hp → VK → Prop := fun x lo hi H Q => ∃ G d d', Rel c G H d x ∧ dCut d lo hi = some d' ∧ ∀ v H', ExtN H H' → Rel c G H' d' v → Q v H'
theorem cut_rel {G : List Addr} {H : Hp} {xs : List D} {vs : List V} (r : RelL c G H xs vs) (lo hi : Option Int) : RelL c G H (cutD xs lo hi) (cutV vs lo hi) := by
  unfold cutD cutV
  rw [r.length]
  exact (r.drop _).take _
theorem sl_D (hc : X.K = c.K) : SlR X (rSlD c) := by
  have base : SlR X (fun x lo hi H Q => rSlL X.K x lo hi H (fun v H1 => ∃ a xs, v = .ref a ∧ H1 a = some (.lst xs) ∧ ∀ o, Q v (upd H1 a (.frz o (.lst xs)))) ∨ rSlA X.K x lo hi H Q) := by
    refine SlR.or ?_ sl_tupA
    intro pins s σ H x v vl vu lo hi sl Q I rx hs pl pu h
    obtain ⟨T, id, h1, h2, h3⟩ := sl_list pins s σ H x v vl vu lo hi sl _ I rx hs pl pu h
    refine ⟨T, id, h1, h2, thn h3 fun u s1 ⟨v, H1, I1, r, a, xs, e, h1, q⟩ => ?_⟩
    obtain ⟨o, I2⟩ := I1.freeze h1
    exact ⟨v, _, I2, r, q o⟩
  intro pins s σ H x v vl vu lo hi sl Q I rx hs pl pu ⟨G, d, d', r, e, q⟩
  refine base pins s σ H x v vl vu lo hi sl Q I rx hs pl pu ?_
  have lists : ∀ xs, listD d = some xs → d' = .lst (cutD xs lo hi) → rSlL X.K x lo hi H (fun v H1 => ∃ a xs, v = .ref a ∧ H1 a = some (.lst xs) ∧ ∀ o, Q v (upd H1 a (.frz o (.lst xs)))) := by
    intro xs hl hd
    obtain ⟨a, vs, ex, ha, ra⟩ := r.list hl
    refine ⟨a, vs, ex, .inl ha, fun p np => ⟨p, _, rfl, upd_same, fun o => ?_⟩⟩
    rw [frz_new]
    subst hd
    exact q _ _ (ExtN.upd np) (Rel.newLst np (cut_rel ra lo hi))
  unfold dCut at e
  split at e
  · exact .inl (lists _ rfl (Option.some.inj e).symm)
  · exact .inl (lists _ rfl (Option.some.inj e).symm)
  · rename_i xs
    cases e
    obtain ⟨a, vs, ex, ha, ra⟩ := r.tup
    refine .inr ⟨a, vs, ex, by rw [hc]; exact ha, fun ⟨h1, h2⟩ => ?_, fun _ p np => ?_⟩
    · have e0 : cutD xs lo hi = xs := by
        unfold cutD
        rw [ra.length] at h1 h2
        rw [h1, h2]
        simp
      rw [e0] at q
      rw [← ex]
      exact q _ _ ExtN.refl r
    · exact q _ _ (ExtN.upd np) (Rel.newTup np (cut_rel ra lo hi))
  · rename_i xs
    cases e
    simp only [Rel] at r
    obtain ⟨a, vs, ex, ha, ra⟩ := r
    refine .inl ⟨a, vs, ex, by rw [hc]; exact ha.sq, fun p np => ⟨p, _, rfl, upd_same, fun o => ?_⟩⟩
    rw [frz_new]
    exact q _ _ (ExtN.upd np) (Rel.newLst np (cut_rel ra lo hi))
  · cases e
theorem pe_slcD {e : Expr} {lo hi : Option Expr} {p2 pos : Pos} {f : RX D} {fl fh : RX (Option Int)} (hc : X.K = c.K) (he : PE X e (tD c W f)) (hl : PO X lo (tO c W fl)) (hh : PO X hi (tO c W fh)) : PE X (.Subscript e (.Slice lo hi none p2) pos) (tD c W (slc f fl fh)) :=
  (pe_slice (sl_D hc) he hl hh).imp fun σ H Q h => by
    refine tG.first (f := f) (k := fun x ρ δ1 => (fl ρ δ1).bind fun l δ2 => (fh ρ δ2).bind fun h δ3 => ofO (dCut x l h) δ3) h fun ρ x δ1 G1 H1 a1 p1 v rv => ?_
    refine ⟨ρ, δ1, G1, a1.sr, a1.dr, (Post.bind p1).mono fun l G2 H2 x2 ⟨δ2, d2, p2⟩ => ?_⟩
    refine ⟨ρ, δ2, G2, a1.sr.ext x2, d2, (Post.bind p2).mono fun h G3 H3 x3 ⟨δ3, d3, p3⟩ => ?_⟩
    obtain ⟨d', e, p⟩ := Post.ofO p3
    exact ⟨G3, x, d', (rv.ext x2).ext x3, e, fun z H' xn rz => Post.okN p d3 xn z rz⟩

/-! ### displays -/
def tupF (f : RX (List D)) : RX D := fun ρ δ => (f ρ δ).bind fun ds δ1 => if ds.length ≤ cap && ds.all D.strong then .ok (.tup ds) δ1 else .no
def lstF (f : RX (List D)) : RX D := fun ρ δ => (f ρ δ).bind fun ds δ1 => if ds.length ≤ cap && ds.all D.strong then .ok (.lst ds) δ1 else .no
theorem tA.mono {f : RX (List D)} {σ : L2.St} {H : Hp} {Q Q' : List V → Hp → Prop} (h : tA c W f σ H Q) (i : ∀ x H1, Q x H1 → Q' x H1) : tA c W f σ H Q' := by
  obtain ⟨ρ, δ, G, s, d, p⟩ := h
  exact ⟨ρ, δ, G, s, d, p.mono fun a G' H' _ q v r => i _ _ (q v r)⟩
theorem pe_tupD {es : List Expr} {k : Nat} {pos : Pos} {f : RX (List D)} (h : PA X es (tA c W f)) : PE X (.Tuple es k pos) (tD c W (tupF f)) :=
  (pe_tup h).imp fun σ H Q h => by
    refine tG.first (f := f) (k := fun ds ρ δ1 => if ds.length ≤ cap && ds.all D.strong then .ok (D.tup ds) δ1 else .no) h fun ρ ds δ1 G1 H1 a1 p1 vs rv => ?_
    by_cases hh : (ds.length ≤ cap && ds.all D.strong) = true
    · rw [if_pos hh] at p1
      simp only [Bool.and_eq_true, decide_eq_true_eq] at hh
      refine ⟨by rw [rv.length, cap_eq]; exact hh.1, fun p np => ?_⟩
      exact Post.okN p1 a1.dr (ExtN.upd np) _ (Rel.newTup np (rv.strong hh.2))
    · rw [if_neg hh] at p1
      exact p1.elim
theorem pe_lstD {es : List Expr} {pos : Pos} {f : RX (List D)} (h : PA X es (tA c W f)) : PE X (.List es pos) (tD c W (lstF f)) :=
  (pe_frz (pe_lst h)).imp fun σ H Q h => by
    refine tG.first (f := f) (k := fun ds ρ δ1 => if ds.length ≤ cap && ds.all D.strong then .ok (D.lst ds) δ1 else .no) h fun ρ ds δ1 G1 H1 a1 p1 vs rv => ?_
    by_cases hh : (ds.length ≤ cap && ds.all D.strong) = true
    · rw [if_pos hh] at p1
      simp only [Bool.and_eq_true, decide_eq_true_eq] at hh
      refine ⟨by rw [rv.length, cap_eq]; exact hh.1, fun p np => ⟨p, _, rfl, upd_same, fun o => ?_⟩⟩
      rw [frz_new]
      exact Post.okN p1 a1.dr (ExtN.upd np) _ (Rel.newLst np (rv.strong hh.2))
    · rw [if_neg hh] at p1
      exact p1.elim

/-! ### built-ins by values -/
def rC (c : Cn) (g : List D → Option D) : List V → Hp → VK → Prop := fun vs H Q => ∃ G ds d, RelA c G H ds vs ∧ g ds = some d ∧ ∀ v H', ExtN H H' → Rel c G H' d v → Q v H'
def callF (g : List D → Option D) (f : RX (List D)) : RX D := fun ρ δ => (f ρ δ).bind fun ds δ1 => ofO (g ds) δ1
theorem tA.call {g : List D → Option D} {f : RX (List D)} {σ : L2.St} {H : Hp} {Q : VK} (h : tD c W (callF g f) σ H Q) : tCB (rC c g) (tA c W f) σ H Q := by
  refine tG.first (f := f) (k := fun ds ρ δ1 => ofO (g ds) δ1) h fun ρ ds δ1 G1 H1 a1 p1 vs rv => ?_
  obtain ⟨d, e, p⟩ := Post.ofO p1
  exact ⟨G1, ds, d, rv, e, fun z H' xn rz => Post.okN p a1.dr xn z rz⟩
theorem _root_.L2.CallR.imp {f : Value} {r r' : List V → Hp → VK → Prop} (h : CallR X f r) (i : ∀ xs H Q, r' xs H Q → r xs H Q) : CallR X f r' := fun pins s σ H xs us Q I h1 hq => h pins s σ H xs us Q I h1 (i _ _ _ hq)
theorem _root_.L2.CallR.frz {f : Value} {r : List V → Hp → VK → Prop} (h : CallR X f r) : CallR X f (fun xs H Q => r xs H fun v H1 => ∃ a xs, v = .ref a ∧ H1 a = some (.lst xs) ∧ ∀ o, Q v (upd H1 a (.frz o (.lst xs)))) := by
  intro pins s σ H xs us Q I h1 hq
  refine thn (h pins s σ H xs us _ I h1 hq) fun u s1 ⟨v, H1, I1, r, a, xs, e, h1, q⟩ => ?_
  obtain ⟨o, I2⟩ := I1.freeze h1
  exact ⟨v, _, I2, r, q o⟩
theorem RelA.one {G : List Addr} {H : Hp} {d : D} {vs : List V} (r : RelA c G H [d] vs) : ∃ v, vs = [v] ∧ Rel c G H d v := by
  simp only [RelA] at r
  obtain ⟨v, r, rfl, h, rfl⟩ := r
  exact ⟨v, rfl, h⟩
theorem RelA.two {G : List Addr} {H : Hp} {d e : D} {vs : List V} (r : RelA c G H [d, e] vs) : ∃ v w, vs = [v, w] ∧ Rel c G H d v ∧ Rel c G H e w := by
  simp only [RelA] at r
  obtain ⟨v, r, rfl, h, w, r', rfl, h', rfl⟩ := r
  exact ⟨v, w, rfl, h, h'⟩

def dLen : List D → Option D
  | [.str x] => if x.length ≤ cap then some (.int x.length) else none
  | [d] => (seqC d).map fun xs => .int xs.length
  | _ => none
theorem call_lenD (hc : X.K = c.K) : CallR X (.builtin "len") (rC c dLen) :=
  (call_len_seq.or call_len_str).imp fun vs H Q ⟨G, ds, d, r, e, q⟩ => by
    unfold dLen at e
    split at e
    · split at e
      · rename_i hz
        cases e
        obtain ⟨v, rfl, rv⟩ := r.one
        simp only [Rel] at rv
        subst rv
        exact .inr ⟨_, rfl, by rw [cap_eq]; exact hz, q _ _ ExtN.refl (by simp only [Rel])⟩
      · cases e
    · rename_i d1 _
      cases hs : seqC d1 with
      | none => rw [hs] at e; cases e
      | some xs =>
        rw [hs] at e
        cases e
        obtain ⟨v, rfl, rv⟩ := r.one
        obtain ⟨a, ws, rfl, hp, ra⟩ := rv.seqC hs
        refine .inl ⟨a, ws, rfl, by rw [hc]; exact hp, q _ _ ExtN.refl ?_⟩
        rw [ra.length]
        simp only [Rel]
    · cases e
def dAbs : List D → Option D
  | [.int i] => some (.int (if i < 0 then -i else i))
  | _ => none
theorem call_absD : CallR X (.builtin "abs") (rC c dAbs) :=
  call_abs.imp fun vs H Q ⟨G, ds, d, r, e, q⟩ => by
    unfold dAbs at e
    split at e
    · cases e
      obtain ⟨v, rfl, rv⟩ := r.one
      exact ⟨_, by rw [rv.int], q _ _ ExtN.refl (by simp only [Rel])⟩
    · cases e
def dInt : List D → Option D
  | [.int i] => some (.int i)
  | [.bl k] => some (.int (if k then 1 else 0))
  | _ => none
theorem call_intD : CallR X (.type "int") (rC c dInt) :=
  call_int1.imp fun vs H Q ⟨G, ds, d, r, e, q⟩ => by
    unfold dInt at e
    split at e
    · cases e
      obtain ⟨v, rfl, rv⟩ := r.one
      exact .inl ⟨_, by rw [rv.int], q _ _ ExtN.refl (by simp only [Rel])⟩
    · cases e
      obtain ⟨v, rfl, rv⟩ := r.one
      simp only [Rel] at rv
      subst rv
      exact .inr ⟨_, rfl, q _ _ ExtN.refl (by simp only [Rel])⟩
    · cases e
/-- items that are all truths, all numbers -/
def blsD : List D → Option (List Bool)
  | [] => some []
  | .bl b :: r => (blsD r).map (b :: ·)
  | _ :: _ => none
def intsD : List D → Option (List Int)
  | [] => some []
  | .int b :: r => (intsD r).map (b :: ·)
  | _ :: _ => none
theorem RelL.bls {G : List Addr} {H : Hp} : ∀ {ds : List D} {vs : List V} {bs : List Bool}, blsD ds = some bs → RelL c G H ds vs → vs = bs.map V.bl
  | [], vs, bs, e, r => by simp only [blsD, Option.some.injEq] at e; subst e; simpa only [RelL, List.map_nil] using r
  | d :: ds, vs, bs, e, r => by
    simp only [RelL] at r
    obtain ⟨v, r', rfl, _, h1, h2⟩ := r
    cases d <;> simp only [blsD, reduceCtorEq] at e
    cases e2 : blsD ds with
    | none => rw [e2] at e; cases e
    | some l =>
      rw [e2] at e
      cases e
      simp only [Rel] at h1
      rw [h1, RelL.bls e2 h2]
      rfl
theorem RelL.ints {G : List Addr} {H : Hp} : ∀ {ds : List D} {vs : List V} {bs : List Int}, intsD ds = some bs → RelL c G H ds vs → vs = bs.map V.int
  | [], vs, bs, e, r => by simp only [intsD, Option.some.injEq] at e; subst e; simpa only [RelL, List.map_nil] using r
  | d :: ds, vs, bs, e, r => by
    simp only [RelL] at r
    obtain ⟨v, r', rfl, _, h1, h2⟩ := r
    cases d <;> simp only [intsD, reduceCtorEq] at e
    cases e2 : intsD ds with
    | none => rw [e2] at e; cases e
    | some l =>
      rw [e2] at e
      cases e
      simp only [Rel] at h1
      rw [h1, RelL.ints e2 h2]
      rfl
theorem ints_rel {G : List Addr} {H : Hp} : ∀ (ns : List Int), RelL c G H (ns.map D.int) (ns.map V.int)
  | [] => by simp [RelL]
  | n :: ns => by
    simp only [List.map_cons, RelL]
    exact ⟨_, _, rfl, rfl, by simp only [Rel], ints_rel ns⟩
/-- one list argument, by its items -/
def lst1 (g : List D → Option D) : List D → Option D
  | [d] => (listD d).bind g
  | _ => none
theorem lst1_some {g : List D → Option D} {ds : List D} {d : D} (h : lst1 g ds = some d) : ∃ x xs, ds = [x] ∧ listD x = some xs ∧ g xs = some d := by
  unfold lst1 at h
  split at h
  · rename_i x
    cases e : listD x with
    | none => rw [e] at h; cases h
    | some xs => rw [e] at h; exact ⟨x, xs, rfl, e, h⟩
  · cases h
def dAll : List D → Option D := lst1 fun xs => (blsD xs).map fun bs => .bl (bs.all id)
def dAny : List D → Option D := lst1 fun xs => (blsD xs).map fun bs => .bl (bs.any id)
def dSum : List D → Option D := lst1 fun xs => (intsD xs).map fun ns => .int ns.sum
theorem call_allD (hm : X.calm = true) : CallR X (.builtin "all") (rC c dAll) :=
  (cr_all hm).imp fun vs H Q ⟨G, ds, d, r, e, q⟩ => by
    obtain ⟨x, xs, rfl, hl, e⟩ := lst1_some e
    obtain ⟨v, rfl, rv⟩ := r.one
    obtain ⟨a, ws, rfl, hp, ra⟩ := rv.list hl
    cases e2 : blsD xs with
    | none => rw [e2] at e; cases e
    | some bs =>
      rw [e2] at e
      cases e
      exact ⟨a, bs, rfl, by rw [← ra.bls e2]; exact .inl hp, q _ _ ExtN.refl (by simp only [Rel])⟩
theorem call_anyD (hm : X.calm = true) : CallR X (.builtin "any") (rC c dAny) :=
  (cr_any hm).imp fun vs H Q ⟨G, ds, d, r, e, q⟩ => by
    obtain ⟨x, xs, rfl, hl, e⟩ := lst1_some e
    obtain ⟨v, rfl, rv⟩ := r.one
    obtain ⟨a, ws, rfl, hp, ra⟩ := rv.list hl
    cases e2 : blsD xs with
    | none => rw [e2] at e; cases e
    | some bs =>
      rw [e2] at e
      cases e
      exact ⟨a, bs, rfl, by rw [← ra.bls e2]; exact .inl hp, q _ _ ExtN.refl (by simp only [Rel])⟩
theorem call_sumD (hm : X.calm = true) : CallR X (.builtin "sum") (rC c dSum) :=
  (cr_sum hm).imp fun vs H Q ⟨G, ds, d, r, e, q⟩ => by
    obtain ⟨x, xs, rfl, hl, e⟩ := lst1_some e
    obtain ⟨v, rfl, rv⟩ := r.one
    obtain ⟨a, ws, rfl, hp, ra⟩ := rv.list hl
    cases e2 : intsD xs with
    | none => rw [e2] at e; cases e
    | some bs =>
      rw [e2] at e
      cases e
      exact ⟨a, bs, rfl, by rw [← ra.ints e2]; exact .inl hp, q _ _ ExtN.refl (by simp only [Rel])⟩
def dTuple : List D → Option D
  | [d] => (seqD d).map .tup
  | _ => none
theorem call_tupleD (hc : X.K = c.K) : CallR X (.type "tuple") (rC c dTuple) :=
  call_tuple_of.imp fun vs H Q ⟨G, ds, d, r, e, q⟩ => by
    unfold dTuple at e
    split at e
    · rename_i d1
      obtain ⟨v, rfl, rv⟩ := r.one
      cases hl : listD d1 with
      | some xs =>
        have hs : seqD d1 = some xs := by cases d1 <;> simp_all [listD, seqD]
        rw [hs] at e
        cases e
        obtain ⟨a, ws, rfl, hp, ra⟩ := rv.list hl
        exact ⟨a, ws, rfl, .inl ⟨.inl hp, fun l nl => q _ _ (ExtN.upd nl) (Rel.newTup nl ra)⟩⟩
      | none =>
        cases d1 <;> simp only [listD, seqD, Option.map_some, Option.map_none, Option.some.injEq, reduceCtorEq] at hl e
        subst e
        have rv' := rv
        obtain ⟨a, ws, rfl, hp, ra⟩ := rv.tup
        exact ⟨a, ws, rfl, .inr ⟨by rw [hc]; exact hp, q _ _ ExtN.refl rv'⟩⟩
    · cases e
def dList : List D → Option D
  | [d] => (seqD d).map .lst
  | _ => none
theorem call_listD (hc : X.K = c.K) : CallR X (.type "list") (rC c dList) :=
  call_list_of.frz.imp fun vs H Q ⟨G, ds, d, r, e, q⟩ => by
    unfold dList at e
    split at e
    · rename_i d1
      obtain ⟨v, rfl, rv⟩ := r.one
      cases hs : seqD d1 with
      | none => rw [hs] at e; cases e
      | some xs =>
        rw [hs] at e
        cases e
        obtain ⟨a, ws, rfl, hp, ra⟩ := rv.seq hs
        refine ⟨a, ws, rfl, by rw [hc]; exact hp, fun l nl => ⟨l, _, rfl, upd_same, fun o => ?_⟩⟩
        rw [frz_new]
        exact q _ _ (ExtN.upd nl) (Rel.newLst nl ra)
    · cases e
def dGcd : List D → Option D
  | [.int a, .int b] => some (.int ((Nat.gcd a.natAbs b.natAbs : Nat) : Int))
  | _ => none
theorem call_gcdD : CallR X (.builtin "math.gcd") (rC c dGcd) :=
  cr_gcd.imp fun vs H Q ⟨G, ds, d, r, e, q⟩ => by
    unfold dGcd at e
    split at e
    · cases e
      obtain ⟨v, w, rfl, rv, rw'⟩ := r.two
      exact ⟨_, _, by rw [rv.int, rw'.int], q _ _ ExtN.refl (by simp only [Rel])⟩
    · cases e
def dDivmod : List D → Option D
  | [.int a, .int b] => if 0 < b ∧ b < 1073741824 then some (.tup [.int (a / b), .int (a % b)]) else none
  | _ => none
theorem call_divmodD : CallR X (.builtin "divmod") (rC c dDivmod) :=
  call_divmod.imp fun vs H Q ⟨G, ds, d, r, e, q⟩ => by
    unfold dDivmod at e
    split at e
    · split at e
      · rename_i hb
        cases e
        obtain ⟨v, w, rfl, rv, rw'⟩ := r.two
        exact ⟨_, _, by rw [rv.int, rw'.int], hb, fun p np => q _ _ (ExtN.upd np) (Rel.newTup np (by simpa using ints_rel [_, _]))⟩
      · cases e
    · cases e
def best1 (g : Int → Int → Int) : List Int → Option D
  | [] => none
  | i :: is => some (.int (is.foldl g i))
theorem fold_max : ∀ (is : List Int) (i : Int), is.foldl max i ∈ i :: is ∧ ∀ y ∈ i :: is, y ≤ is.foldl max i
  | [], i => by simp
  | j :: is, i => by
    obtain ⟨h1, h2⟩ := fold_max is (max i j)
    rw [List.foldl_cons]
    refine ⟨?_, fun y hy => ?_⟩
    · rcases List.mem_cons.mp h1 with h | h
      · rw [h]
        rcases Int.le_total i j with q | q
        · rw [Int.max_eq_right q]; simp
        · rw [Int.max_eq_left q]; simp
      · exact List.mem_cons_of_mem _ (List.mem_cons_of_mem _ h)
    · have h0 := h2 (max i j) (List.mem_cons_self ..)
      rcases List.mem_cons.mp hy with rfl | hy
      · omega
      · rcases List.mem_cons.mp hy with rfl | hy
        · omega
        · exact h2 y (List.mem_cons_of_mem _ hy)
theorem fold_min : ∀ (is : List Int) (i : Int), is.foldl min i ∈ i :: is ∧ ∀ y ∈ i :: is, is.foldl min i ≤ y
  | [], i => by simp
  | j :: is, i => by
    obtain ⟨h1, h2⟩ := fold_min is (min i j)
    rw [List.foldl_cons]
    refine ⟨?_, fun y hy => ?_⟩
    · rcases List.mem_cons.mp h1 with h | h
      · rw [h]
        rcases Int.le_total i j with q | q
        · rw [Int.min_eq_left q]; simp
        · rw [Int.min_eq_right q]; simp
      · exact List.mem_cons_of_mem _ (List.mem_cons_of_mem _ h)
    · have h0 := h2 (min i j) (List.mem_cons_self ..)
      rcases List.mem_cons.mp hy with rfl | hy
      · omega
      · rcases List.mem_cons.mp hy with rfl | hy
        · omega
        · exact h2 y (List.mem_cons_of_mem _ hy)
def dMax : List D → Option D
  | [.int i, .int j] => some (.int (if j > i then j else i))
  | [d] => (listD d).bind fun xs => (intsD xs).bind (best1 max)
  | _ => none
theorem call_max2D (hm : X.calm = true) : CallR X (.builtin "max") (rC c dMax) :=
  ((call_max2 hm).or (cr_max hm)).imp fun vs H Q ⟨G, ds, d, r, e, q⟩ => by
    unfold dMax at e
    split at e
    · cases e
      obtain ⟨v, w, rfl, rv, rw'⟩ := r.two
      exact .inl ⟨_, _, by rw [rv.int, rw'.int], q _ _ ExtN.refl (by simp only [Rel])⟩
    · rename_i d1
      obtain ⟨v, rfl, rv⟩ := r.one
      cases hl : listD d1 with
      | none => rw [hl] at e; cases e
      | some xs =>
        rw [hl] at e
        cases e2 : intsD xs with
        | none => simp only [Option.bind_some, e2] at e; cases e
        | some ns =>
          simp only [Option.bind_some, e2] at e
          obtain ⟨a, ws, rfl, hp, ra⟩ := rv.list hl
          cases ns with
          | nil => cases e
          | cons i is =>
            cases e
            refine .inr ⟨a, i :: is, rfl, by rw [← ra.ints e2]; exact .inl hp, by simp, fun m h1 h2 => ?_⟩
            have h3 := fold_max is i
            have : m = is.foldl max i := Int.le_antisymm (h3.2 m h1) (h2 _ h3.1)
            subst this
            exact q _ _ ExtN.refl (by simp only [Rel])
    · cases e
def dMin : List D → Option D
  | [.int i, .int j] => some (.int (if j < i then j else i))
  | [d] => (listD d).bind fun xs => (intsD xs).bind (best1 min)
  | _ => none
theorem call_min2D (hm : X.calm = true) : CallR X (.builtin "min") (rC c dMin) :=
  ((call_min2 hm).or (cr_min hm)).imp fun vs H Q ⟨G, ds, d, r, e, q⟩ => by
    unfold dMin at e
    split at e
    · cases e
      obtain ⟨v, w, rfl, rv, rw'⟩ := r.two
      exact .inl ⟨_, _, by rw [rv.int, rw'.int], q _ _ ExtN.refl (by simp only [Rel])⟩
    · rename_i d1
      obtain ⟨v, rfl, rv⟩ := r.one
      cases hl : listD d1 with
      | none => rw [hl] at e; cases e
      | some xs =>
        rw [hl] at e
        cases e2 : intsD xs with
        | none => simp only [Option.bind_some, e2] at e; cases e
        | some ns =>
          simp only [Option.bind_some, e2] at e
          obtain ⟨a, ws, rfl, hp, ra⟩ := rv.list hl
          cases ns with
          | nil => cases e
          | cons i is =>
            cases e
            refine .inr ⟨a, i :: is, rfl, by rw [← ra.ints e2]; exact .inl hp, by simp, fun m h1 h2 => ?_⟩
            have h3 := fold_min is i
            have : m = is.foldl min i := Int.le_antisymm (h2 _ h3.1) (h3.2 m h1)
            subst this
            exact q _ _ ExtN.refl (by simp only [Rel])
    · cases e
/-- isinstance of one built-in class -/
def tyN : D → Option String
  | .non => some "NoneType"
  | .bl _ => some "bool"
  | .int _ => some "int"
  | .str _ => some "str"
  | .tup _ => some "tuple"
  | .lst _ => some "list"
  | .wk _ => some "list"
  | _ => none
def tyKnown (n : String) : Bool := n == "int" || n == "bool" || n == "str" || n == "tuple" || n == "list"
def isiN (t n : String) : Bool := t == n || (t == "bool" && n == "int")
def dIsi : List D → Option D
  | [d, .ty n] => if tyKnown n then (tyN d).map fun t => .bl (isiN t n) else none
  | _ => none
theorem kit_known {K : PySem.W.Frag} {d : D} {t n : String} (h : tyN d = some t) (k : tyKnown n = true) : PySem.W.kitOne K (.type t) (.type n) = some (isiN t n) := by
  have hn : n = "int" ∨ n = "bool" ∨ n = "str" ∨ n = "tuple" ∨ n = "list" := by
    simp only [tyKnown, Bool.or_eq_true, beq_iff_eq] at k
    rcases k with (((k | k) | k) | k) | k <;> simp [k]
  have ht : t = "NoneType" ∨ t = "bool" ∨ t = "int" ∨ t = "str" ∨ t = "tuple" ∨ t = "list" := by
    cases d <;> simp only [tyN, Option.some.injEq, reduceCtorEq] at h <;> subst h <;> simp
  rcases hn with rfl | rfl | rfl | rfl | rfl <;> rcases ht with rfl | rfl | rfl | rfl | rfl | rfl <;> rfl
theorem Rel.tyX {G : List Addr} {H : Hp} {d : D} {v : V} {t : String} (h : tyN d = some t) (r : Rel c G H d v) : TyX c.K H v (.type t) := by
  cases d <;> simp only [tyN, Option.some.injEq, reduceCtorEq] at h <;> subst h
  · simp only [Rel] at r; subst r; exact .base .non
  · simp only [Rel] at r; subst r; exact .base (.bl _)
  · simp only [Rel] at r; subst r; exact .base (.int _)
  · simp only [Rel] at r; subst r; exact .base (.str _)
  · obtain ⟨a, vs, rfl, h1, _⟩ := r.tup
    rcases h1 with (h1 | ⟨o, h1⟩) | ⟨o, its, n, h1, h2, _⟩
    · exact .base (.tup h1)
    · exact .fTuple h1
    · exact .kTuple h1 h2
  · simp only [Rel] at r
    obtain ⟨a, o, vs, rfl, h1, _⟩ := r
    exact .base (.frz h1)
  · simp only [Rel] at r
    obtain ⟨a, vs, rfl, h1, _⟩ := r
    exact .base (.lst h1)
theorem call_isiD (hc : X.K = c.K) : CallR X (.builtin "isinstance") (rC c dIsi) :=
  call_isi.imp fun vs H Q ⟨G, ds, d, r, e, q⟩ => by
    unfold dIsi at e
    split at e
    · rename_i d1 n
      split at e
      · rename_i hk
        cases ht : tyN d1 with
        | none => rw [ht] at e; cases e
        | some t =>
          rw [ht] at e
          cases e
          obtain ⟨v, w, rfl, rv, rw'⟩ := r.two
          simp only [Rel] at rw'
          subst rw'
          exact ⟨v, _, .type t, .type n, isiN t n, rfl, .ty n, by rw [hc]; exact rv.tyX ht, kit_known ht hk, q _ _ ExtN.refl (by simp only [Rel])⟩
      · cases e
    · cases e
end
end Pv
set_option maxRecDepth 100000
set_option maxHeartbeats 1000000
/-! PvE: what is walked, targets, comprehensions -/
namespace Pv
open PySem PySem.Spec PyProof.Rows L2

/-- how heaps may go on between two turns -/
abbrev Per := List Addr → Hp → List Addr → Hp → Prop
structure Yields (R : Per) (c : Cn) (G : List Addr) (H : Hp) (J : It) (ds : List D) : Prop where
  len : ds.length ≤ cap
  str : ds.all D.strong = true
  go : ∀ (i : Nat) (d : D) (G' : List Addr) (H' : Hp), R G H G' H' → ds[i]? = some d → J.go i H' ∧ ∀ x H'', J.yld i H' x H'' → ExtN H' H'' ∧ Rel c G' H'' d x
  stop : ∀ (G' : List Addr) (H' : Hp), R G H G' H' → J.stop ds.length H'
theorem Yields.weak {c : Cn} {G : List Addr} {H : Hp} {J : It} {ds : List D} (y : Yields ExtS c G H J ds) : Yields Ext c G H J ds :=
  ⟨y.len, y.str, fun i d G' H' x => y.go i d G' H' x.toS, fun G' H' x => y.stop G' H' x.toS⟩
def tI (R : Per) (c : Cn) (W : L2.St → WE) (f : RX (List D)) : TI := fun σ H Q => tG c W f σ H fun ds G' H' => ∀ J, Yields R c G' H' J ds → Q J H'

section
variable {X : Cx} {c : Cn} {W : L2.St → WE}
theorem _root_.L2.PI.imp {tg e : Expr} {t t' : TI} (h : PI X tg e t) (i : ∀ σ H Q, t' σ H Q → t σ H Q) : PI X tg e t' := ⟨fun pins s σ H Q I hw => h.run pins s σ H Q I (i _ _ _ hw)⟩
/-- for a loop a walk that lasts, for a comprehension one of a block -/
theorem tI.block {tg e : Expr} {f : RX (List D)} (h : PI X tg e (tI ExtS c W f)) : PI X tg e (tI Ext c W f) :=
  h.imp fun σ H Q ⟨ρ, δ, G, s, d, p⟩ => ⟨ρ, δ, G, s, d, p.mono fun a G' H' _ q J y => q J y.weak⟩

/-! ### lists and tuples -/
theorem RelL.strongAll {G : List Addr} {H : Hp} : ∀ {ds : List D} {vs : List V}, RelL c G H ds vs → ds.all D.strong = true
  | [], _, _ => rfl
  | d :: ds, _, h => by
    simp only [RelL] at h
    obtain ⟨v, r, _, s, _, h2⟩ := h
    simp only [List.all_cons, s, RelL.strongAll h2, Bool.and_self]
theorem yields_list {R : Per} {G : List Addr} {H : Hp} {a : Addr} {vs : List V} {ds : List D} (hl : vs.length ≤ sizeLine) (r : RelL c G H ds vs) (K : PySem.W.Frag) (st : ∀ G' H', R G H G' H' → SqL K H' a vs) (per : ∀ G' H', R G H G' H' → RelL c G' H' ds vs) : Yields R c G H (Itl K a) ds := by
  refine ⟨by rw [← r.length, ← cap_eq]; exact hl, r.strongAll, fun i d G' H' x e => ?_, fun G' H' x => ?_⟩
  · obtain ⟨v, e1, _, rv⟩ := (per _ _ x).get e
    refine ⟨⟨vs, v, st _ _ x, e1⟩, fun y H'' hy => ?_⟩
    obtain ⟨rfl, hy⟩ := hy
    have := hy vs (st _ _ x)
    rw [e1] at this
    cases this
    exact ⟨ExtN.refl, rv⟩
  · exact ⟨vs, st _ _ x, by rw [r.length]; exact Nat.le_refl _⟩
theorem yields_tup {R : Per} {G : List Addr} {H : Hp} {a : Addr} {vs : List V} {ds : List D} (hl : vs.length ≤ sizeLine) (r : RelL c G H ds vs) (K : PySem.W.Frag) (st : ∀ G' H', R G H G' H' → SqT K H' a vs) (per : ∀ G' H', R G H G' H' → RelL c G' H' ds vs) : Yields R c G H (Itt K a) ds := by
  refine ⟨by rw [← r.length, ← cap_eq]; exact hl, r.strongAll, fun i d G' H' x e => ?_, fun G' H' x => ?_⟩
  · obtain ⟨v, e1, _, rv⟩ := (per _ _ x).get e
    refine ⟨⟨vs, v, st _ _ x, e1⟩, fun y H'' hy => ?_⟩
    obtain ⟨rfl, hy⟩ := hy
    have := hy vs (st _ _ x)
    rw [e1] at this
    cases this
    exact ⟨ExtN.refl, rv⟩
  · exact ⟨vs, st _ _ x, by rw [r.length]; exact Nat.le_refl _⟩
def seqS : D → Option (List D)
  | .lst xs => some xs
  | .tup xs => some xs
  | _ => none
def itF (g : D → Option (List D)) (f : RX D) : RX (List D) := fun ρ δ => (f ρ δ).bind fun d δ1 => ofO (g d) δ1
theorem tI.start {R : Per} {g : D → Option (List D)} {f : RX D} {σ : L2.St} {H : Hp} {Q : It → Hp → Prop} (h : tI R c W (itF g f) σ H Q) :
    tD c W f σ H fun x H1 => ∃ G d ds, Rel c G H1 d x ∧ g d = some ds ∧ ∀ J, Yields R c G H1 J ds → Q J H1 := by
  refine tG.first (f := f) (k := fun d ρ δ1 => ofO (g d) δ1) h fun ρ d δ1 G1 H1 a1 p1 v rv => ?_
  obtain ⟨ds, e, p⟩ := Post.ofO p1
  exact ⟨G1, d, ds, rv, e, fun J y => Post.okIn p a1.dr J y⟩
/-- a list or a tuple is walked -/
theorem pi_seq {R : Per} {tg l : Expr} {f : RX D} {g : D → Option (List D)} (hc : X.K = c.K) (hl : PE X l (tD c W f)) (hg : ∀ d ds, g d = some ds → seqD d = some ds)
    (hR : ∀ d ds G H G' H' v, g d = some ds → R G H G' H' → Rel c G H d v → Rel c G' H' d v) (hR1 : ∀ d ds a vs G H G' H', listD d = some ds → g d = some ds → R G H G' H' → Rel c G H d (.ref a) → Rd H a (.lst vs) → Rd H' a (.lst vs)) (hR2 : ∀ a vs G H G' H', R G H G' H' → SqT c.K H a vs → SqT c.K H' a vs)
    (hR3 : ∀ d ds vs G H G' H', g d = some ds → R G H G' H' → RelL c G H ds vs → RelL c G' H' ds vs) : PI X tg l (tI R c W (itF g f)) := by
  refine ⟨fun pins s σ H Q I h => ?_⟩
  refine thn (hl.run pins s σ H _ I (tI.start h)) fun v s1 ⟨x, H1, I1, r1, G, d, ds, rx, e, q⟩ => ?_
  have per : ∀ G' H', R G H1 G' H' → Rel c G' H' d x := fun G' H' y => hR d ds _ _ _ _ _ e y rx
  have fresh : H1 s1.heap.objs.size = none := I1.hok.fresh (Nat.le_refl _)
  have fp : ∀ b ∈ [s1.heap.objs.size], FpOk X pins H1 b := fun b hb => by
    have e : b = s1.heap.objs.size := by simpa using hb
    subst e
    exact I1.fpOk (Nat.le_refl _) (I1.hok.fresh (Nat.le_refl _))
  cases hls : listD d with
  | some ys =>
    have hy : ys = ds := by
      have := hg d ds e
      cases d <;> simp_all [listD, seqD]
    subst hy
    have rx0 := rx
    obtain ⟨a, vs, rfl, hp, ra⟩ := rx.list hls
    cases r1
    obtain ⟨its, rv, p, hz⟩ := I1.list (show SqL X.K H1 a vs from .inl hp)
    refine wpAny_pyIter_list p.isList ?_
    refine ⟨s1.heap.objs.size, [s1.heap.objs.size], _, _, H1, rfl, I1.kept (t' := s1.toks) fun b o e => Heap.get?_push_of_some _ e, turn_list a _, ⟨_, Heap.get?_push_size _ rfl, rfl, rfl⟩, fp, q _ (yields_list hz ra X.K (fun G' H' y => ?_) (fun G' H' y => ?_))⟩
    · exact .inl (hR1 _ _ _ _ _ _ _ _ hls e y rx0 hp)
    · exact hR3 _ _ _ _ _ _ _ e y ra
  | none =>
    have hd : d = .tup ds := by
      have := hg d ds e
      cases d <;> simp_all [listD, seqD]
    subst hd
    obtain ⟨a, vs, rfl, hp, ra⟩ := rx.tup
    cases r1
    obtain ⟨its, rv, p, hz⟩ := I1.tuple (show SqT X.K H1 a vs by rw [hc]; exact hp)
    refine wpAny_pyIter_tuple (show s1.heap.IsTuple a its.toArray from p) ?_
    refine ⟨s1.heap.objs.size, [s1.heap.objs.size], _, _, H1, rfl, I1.kept (t' := s1.toks) fun b o e => Heap.get?_push_of_some _ e, turn_tuple a _, ⟨_, Heap.get?_push_size _ rfl, rfl, rfl⟩, fp, q _ (yields_tup hz ra X.K (fun G' H' y => ?_) (fun G' H' y => ?_))⟩
    · rw [hc]; exact hR2 _ _ _ _ _ _ y hp
    · exact hR3 _ _ _ _ _ _ _ e y ra
theorem rd_ext {d : D} {ds : List D} {a : Addr} {vs : List V} {G G' : List Addr} {H H' : Hp} (e : listD d = some ds) (x : Ext G H G' H') (r : Rel c G H d (.ref a)) (hp : Rd H a (.lst vs)) : Rd H' a (.lst vs) := by
  rcases hp with h | ⟨o, h⟩
  · cases d <;> simp only [listD, reduceCtorEq] at e
    · simp only [Rel] at r
      obtain ⟨a', o, vs', e1, h1, _⟩ := r
      cases e1
      rw [h] at h1; cases h1
    · simp only [Rel] at r
      obtain ⟨a', vs', e1, h1, h2, _⟩ := r
      cases e1
      exact .inl (x.keep _ _ h h2)
  · exact .inr ⟨o, x.fix _ _ h trivial⟩
/-- in a comprehension: own lists too -/
theorem pi_itE {tg l : Expr} {f : RX D} (hc : X.K = c.K) (hl : PE X l (tD c W f)) : PI X tg l (tI Ext c W (itF seqD f)) :=
  pi_seq hc hl (fun _ _ h => h) (fun d ds G H G' H' v _ x r => r.ext x) (fun d ds a vs G H G' H' hl _ x r hp => rd_ext hl x r hp) (fun a vs G H G' H' x h => SqT.extS h x.toS) fun d ds vs G H G' H' _ x r => RelL.extS x.toS r
/-- in a loop: what is fixed -/
theorem pi_itS {tg l : Expr} {f : RX D} (hc : X.K = c.K) (hl : PE X l (tD c W f)) : PI X tg l (tI ExtS c W (itF seqS f)) := by
  refine pi_seq hc hl (fun d ds h => by cases d <;> simp_all [seqS, seqD]) (fun d ds G H G' H' v e x r => Rel.extS x (by cases d <;> simp_all [seqS, D.strong]) r) (fun d ds a vs G H G' H' hl e x r hp => ?_) (fun a vs G H G' H' x h => SqT.extS h x) fun d ds vs G H G' H' _ x r => RelL.extS x r
  rcases hp with h | ⟨o, h⟩
  · cases d <;> simp only [seqS, listD, reduceCtorEq] at e hl
    simp only [Rel] at r
    obtain ⟨a', o, vs', e1, h1, _⟩ := r
    cases e1
    rw [h] at h1; cases h1
  · exact .inr ⟨o, x.fix _ _ h trivial⟩

/-! ### range -/
def rngL (lo : Int) (n : Nat) : List D := (List.range n).map fun i => .int (lo + (i : Nat))
theorem rngL_get {lo : Int} {n i : Nat} {d : D} (h : (rngL lo n)[i]? = some d) : i < n ∧ d = .int (lo + (i : Nat)) := by
  unfold rngL at h
  rw [List.getElem?_map] at h
  cases e : (List.range n)[i]? with
  | none => rw [e] at h; cases h
  | some j =>
    rw [e] at h
    obtain ⟨hi, hj⟩ := List.getElem?_eq_some_iff.mp e
    rw [List.length_range] at hi
    rw [List.getElem_range] at hj
    subst hj
    exact ⟨hi, (Option.some.inj h).symm⟩
theorem yields_rng {R : Per} {G : List Addr} {H : Hp} {lo : Int} {n : Nat} (hn : n ≤ cap) : Yields R c G H (Itr lo n) (rngL lo n) := by
  refine ⟨by simpa [rngL] using hn, ?_, fun i d G' H' x e => ?_, fun G' H' x => ?_⟩
  · simp [rngL, D.strong]
  · obtain ⟨hi, rfl⟩ := rngL_get e
    refine ⟨hi, fun y H'' hy => ?_⟩
    obtain ⟨rfl, rfl⟩ := hy
    exact ⟨ExtN.refl, by simp only [Rel]⟩
  · show n ≤ (rngL lo n).length
    simp [rngL]
def inRng (i : Int) : Bool := decide (-(2 ^ 62) ≤ i) && decide (i < 2 ^ 62)
def rng1 : List D → Option (List D)
  | [.int j] => if inRng j && decide (j.toNat ≤ cap) then some (rngL 0 j.toNat) else none
  | _ => none
def rng2 : List D → Option (List D)
  | [.int i, .int j] => if inRng i && inRng j && decide ((j - i).toNat ≤ cap) then some (rngL i (j - i).toNat) else none
  | _ => none
def itA (g : List D → Option (List D)) (f : RX (List D)) : RX (List D) := fun ρ δ => (f ρ δ).bind fun ds δ1 => ofO (g ds) δ1
theorem tI.startA {R : Per} {g : List D → Option (List D)} {f : RX (List D)} {σ : L2.St} {H : Hp} {Q : It → Hp → Prop} (h : tI R c W (itA g f) σ H Q) :
    tA c W f σ H fun vs H1 => ∃ G as ds, RelA c G H1 as vs ∧ g as = some ds ∧ ∀ J, Yields R c G H1 J ds → Q J H1 := by
  refine tG.first (f := f) (k := fun d ρ δ1 => ofO (g d) δ1) h fun ρ d δ1 G1 H1 a1 p1 v rv => ?_
  obtain ⟨ds, e, p⟩ := Post.ofO p1
  exact ⟨G1, d, ds, rv, e, fun J y => Post.okIn p a1.dr J y⟩
theorem pi_rng1D {R : Per} {tg a : Expr} {p pos : Pos} {f : RX (List D)} (hg : Gl X "range") (hm : X.mg "range" = none) (ha : PA X [a] (tA c W f)) (hs : starEach [a] X.env = [(false, eval a X.env)]) : PI X tg (.Call (.Name "range" p) [a] [] pos) (tI R c W (itA rng1 f)) :=
  (pi_range1 hg hm ha hs).imp fun σ H Q h => by
    refine tA.mono (tI.startA h) fun vs H1 ⟨G, as, ds, r, e, q⟩ => ?_
    unfold rng1 at e
    split at e
    · split at e
      · rename_i j hj
        simp only [inRng, Bool.and_eq_true, decide_eq_true_eq] at hj
        cases e
        obtain ⟨v, rfl, rv⟩ := r.one
        exact ⟨j, by rw [rv.int], hj.1.1, hj.1.2, q _ (yields_rng hj.2)⟩
      · cases e
    · cases e
theorem pi_rng2D {R : Per} {tg a b : Expr} {p pos : Pos} {f : RX (List D)} (hg : Gl X "range") (hm : X.mg "range" = none) (ha : PA X [a, b] (tA c W f)) (hs : starEach [a, b] X.env = [(false, eval a X.env), (false, eval b X.env)]) (hs2 : starEach [b] X.env = [(false, eval b X.env)]) :
    PI X tg (.Call (.Name "range" p) [a, b] [] pos) (tI R c W (itA rng2 f)) :=
  (pi_range2 hg hm ha hs hs2).imp fun σ H Q h => by
    refine tA.mono (tI.startA h) fun vs H1 ⟨G, as, ds, r, e, q⟩ => ?_
    unfold rng2 at e
    split at e
    · split at e
      · rename_i i j hj
        simp only [inRng, Bool.and_eq_true, decide_eq_true_eq] at hj
        cases e
        obtain ⟨v, w, rfl, rv, rw'⟩ := r.two
        exact ⟨i, j, by rw [rv.int, rw'.int], ⟨hj.1.1.1, hj.1.1.2, hj.1.2.1, hj.1.2.2⟩, q _ (yields_rng hj.2)⟩
      · cases e
    · cases e

/-! ### targets -/
inductive Pat where
  | nm (i : Nat)
  | tp (is : List Nat)
def bindL : List Nat → List D → List Sl → Option (List Sl)
  | [], [], ρ => some ρ
  | i :: is, d :: ds, ρ => if d.strong && decide (i < ρ.length) then bindL is ds (ρ.set i (.v d)) else none
  | _, _, _ => none
def bindP : Pat → D → List Sl → Option (List Sl)
  | .nm i, d, ρ => if d.strong && decide (i < ρ.length) then some (ρ.set i (.v d)) else none
  | .tp is, .tup ds, ρ => bindL is ds ρ
  | _, _, _ => none
def Pat.slots : Pat → List Nat
  | .nm i => [i]
  | .tp is => is
theorem SR.set {G : List Addr} {H : Hp} {σ : L2.St} {ρ : List Sl} (s : SR c G H σ ρ) {i : Nat} {d : D} {v : V} (hi : i < ρ.length) (st : d.strong = true) (r : Rel c G H d v) : SR c G H (σ.set i (some v)) (ρ.set i (.v d)) := by
  refine ⟨by rw [List.length_set, List.length_set, s.len], fun j l h => ?_, fun j k l l' a h1 o1 h2 o2 e1 e2 => ?_⟩
  · by_cases hj : i = j
    · subst hj
      rw [List.getElem?_set_self hi] at h
      cases h
      exact ⟨st, v, by rw [List.getElem?_set_self (by rw [s.len]; exact hi)], r⟩
    · rw [List.getElem?_set_ne hj] at h
      have q := s.sl j l h
      cases l with
      | no => trivial
      | v d' => obtain ⟨a, b, e, z⟩ := q; exact ⟨a, b, by rw [List.getElem?_set_ne hj]; exact e, z⟩
      | own xs => obtain ⟨a, b, e, z⟩ := q; exact ⟨a, b, by rw [List.getElem?_set_ne hj]; exact e, z⟩
      | ownd t ks vs => obtain ⟨a, u, ws, e, z⟩ := q; exact ⟨a, u, ws, by rw [List.getElem?_set_ne hj]; exact e, z⟩
  · have n1 : i ≠ j := by
      intro z; subst z
      rw [List.getElem?_set_self hi] at h1; cases h1; cases o1
    have n2 : i ≠ k := by
      intro z; subst z
      rw [List.getElem?_set_self hi] at h2; cases h2; cases o2
    rw [List.getElem?_set_ne n1] at h1 e1
    rw [List.getElem?_set_ne n2] at h2 e2
    exact s.sep j k l l' a h1 o1 h2 o2 e1 e2
theorem bindL_sr {G : List Addr} {H : Hp} : ∀ {is : List Nat} {ds : List D} {vs : List V} {σ : L2.St} {ρ ρ' : List Sl}, SR c G H σ ρ → RelL c G H ds vs → bindL is ds ρ = some ρ' →
    vs.length = is.length ∧ ∃ σ', SR c G H σ' ρ' ∧ σ' = (is.zip vs).foldl (fun s p => s.set p.1 (some p.2)) σ
  | [], [], vs, σ, ρ, ρ', s, r, e => by
    simp only [bindL, Option.some.injEq] at e
    simp only [RelL] at r
    subst e r
    exact ⟨rfl, σ, s, rfl⟩
  | i :: is, d :: ds, vs, σ, ρ, ρ', s, r, e => by
    simp only [bindL] at e
    split at e
    · rename_i h
      simp only [Bool.and_eq_true, decide_eq_true_eq] at h
      simp only [RelL] at r
      obtain ⟨v, r', rfl, _, h1, h2⟩ := r
      obtain ⟨hl, σ', h3, h4⟩ := bindL_sr (s.set h.2 h.1 h1) h2 e
      exact ⟨by simp [hl], σ', h3, by simpa using h4⟩
    · cases e
  | [], _ :: _, _, _, _, _, _, _, e => by simp [bindL] at e
  | _ :: _, [], _, _, _, _, _, _, e => by simp [bindL] at e
/-- the target's reading -/
def tP (c : Cn) (p : Pat) : TG := fun v σ H Q => ∃ G ρ d ρ', SR c G H σ ρ ∧ Rel c G H d v ∧ bindP p d ρ = some ρ' ∧ ∀ σ', SR c G H σ' ρ' → (∀ j, j ∉ p.slots → σ'[j]? = σ[j]?) → σ'.length = σ.length → Q σ' H
theorem _root_.L2.PG.imp {e : Expr} {t t' : TG} (h : PG X e t) (i : ∀ v σ H Q, t' v σ H Q → t v σ H Q) : PG X e t' := ⟨fun pins s σ H v u Q I r hw => h.run pins s σ H v u Q I r (i _ _ _ _ hw)⟩
theorem pg_nmD {i : Nat} {e : Expr} (h : PG X e (gName i)) : PG X e (tP c (.nm i)) :=
  h.imp fun v σ H Q ⟨G, ρ, d, ρ', s, r, e, q⟩ => by
    simp only [bindP] at e
    split at e
    · rename_i hh
      simp only [Bool.and_eq_true, decide_eq_true_eq] at hh
      cases e
      exact q _ (s.set hh.2 hh.1 r) (fun j hj => by
        rw [List.getElem?_set_ne]
        intro z
        exact hj (by simp [Pat.slots, z])) (by simp)
    · cases e
def gNames : List Nat → TGs
  | [] => gNil
  | i :: is => gCons (gName i) (gNames is)
theorem gNames_run : ∀ {is : List Nat} {vs : List V} {σ : L2.St} {H : Hp} {Q : L2.St → Hp → Prop}, vs.length = is.length → Q ((is.zip vs).foldl (fun s p => s.set p.1 (some p.2)) σ) H → gNames is vs σ H Q
  | [], [], σ, H, Q, _, q => ⟨rfl, q⟩
  | i :: is, v :: vs, σ, H, Q, hl, q => ⟨v, vs, rfl, gNames_run (by simpa using hl) (by simpa using q)⟩
  | [], _ :: _, _, _, _, hl, _ => by simp at hl
  | _ :: _, [], _, _, _, hl, _ => by simp at hl
theorem foldl_out {j : Nat} : ∀ {is : List Nat} {vs : List V} {σ : L2.St}, j ∉ is → ((is.zip vs).foldl (fun s p => s.set p.1 (some p.2)) σ)[j]? = σ[j]?
  | [], _, _, _ => rfl
  | i :: is, [], _, _ => rfl
  | i :: is, v :: vs, σ, h => by
    simp only [List.zip_cons_cons, List.foldl_cons]
    rw [foldl_out (fun z => h (List.mem_cons_of_mem _ z)), List.getElem?_set_ne]
    intro z
    exact h (by simp [z])
theorem foldl_len : ∀ {is : List Nat} {vs : List V} {σ : L2.St}, ((is.zip vs).foldl (fun s p => s.set p.1 (some p.2)) σ).length = σ.length
  | [], _, _ => rfl
  | i :: is, [], _ => rfl
  | i :: is, v :: vs, σ => by
    simp only [List.zip_cons_cons, List.foldl_cons]
    rw [foldl_len, List.length_set]
theorem pg_tpD {is : List Nat} {e : Expr} (hc : X.K = c.K) (h : PG X e (gTup X.K is.length (gNames is))) : PG X e (tP c (.tp is)) :=
  h.imp fun v σ H Q ⟨G, ρ, d, ρ', s, r, e, q⟩ => by
    cases d <;> simp only [bindP, reduceCtorEq] at e
    obtain ⟨a, vs, rfl, h1, h2⟩ := r.tup
    obtain ⟨hl, σ', h3, rfl⟩ := bindL_sr s h2 e
    exact ⟨a, vs, rfl, by rw [hc]; exact h1, hl, gNames_run hl (q _ h3 (fun j hj => foldl_out hj) foldl_len)⟩
end
end Pv
set_option maxRecDepth 100000
set_option maxHeartbeats 1000000
/-! PvF: comprehensions -/
namespace Pv
open PySem PySem.Spec PyProof.Rows L2

def wipeR (ρ : List Sl) : List Nat → List Sl
  | [] => ρ
  | v :: vs => (wipeR ρ vs).set v .no
def Res.noer {α : Type} : Res α → Res α
  | .ok a δ => .ok a δ
  | _ => .no
@[simp] theorem Res.noer_ok {α : Type} (a : α) (δ : List Bx) : (Res.ok a δ).noer = .ok a δ := (rfl)
/-- one turn of a comprehension -/
def cstep (p : Pat) (vs : List Nat) (ft : RX Bool) (fe : RX D) (ρ : List Sl) (d : D) (δ : List Bx) : Res (Option D) :=
  match bindP p d (wipeR ρ vs) with
  | none => .no
  | some ρ2 => ((ft ρ2 δ).bind fun b δ1 => if b then (fe ρ2 δ1).bind fun y δ2 => if y.strong then .ok (some y) δ2 else .no else .ok none δ1).noer
def cloop (st : D → List Bx → Res (Option D)) : List D → List Bx → Res (List D)
  | [], δ => .ok [] δ
  | d :: ds, δ => (st d δ).bind fun o δ1 => (cloop st ds δ1).bind fun r δ2 => .ok (o.toList ++ r) δ2
def lcF (fi : RX (List D)) (p : Pat) (vs : List Nat) (ft : RX Bool) (fe : RX D) : RX D := fun ρ δ =>
  (fi ρ δ).bind fun ds δ1 => (cloop (cstep p vs ft fe ρ) ds δ1).bind fun rs δ2 => .ok (.lst rs) δ2
/-- no exceptions -/
def W0 : L2.St → WE := fun _ _ _ _ _ => False

section
variable {X : Cx} {c : Cn} {W : L2.St → WE}
theorem SR.no {G : List Addr} {H : Hp} {σ : L2.St} {ρ : List Sl} (s : SR c G H σ ρ) (i : Nat) : SR c G H (σ.set i none) (ρ.set i .no) := by
  by_cases hi : i < ρ.length
  · refine ⟨by rw [List.length_set, List.length_set, s.len], fun j l h => ?_, fun j k l l' a h1 o1 h2 o2 e1 e2 => ?_⟩
    · by_cases hj : i = j
      · subst hj
        rw [List.getElem?_set_self hi] at h
        cases h
        trivial
      · rw [List.getElem?_set_ne hj] at h
        have q := s.sl j l h
        cases l with
        | no => trivial
        | v d' => obtain ⟨a, b, e, z⟩ := q; exact ⟨a, b, by rw [List.getElem?_set_ne hj]; exact e, z⟩
        | own xs => obtain ⟨a, b, e, z⟩ := q; exact ⟨a, b, by rw [List.getElem?_set_ne hj]; exact e, z⟩
        | ownd t ks vs => obtain ⟨a, u, ws, e, z⟩ := q; exact ⟨a, u, ws, by rw [List.getElem?_set_ne hj]; exact e, z⟩
    · have n1 : i ≠ j := by
        intro z; subst z
        rw [List.getElem?_set_self hi] at h1; cases h1; cases o1
      have n2 : i ≠ k := by
        intro z; subst z
        rw [List.getElem?_set_self hi] at h2; cases h2; cases o2
      rw [List.getElem?_set_ne n1] at h1 e1
      rw [List.getElem?_set_ne n2] at h2 e2
      exact s.sep j k l l' a h1 o1 h2 o2 e1 e2
  · rw [List.set_eq_of_length_le (l := ρ) (by omega), List.set_eq_of_length_le (l := σ) (by rw [s.len]; omega)]
    exact s
theorem SR.wipe {G : List Addr} {H : Hp} {σ : L2.St} {ρ : List Sl} (s : SR c G H σ ρ) : ∀ vs : List Nat, SR c G H (L2.wipe σ vs) (wipeR ρ vs)
  | [] => s
  | v :: vs => (s.wipe vs).no v
theorem wipe_same {σ σ' : L2.St} : ∀ {vs : List Nat}, (∀ j, j ∉ vs → σ'[j]? = σ[j]?) → σ'.length = σ.length → L2.wipe σ' vs = L2.wipe σ vs := by
  have key : ∀ (vs : List Nat) (τ : L2.St) (j : Nat), (L2.wipe τ vs)[j]? = if j ∈ vs ∧ j < τ.length then some none else τ[j]? := by
    intro vs τ
    induction vs with
    | nil => intro j; simp [L2.wipe]
    | cons v vs ih =>
      intro j
      unfold L2.wipe
      by_cases hj : v = j
      · subst hj
        by_cases hl : v < τ.length
        · rw [List.getElem?_set_self (by rw [wipe_length]; exact hl)]
          simp [hl]
        · rw [List.getElem?_eq_none (by rw [List.length_set, wipe_length]; omega), if_neg (by omega), List.getElem?_eq_none (by omega)]
      · rw [List.getElem?_set_ne hj, ih j]
        have : (j ∈ v :: vs) ↔ j ∈ vs := by simp [Ne.symm hj]
        simp only [this]
  intro vs h hl
  apply List.ext_getElem?
  intro j
  rw [key, key, hl]
  by_cases hj : j ∈ vs
  · by_cases hl : j < σ.length
    · simp [hj, hl]
    · rw [if_neg (by omega), if_neg (by omega), List.getElem?_eq_none (by omega), List.getElem?_eq_none (by omega)]
  · rw [if_neg (fun z => hj z.1), if_neg (fun z => hj z.1), h j hj]
theorem wipe_idem (σ : L2.St) : ∀ vs : List Nat, L2.wipe (L2.wipe σ vs) vs = L2.wipe σ vs := fun vs =>
  wipe_same (fun j hj => L2.wipe_out hj) (wipe_length σ vs)

theorem Ext.push {G1 G' : List Addr} {H1 H' : Hp} {D : Addr} {o : HO} (x : Ext G1 H1 G' H') (nD : H1 D = none) : Ext G1 H1 G' (upd H' D o) :=
  ⟨x.pre, fun a u h n => by rw [upd_ne (ne_of_none h nD)]; exact x.keep _ _ h n, fun a u h f => by rw [upd_ne (ne_of_none h nD)]; exact x.fix _ _ h f, fun a h => by
    by_cases e : a = D
    · subst e; rw [upd_same]; exact Option.some_ne_none _
    · rw [upd_ne e]; exact x.live _ h⟩
theorem DR.push {G' : List Addr} {H' : Hp} {δ : List Bx} {D : Addr} {o : HO} (d : DR c G' H' δ) (nD : D ∉ G') (hx : ∀ a u, H' a = some u → Fixed u → a ≠ D) : DR c G' (upd H' D o) δ := by
  have xs : ExtS G' H' G' (upd H' D o) := ⟨⟨[], by simp⟩, fun a u h f => by rw [upd_ne (hx a u h f)]; exact h⟩
  refine ⟨d.len, d.nd, fun i b h => ?_⟩
  obtain ⟨a, e, r⟩ := d.ob i b h
  refine ⟨a, e, ?_⟩
  have na : a ≠ D := fun z => nD (z ▸ List.mem_of_getElem? e)
  cases b with
  | lst xs' =>
    obtain ⟨vs, e1, r1⟩ := r
    exact ⟨vs, by rw [upd_ne na]; exact e1, RelL.extS xs r1⟩
  | ins _ _ => exact r.elim
  | tab P q =>
    obtain ⟨rfl, t⟩ := r
    exact ⟨rfl, tab_step t (upd_ne na) fun b u hu f => by rw [upd_ne (hx b u hu f)]; exact hu⟩
theorem bindP_tP {G : List Addr} {H : Hp} {σ : L2.St} {ρ ρ2 : List Sl} {p : Pat} {d : D} {v : V} {Q : L2.St → Hp → Prop} (s : SR c G H σ ρ) (r : Rel c G H d v) (e : bindP p d ρ = some ρ2)
    (q : ∀ σ', SR c G H σ' ρ2 → (∀ j, j ∉ p.slots → σ'[j]? = σ[j]?) → σ'.length = σ.length → Q σ' H) : tP c p v σ H Q := ⟨G, ρ, d, ρ2, s, r, e, q⟩
theorem noer_ok {α : Type} {r : Res α} {a : α} {δ : List Bx} (h : r.noer = .ok a δ) : r = .ok a δ := by
  cases r <;> simp [Res.noer] at h ⊢
  exact h
theorem bind_okI {α β : Type} {r : Res α} {k : α → List Bx → Res β} {b : β} {δ : List Bx} (h : r.bind k = .ok b δ) : ∃ a δ1, r = .ok a δ1 ∧ k a δ1 = .ok b δ := by
  cases r with
  | ok a δ1 => exact ⟨a, δ1, rfl, h⟩
  | er _ _ _ => cases h
  | no => cases h
/-- one turn: from the target's store to the appended item -/
theorem turn_read {p : Pat} {vs : List Nat} {ft : RX Bool} {fe : RX D} {ρ : List Sl} {σ : L2.St} {d : D} {x : V} {δ δ1 : List Bx} {o : Option D} {G1 G' : List Addr} {H1 H' : Hp} {A : Addr} {accV : List V} {Nx : Hp → Prop}
    (hp : ∀ j ∈ p.slots, j ∈ vs) (nA : H1 A = none) (s : SR c G' H' σ ρ) (dr : DR c G' H' δ) (xe : Ext G1 H1 G' H') (hA : H' A = some (.lst accV)) (nG : A ∉ G') (hz : ∀ y, o = some y → accV.length < sizeLine) (r : Rel c G' H' d x) (e : cstep p vs ft fe ρ d δ = .ok o δ1)
    (q0 : o = none → ∀ G2 H2, Ext G' H' G2 H2 → DR c G2 H2 δ1 → Nx H2) (q1 : ∀ y, o = some y → y.strong = true → ∀ G2 H2 v, Ext G' H' G2 H2 → DR c G2 H2 δ1 → Rel c G2 H2 y v → Nx (upd H2 A (.lst (accV ++ [v])))) :
    tP c p x (L2.wipe σ vs) H' fun σ2 H2 => L2.wipe σ2 vs = L2.wipe σ vs ∧ tT c W0 ft σ2 H2 fun b H3 =>
      if b = true then tD c W0 fe σ2 H3 fun y H4 => ∃ acc, H4 A = some (.lst acc) ∧ acc.length < sizeLine ∧ Nx (upd H4 A (.lst (acc ++ [y]))) else Nx H3 := by
  unfold cstep at e
  split at e
  · cases e
  · rename_i ρ2 hb
    have e := noer_ok e
    refine bindP_tP (s.wipe vs) r hb fun σ2 s2 h1 h2 => ?_
    refine ⟨by rw [wipe_same (fun j hj => h1 j fun z => hj (hp j z)) h2, wipe_idem], ?_⟩
    obtain ⟨b, δa, ea, eb⟩ := bind_okI e
    refine ⟨ρ2, δ, G', s2, dr, ?_⟩
    rw [ea]
    intro G3 H3 x3 d3
    cases b with
    | false =>
      simp only [Bool.false_eq_true, if_false, Res.ok.injEq] at eb ⊢
      obtain ⟨rfl, rfl⟩ := eb
      exact q0 rfl _ _ x3 d3
    | true =>
      simp only [if_true] at eb ⊢
      obtain ⟨y, δb, ey, ez⟩ := bind_okI eb
      split at ez
      · rename_i st
        simp only [Res.ok.injEq] at ez
        obtain ⟨rfl, rfl⟩ := ez
        refine ⟨ρ2, δa, G3, s2.ext x3, d3, ?_⟩
        rw [ey]
        intro G4 H4 x4 d4 v rv
        exact ⟨accV, x4.keep _ _ (x3.keep _ _ hA nG) (x3.notMem hA nG), hz y rfl, q1 y rfl st _ _ v (x3.trans x4) d4 rv⟩
      · cases ez
theorem cloop_len {st : D → List Bx → Res (Option D)} : ∀ {ds : List D} {δ δ' : List Bx} {rs : List D}, cloop st ds δ = .ok rs δ' → rs.length ≤ ds.length
  | [], δ, δ', rs, h => by simp [cloop] at h; simp [h.1]
  | d :: ds, δ, δ', rs, h => by
    obtain ⟨o, δ1, _, h⟩ := bind_okI h
    obtain ⟨r, δ2, h2, h⟩ := bind_okI h
    simp only [Res.ok.injEq] at h
    obtain ⟨rfl, rfl⟩ := h
    have := cloop_len h2
    cases o <;> simp <;> omega
/-- [e for x in xs if t] -/
theorem lc_read {fi : RX (List D)} {p : Pat} {vs : List Nat} {ft : RX Bool} {fe : RX D} {σ : L2.St} {H : Hp} {Q : VK} (hp : ∀ j ∈ p.slots, j ∈ vs) (h : tD c W (lcF fi p vs ft fe) σ H Q) :
    tLc (tI Ext c W fi) (tP c p) (tT c W0 ft) (tD c W0 fe) vs σ H fun v H1 => ∃ a xs, v = .ref a ∧ H1 a = some (.lst xs) ∧ ∀ o, Q v (upd H1 a (.frz o (.lst xs))) := by
  refine tG.first (f := fi) (k := fun ds ρ δ1 => (cloop (cstep p vs ft fe ρ) ds δ1).bind fun rs δ2 => .ok (D.lst rs) δ2) h fun ρ ds δ1 G1 H1 a1 p1 J yj => ?_
  intro A nA
  cases ecl : cloop (cstep p vs ft fe ρ) ds δ1 with
  | no => rw [ecl] at p1; exact p1.elim
  | er k d' δ' =>
    exfalso
    have : ∀ (ds : List D) (δ : List Bx), cloop (cstep p vs ft fe ρ) ds δ ≠ .er k d' δ' := by
      intro ds
      induction ds with
      | nil => intro δ h; cases h
      | cons d ds ih =>
        intro δ h
        unfold cloop at h
        cases e1 : cstep p vs ft fe ρ d δ with
        | ok o δa =>
          rw [e1] at h
          simp only [Res.bind_ok] at h
          cases e2 : cloop (cstep p vs ft fe ρ) ds δa with
          | ok r δb => rw [e2] at h; cases h
          | er _ _ _ => rw [e2] at h; cases h; exact ih _ e2
          | no => rw [e2] at h; cases h
        | er _ _ _ =>
          unfold cstep at e1
          split at e1
          · cases e1
          · revert e1
            generalize ((ft _ δ).bind _) = r
            cases r <;> simp [Res.noer]
        | no => rw [e1] at h; cases h
    exact this _ _ ecl
  | ok rs δ2 =>
    rw [ecl] at p1
    simp only [Res.bind_ok] at p1
    -- the invariant
    refine ⟨fun i m H' => m = ds.length - i ∧ i ≤ ds.length ∧ ∃ G' δ' acc accV rest, Ext G1 H1 G' H' ∧ DR c G' H' δ' ∧ A ∉ G' ∧ H' A = some (.lst accV) ∧ RelL c G' H' acc accV ∧ acc.length ≤ i ∧ cloop (cstep p vs ft fe ρ) (ds.drop i) δ' = .ok rest δ2 ∧ rs = acc ++ rest, ⟨ds.length, by simp, Nat.zero_le _, G1, δ1, [], [], rs, Ext.refl.push nA, ?_, ?_, upd_same, by simp [RelL], Nat.le_refl _, by simpa using ecl, rfl⟩, ?_⟩
    · refine a1.dr.push (fun z => ?_) fun a u hu _ => ne_of_none hu nA
      obtain ⟨x, e, _⟩ := a1.dr.at z
      rw [nA] at e; cases e
    · intro z
      obtain ⟨x, e, _⟩ := a1.dr.at z
      rw [nA] at e; cases e
    · rintro i m H' ⟨rfl, hi, G', δ', acc, accV, rest, xe, dr, nG, hA, ra, hl, er, ers⟩
      by_cases hlt : i < ds.length
      · have hd : ds[i]? = some ds[i] := List.getElem?_eq_getElem hlt
        obtain ⟨hgo, hy⟩ := yj.go i ds[i] G' H' xe hd
        refine .inr ⟨hgo, fun H'' => ∃ G'' δ'' acc accV rest, Ext G1 H1 G'' H'' ∧ DR c G'' H'' δ'' ∧ A ∉ G'' ∧ H'' A = some (.lst accV) ∧ RelL c G'' H'' acc accV ∧ acc.length ≤ i + 1 ∧ cloop (cstep p vs ft fe ρ) (ds.drop (i + 1)) δ'' = .ok rest δ2 ∧ rs = acc ++ rest, fun H'' z => ⟨ds.length - (i + 1), by omega, rfl, hlt, z⟩, fun x H3 hx => ?_⟩
        obtain ⟨xn, rx⟩ := hy x H3 hx
        have x3 : Ext G' H' G' H3 := Ext.ofN xn
        have dr3 := dr.new xn
        have hA3 : H3 A = some (.lst accV) := xn _ _ hA
        rw [List.drop_eq_getElem_cons hlt] at er
        obtain ⟨o, δa, eo, er⟩ := bind_okI er
        obtain ⟨r', δb, er', ez⟩ := bind_okI er
        simp only [Res.ok.injEq] at ez
        obtain ⟨ez, rfl⟩ := ez
        subst ez
        have hz : accV.length < sizeLine := by
          rw [ra.length, cap_eq]
          have := yj.len
          omega
        refine turn_read hp nA ((a1.sr.ext xe).ext x3) dr3 (xe.trans x3) hA3 nG (fun _ _ => hz) rx eo (fun ho G2 H2 x2 d2 => ?_) fun y ho st G2 H2 v x2 d2 rv => ?_
        · subst ho
          exact ⟨G2, δa, acc, accV, r', (xe.trans x3).trans x2, d2, x2.notMem hA3 nG, x2.keep _ _ hA3 nG, RelL.extS ((x3.trans x2).toS) ra, by omega, er', by simpa using ers⟩
        · subst ho
          have nG2 := x2.notMem hA3 nG
          have hA2 := x2.keep _ _ hA3 nG
          have fx : ∀ a u, H2 a = some u → Fixed u → a ≠ A := fun a u hu f z => by
            subst z; rw [hA2] at hu; cases hu; exact f
          have xs2 : ExtS G2 H2 G2 (upd H2 A (.lst (accV ++ [v]))) := ⟨⟨[], by simp⟩, fun a u hu f => by rw [upd_ne (fx a u hu f)]; exact hu⟩
          refine ⟨G2, δa, acc ++ [y], accV ++ [v], r', ((xe.trans x3).trans x2).push nA, d2.push nG2 fx, nG2, upd_same, ?_, by rw [List.length_append]; simp; omega, er', by simpa using ers⟩
          refine RelL.append (RelL.extS xs2 (RelL.extS ((x3.trans x2).toS) ra)) ?_
          simp only [RelL]
          exact ⟨v, [], rfl, st, Rel.extS xs2 st rv, rfl⟩
      · have ei : i = ds.length := by omega
        subst ei
        refine .inl ⟨yj.stop G' H' xe, A, accV, rfl, hA, fun o => ?_⟩
        rw [List.drop_length] at er
        simp only [cloop, Res.ok.injEq] at er
        obtain ⟨rfl, rfl⟩ := er
        have fx : ∀ a u, H' a = some u → Fixed u → a ≠ A := fun a u hu f z => by
          subst z; rw [hA] at hu; cases hu; exact f
        have xs2 : ExtS G' H' G' (upd H' A (.frz o (.lst accV))) := ⟨⟨[], by simp⟩, fun a u hu f => by rw [upd_ne (fx a u hu f)]; exact hu⟩
        rw [List.append_nil] at ers
        subst ers
        refine p1 G' _ (xe.push nA) (dr.push nG fx) _ ?_
        simp only [Rel]
        exact ⟨A, o, accV, rfl, upd_same, RelL.extS xs2 ra⟩
theorem pe_lcD {elt tg iter : Expr} {ifs : List Expr} {scope : Scope} {own : List (Str × Nat)} {pos : Pos} {fi : RX (List D)} {p : Pat} {ft : RX Bool} {fe : RX D} (hc : X.calm = true) (hN : X.N.Nodup) (hi : PI X tg iter (tI Ext c W fi)) (ok : BlkOk X.N X.env.scope scope own)
    (hg : ∀ (s : Shared) (H : Hp) (C : Addr) (cl : List (Str × Addr)) (fp : List Addr), PG (X.blk s H scope (compEnvC scope cl C X.env) fp) tg (tP c p)) (ht : ∀ (s : Shared) (H : Hp) (C : Addr) (cl : List (Str × Addr)) (fp : List Addr), PTs (X.blk s H scope (compEnvC scope cl C X.env) fp) ifs (tT c W0 ft))
    (he : ∀ (s : Shared) (H : Hp) (C : Addr) (cl : List (Str × Addr)) (fp : List Addr), PE (X.blk s H scope (compEnvC scope cl C X.env) fp) elt (tD c W0 fe)) (hp : ∀ j ∈ p.slots, j ∈ own.map (·.2)) (hs : ∀ x, foldedSetIterable iter X.env x = pure x) :
    PE X (.ListComp elt [⟨tg, iter, ifs, 0⟩] scope pos) (tD c W (lcF fi p (own.map (·.2)) ft fe)) :=
  (pe_frz (pe_lc hc hN hi ok hg ht he hs)).imp fun σ H Q h => lc_read hp h

/-! ### two clauses -/
def cstep2 (p : Pat) (vs : List Nat) (ft : RX Bool) (fi1 : RX (List D)) (p1 : Pat) (vs1 : List Nat) (ft1 : RX Bool) (fe : RX D) (ρ : List Sl) (d : D) (δ : List Bx) : Res (List D) :=
  match bindP p d (wipeR ρ vs) with
  | none => .no
  | some ρ2 => ((ft ρ2 δ).bind fun b δ1 => if b then (fi1 ρ2 δ1).bind fun ds δ2 => cloop (cstep p1 vs1 ft1 fe ρ2) ds δ2 else .ok [] δ1).noer
def cloop2 (st : D → List Bx → Res (List D)) : List D → List Bx → Res (List D)
  | [], δ => .ok [] δ
  | d :: ds, δ => (st d δ).bind fun o δ1 => (cloop2 st ds δ1).bind fun r δ2 => .ok (o ++ r) δ2
def lc2F (fi : RX (List D)) (p : Pat) (vs : List Nat) (ft : RX Bool) (fi1 : RX (List D)) (p1 : Pat) (vs1 : List Nat) (ft1 : RX Bool) (fe : RX D) : RX D := fun ρ δ =>
  (fi ρ δ).bind fun ds δ1 => (cloop2 (cstep2 p vs ft fi1 p1 vs1 ft1 fe ρ) ds δ1).noer.bind fun rs δ2 => if rs.length ≤ cap then .ok (.lst rs) δ2 else .no
/-- A is no own list of the slots -/
def NoOwn (σ : L2.St) (ρ : List Sl) (A : Addr) : Prop := ∀ (i : Nat) (l : Sl), ρ[i]? = some l → l.isOwn = true → σ[i]? ≠ some (some (.ref A))
theorem SR.upd {G : List Addr} {H : Hp} {σ : L2.St} {ρ : List Sl} {A : Addr} {o : HO} (s : SR c G H σ ρ) (n : NoOwn σ ρ A) (xs : ExtS G H G (upd H A o)) : SR c G (upd H A o) σ ρ := by
  refine ⟨s.len, fun i l h => ?_, s.sep⟩
  have r := s.sl i l h
  cases l with
  | no => trivial
  | v d =>
    obtain ⟨st, v, e, r⟩ := r
    exact ⟨st, v, e, Rel.extS xs st r⟩
  | own ys =>
    obtain ⟨a, vs, e, h1, h2, h3⟩ := r
    have na : a ≠ A := fun z => n i _ h rfl (by rw [e, z])
    exact ⟨a, vs, e, by rw [upd_ne na]; exact h1, h2, RelL.extS xs h3⟩
  | ownd t ks vs =>
    obtain ⟨a, u, ws, e, h1, h2, h3, h4⟩ := r
    have na : a ≠ A := fun z => n i _ h rfl (by rw [e, z])
    exact ⟨a, u, ws, e, by rw [upd_ne na]; exact h1, h2, h3, RelL.extS xs h4⟩
theorem NoOwn.new {G : List Addr} {H : Hp} {σ : L2.St} {ρ : List Sl} (s : SR c G H σ ρ) {A : Addr} (nA : H A = none) : NoOwn σ ρ A := fun i l h o e => by
  have r := s.sl i l h
  cases l with
  | no => cases o
  | v d => cases o
  | own ys =>
    obtain ⟨a, vs, e1, h1, _⟩ := r
    rw [e] at e1
    cases e1
    rw [nA] at h1; cases h1
  | ownd t ks vs =>
    obtain ⟨a, u, ws, e1, h1, _⟩ := r
    rw [e] at e1
    cases e1
    rw [nA] at h1; cases h1
theorem wipeR_own {ρ : List Sl} {i : Nat} {l : Sl} : ∀ {vs : List Nat}, (wipeR ρ vs)[i]? = some l → l.isOwn = true → ρ[i]? = some l ∧ i ∉ vs
  | [], h, _ => ⟨h, by simp⟩
  | v :: vs, h, o => by
    unfold wipeR at h
    by_cases hi : v = i
    · subst hi
      by_cases hv : v < (wipeR ρ vs).length
      · rw [List.getElem?_set_self hv] at h; cases h; cases o
      · rw [List.getElem?_eq_none (by rw [List.length_set]; omega)] at h; cases h
    · rw [List.getElem?_set_ne hi] at h
      obtain ⟨h1, h2⟩ := wipeR_own h o
      exact ⟨h1, by simp only [List.mem_cons, not_or]; exact ⟨fun e => hi e.symm, h2⟩⟩
theorem bindL_own {i : Nat} {l : Sl} : ∀ {is : List Nat} {ds : List D} {ρ ρ' : List Sl}, bindL is ds ρ = some ρ' → ρ'[i]? = some l → l.isOwn = true → ρ[i]? = some l ∧ i ∉ is
  | [], [], ρ, ρ', e, h, o => by simp only [bindL, Option.some.injEq] at e; subst e; exact ⟨h, by simp⟩
  | j :: is, d :: ds, ρ, ρ', e, h, o => by
    simp only [bindL] at e
    split at e
    · rename_i hh
      simp only [Bool.and_eq_true, decide_eq_true_eq] at hh
      obtain ⟨h1, h2⟩ := bindL_own e h o
      by_cases hj : j = i
      · subst hj
        rw [List.getElem?_set_self hh.2] at h1
        cases h1; cases o
      · rw [List.getElem?_set_ne hj] at h1
        exact ⟨h1, by simp only [List.mem_cons, not_or]; exact ⟨fun e => hj e.symm, h2⟩⟩
    · cases e
  | [], _ :: _, _, _, e, _, _ => by simp [bindL] at e
  | _ :: _, [], _, _, e, _, _ => by simp [bindL] at e
theorem bindP_own {i : Nat} {l : Sl} {p : Pat} {d : D} {ρ ρ' : List Sl} (e : bindP p d ρ = some ρ') (h : ρ'[i]? = some l) (o : l.isOwn = true) : ρ[i]? = some l ∧ i ∉ p.slots := by
  cases p with
  | nm j =>
    have : bindL [j] [d] ρ = some ρ' := by simpa [bindP, bindL] using e
    exact bindL_own this h o
  | tp is =>
    cases d <;> simp only [bindP, reduceCtorEq] at e
    exact bindL_own e h o
theorem NoOwn.wipe {σ : L2.St} {ρ : List Sl} {A : Addr} (n : NoOwn σ ρ A) (vs : List Nat) : NoOwn (L2.wipe σ vs) (wipeR ρ vs) A := fun i l h o e => by
  obtain ⟨h1, h2⟩ := wipeR_own h o
  rw [L2.wipe_out h2] at e
  exact n i l h1 o e
theorem NoOwn.bind {σ σ2 : L2.St} {ρ ρ2 : List Sl} {A : Addr} {p : Pat} {d : D} (n : NoOwn σ ρ A) (e : bindP p d ρ = some ρ2) (h : ∀ j, j ∉ p.slots → σ2[j]? = σ[j]?) : NoOwn σ2 ρ2 A := fun i l hl o z => by
  obtain ⟨h1, h2⟩ := bindP_own e hl o
  rw [h i h2] at z
  exact n i l h1 o z
/-- what is known of the list that is made -/
structure Mk (c : Cn) (A : Addr) (G1 : List Addr) (H1 : Hp) (G' : List Addr) (H' : Hp) (δ : List Bx) (acc : List D) : Prop where
  x : Ext G1 H1 G' H'
  dr : DR c G' H' δ
  nG : A ∉ G'
  lst : ∃ accV, H' A = some (.lst accV) ∧ RelL c G' H' acc accV
theorem Mk.more {A : Addr} {G1 G' G2 : List Addr} {H1 H' H2 : Hp} {δ δ2 : List Bx} {acc : List D} (m : Mk c A G1 H1 G' H' δ acc) (x : Ext G' H' G2 H2) (d : DR c G2 H2 δ2) : Mk c A G1 H1 G2 H2 δ2 acc := by
  obtain ⟨accV, h, r⟩ := m.lst
  exact ⟨m.x.trans x, d, x.notMem h m.nG, accV, x.keep _ _ h m.nG, RelL.extS x.toS r⟩
theorem Mk.fx {A : Addr} {G1 G' : List Addr} {H1 H' : Hp} {δ : List Bx} {acc : List D} (m : Mk c A G1 H1 G' H' δ acc) (o : HO) : ExtS G' H' G' (L2.upd H' A o) := by
  obtain ⟨accV, h, r⟩ := m.lst
  refine ⟨⟨[], by simp⟩, fun a u hu f => ?_⟩
  have : a ≠ A := fun z => by subst z; rw [h] at hu; cases hu; exact f
  rw [upd_ne this]; exact hu
theorem Mk.app {A : Addr} {G1 G' : List Addr} {H1 H' : Hp} {δ : List Bx} {acc : List D} {accV : List V} {y : D} {v : V} (m : Mk c A G1 H1 G' H' δ acc) (nA : H1 A = none) (h : H' A = some (.lst accV)) (st : y.strong = true) (rv : Rel c G' H' y v) :
    Mk c A G1 H1 G' (L2.upd H' A (.lst (accV ++ [v]))) δ (acc ++ [y]) := by
  have xs := m.fx (.lst (accV ++ [v]))
  obtain ⟨accV', h', r⟩ := m.lst
  rw [h] at h'; cases h'
  have fx : ∀ a u, H' a = some u → Fixed u → a ≠ A := fun a u hu f z => by subst z; rw [h] at hu; cases hu; exact f
  refine ⟨m.x.push nA, m.dr.push m.nG fx, m.nG, _, upd_same, (RelL.extS xs r).append ?_⟩
  simp only [RelL]
  exact ⟨v, [], rfl, st, Rel.extS xs st rv, rfl⟩
/-- the inner loop -/
theorem inner_read {p : Pat} {vs : List Nat} {ft : RX Bool} {fe : RX D} {σ : L2.St} {ρ : List Sl} {J : It} {ds pre post rs : List D} {A : Addr} {G1 Gs : List Addr} {H1 Hs : Hp} {δ1 δ2 : List Bx} {Fin : Hp → Prop} (hp : ∀ j ∈ p.slots, j ∈ vs) (nA : H1 A = none)
    (yj : Yields ExtS c Gs Hs J ds) (s : SR c Gs Hs σ ρ) (no : NoOwn σ ρ A) (m : Mk c A G1 H1 Gs Hs δ1 pre) (e : cloop (cstep p vs ft fe ρ) ds δ1 = .ok rs δ2) (hz : (pre ++ rs ++ post).length ≤ cap)
    (fin : ∀ G' H', ExtS Gs Hs G' H' → SR c G' H' σ ρ → Mk c A G1 H1 G' H' δ2 (pre ++ rs) → Fin H') :
    ∃ W1 : Nat → Nat → Hp → Prop, (∃ m, W1 0 m Hs) ∧ ∀ j k H, W1 j k H →
      (J.stop j H ∧ Fin H) ∨ (J.go j H ∧ ∃ Nx1 : Hp → Prop, (∀ H', Nx1 H' → ∃ k', k' < k ∧ W1 (j + 1) k' H') ∧ ∀ x H', J.yld j H x H' → tP c p x (L2.wipe σ vs) H' fun σ3 H5 => L2.wipe σ3 vs = L2.wipe σ vs ∧ tT c W0 ft σ3 H5 fun b H6 =>
        if b = true then tD c W0 fe σ3 H6 fun y H7 => ∃ acc, H7 A = some (.lst acc) ∧ acc.length < sizeLine ∧ Nx1 (L2.upd H7 A (.lst (acc ++ [y]))) else Nx1 H6) := by
  refine ⟨fun i k H' => k = ds.length - i ∧ i ≤ ds.length ∧ ∃ G' δ' acc rest, ExtS Gs Hs G' H' ∧ SR c G' H' σ ρ ∧ Mk c A G1 H1 G' H' δ' acc ∧ cloop (cstep p vs ft fe ρ) (ds.drop i) δ' = .ok rest δ2 ∧ pre ++ rs = acc ++ rest, ⟨ds.length, by simp, Nat.zero_le _, Gs, δ1, pre, rs, ExtS.refl, s, m, by simpa using e, rfl⟩, ?_⟩
  rintro i k H' ⟨rfl, hi, G', δ', acc, rest, xs, s', m', er, ers⟩
  by_cases hlt : i < ds.length
  · have hd : ds[i]? = some ds[i] := List.getElem?_eq_getElem hlt
    obtain ⟨hgo, hy⟩ := yj.go i ds[i] G' H' xs hd
    refine .inr ⟨hgo, fun H'' => ∃ G' δ' acc rest, ExtS Gs Hs G' H'' ∧ SR c G' H'' σ ρ ∧ Mk c A G1 H1 G' H'' δ' acc ∧ cloop (cstep p vs ft fe ρ) (ds.drop (i + 1)) δ' = .ok rest δ2 ∧ pre ++ rs = acc ++ rest, fun H'' z => ⟨ds.length - (i + 1), by omega, rfl, hlt, z⟩, fun x H3 hx => ?_⟩
    obtain ⟨xn, rx⟩ := hy x H3 hx
    have x3 : Ext G' H' G' H3 := Ext.ofN xn
    have m3 := m'.more x3 (m'.dr.new xn)
    have s3 := s'.ext x3
    obtain ⟨accV, hA3, ra3⟩ := m3.lst
    rw [List.drop_eq_getElem_cons hlt] at er
    obtain ⟨o, δa, eo, er⟩ := bind_okI er
    obtain ⟨r', δb, er', ez⟩ := bind_okI er
    simp only [Res.ok.injEq] at ez
    obtain ⟨ez, rfl⟩ := ez
    subst ez
    refine turn_read hp nA s3 m3.dr m3.x hA3 m3.nG (fun y ho => ?_) rx eo (fun ho G2 H2 x2 d2 => ?_) fun y ho st G2 H2 v x2 d2 rv => ?_
    · subst ho
      rw [ra3.length, cap_eq]
      have h1 := congrArg List.length ers
      simp only [List.length_append, Option.toList, List.length_cons, List.length_nil] at h1 hz
      omega
    · subst ho
      exact ⟨G2, δa, acc, r', xs.trans (x3.trans x2).toS, s3.ext x2, m3.more x2 d2, er', by simpa using ers⟩
    · subst ho
      have m4 := m3.more x2 d2
      have hA4 := x2.keep _ _ hA3 m3.nG
      have xs4 := m4.fx (.lst (accV ++ [v]))
      exact ⟨G2, δa, acc ++ [y], r', (xs.trans (x3.trans x2).toS).trans xs4, (s3.ext x2).upd no xs4, m4.app nA hA4 st rv, er', by simpa using ers⟩
  · have ei : i = ds.length := by omega
    subst ei
    rw [List.drop_length] at er
    simp only [cloop, Res.ok.injEq] at er
    obtain ⟨rfl, rfl⟩ := er
    rw [List.append_nil] at ers
    subst ers
    exact .inl ⟨yj.stop G' H' xs, fin G' H' xs s' m'⟩
theorem lc2_read {fi fi1 : RX (List D)} {p p1 : Pat} {vs vs1 : List Nat} {ft ft1 : RX Bool} {fe : RX D} {σ : L2.St} {H : Hp} {Q : VK} (hp : ∀ j ∈ p.slots, j ∈ vs) (hp1 : ∀ j ∈ p1.slots, j ∈ vs1) (h : tD c W (lc2F fi p vs ft fi1 p1 vs1 ft1 fe) σ H Q) :
    tLc2 (tI ExtS c W fi) (tP c p) (tT c W0 ft) (tI ExtS c W0 fi1) (tP c p1) (tT c W0 ft1) (tD c W0 fe) vs vs1 σ H fun v H1 => ∃ a xs, v = .ref a ∧ H1 a = some (.lst xs) ∧ ∀ o, Q v (L2.upd H1 a (.frz o (.lst xs))) := by
  refine tG.first (f := fi) (k := fun ds ρ δ1 => (cloop2 (cstep2 p vs ft fi1 p1 vs1 ft1 fe ρ) ds δ1).noer.bind fun rs δ2 => if rs.length ≤ cap then .ok (D.lst rs) δ2 else .no) h fun ρ ds δ1 G1 H1 a1 pp J yj => ?_
  intro A nA
  cases ecl : (cloop2 (cstep2 p vs ft fi1 p1 vs1 ft1 fe ρ) ds δ1).noer with
  | no => rw [ecl] at pp; exact pp.elim
  | er k d' δ' => revert ecl; generalize cloop2 _ ds δ1 = r; cases r <;> simp [Res.noer]
  | ok rs δ2 =>
    rw [ecl] at pp
    simp only [Res.bind_ok] at pp
    have ecl := noer_ok ecl
    by_cases hz : rs.length ≤ cap
    · rw [if_pos hz] at pp
      have no : NoOwn σ ρ A := NoOwn.new a1.sr nA
      have nAG : A ∉ G1 := fun z => by
        obtain ⟨x, e, _⟩ := a1.dr.at z
        rw [nA] at e; cases e
      refine ⟨fun i m H' => m = ds.length - i ∧ i ≤ ds.length ∧ ∃ G' δ' acc rest, ExtS G1 H1 G' H' ∧ SR c G' H' σ ρ ∧ Mk c A G1 H1 G' H' δ' acc ∧ cloop2 (cstep2 p vs ft fi1 p1 vs1 ft1 fe ρ) (ds.drop i) δ' = .ok rest δ2 ∧ rs = acc ++ rest,
        ⟨ds.length, by simp, Nat.zero_le _, G1, δ1, [], rs, ?_, ?_, ⟨Ext.refl.push nA, a1.dr.push nAG fun a u hu _ => ne_of_none hu nA, nAG, [], upd_same, by simp [RelL]⟩, by simpa using ecl, rfl⟩, ?_⟩
      · exact (Ext.ofN (ExtN.upd nA)).toS
      · exact a1.sr.ext (Ext.ofN (ExtN.upd nA))
      · rintro i m H' ⟨rfl, hi, G', δ', acc, rest, xs, s', m', er, ers⟩
        by_cases hlt : i < ds.length
        · have hd : ds[i]? = some ds[i] := List.getElem?_eq_getElem hlt
          obtain ⟨hgo, hy⟩ := yj.go i ds[i] G' H' xs hd
          refine .inr ⟨hgo, fun H'' => ∃ G' δ' acc rest, ExtS G1 H1 G' H'' ∧ SR c G' H'' σ ρ ∧ Mk c A G1 H1 G' H'' δ' acc ∧ cloop2 (cstep2 p vs ft fi1 p1 vs1 ft1 fe ρ) (ds.drop (i + 1)) δ' = .ok rest δ2 ∧ rs = acc ++ rest, fun H'' z => ⟨ds.length - (i + 1), by omega, rfl, hlt, z⟩, fun x H3 hx => ?_⟩
          obtain ⟨xn, rx⟩ := hy x H3 hx
          have x3 : Ext G' H' G' H3 := Ext.ofN xn
          have m3 := m'.more x3 (m'.dr.new xn)
          have s3 := s'.ext x3
          rw [List.drop_eq_getElem_cons hlt] at er
          obtain ⟨o, δa, eo, er⟩ := bind_okI er
          obtain ⟨r', δb, er', ez⟩ := bind_okI er
          simp only [Res.ok.injEq] at ez
          obtain ⟨ez, rfl⟩ := ez
          subst ez
          unfold cstep2 at eo
          split at eo
          · cases eo
          · rename_i ρ2 hb
            have eo := noer_ok eo
            refine bindP_tP (s3.wipe vs) rx hb fun σ2 s2 h1 h2 => ?_
            have no2 : NoOwn σ2 ρ2 A := (no.wipe vs).bind hb h1
            refine ⟨by rw [wipe_same (fun j hj => h1 j fun z => hj (hp j z)) h2, wipe_idem], ?_⟩
            obtain ⟨b, δc, ea, eb⟩ := bind_okI eo
            refine ⟨ρ2, δ', G', s2, m3.dr, ?_⟩
            rw [ea]
            intro G4 H4 x4 d4
            have m4 := m3.more x4 d4
            have s4 := s3.ext x4
            have s42 := s2.ext x4
            cases b with
            | false =>
              simp only [Bool.false_eq_true, if_false, Res.ok.injEq] at eb ⊢
              obtain ⟨rfl, rfl⟩ := eb
              exact ⟨G4, δc, acc, r', xs.trans (x3.trans x4).toS, s4, m4, er', by simpa using ers⟩
            | true =>
              simp only [if_true] at eb ⊢
              obtain ⟨ds1, δd, ei, el⟩ := bind_okI eb
              refine ⟨ρ2, δc, G4, s42, d4, ?_⟩
              rw [ei]
              intro G5 H5 x5 d5 J1 y1
              have m5 := m4.more x5 d5
              refine inner_read (post := r') hp1 nA y1 (s42.ext x5) no2 m5 el (by rw [List.append_assoc, ← ers]; exact hz) fun G6 H6 xs6 s6 m6 => ?_
              refine ⟨G6, δa, acc ++ o, r', (xs.trans ((x3.trans x4).trans x5).toS).trans xs6, ?_, m6, er', by rw [List.append_assoc]; exact ers⟩
              -- the outer slots behind the inner loop
              have sx := a1.sr.ext m6.x
              exact sx
        · have ei : i = ds.length := by omega
          subst ei
          rw [List.drop_length] at er
          simp only [cloop2, Res.ok.injEq] at er
          obtain ⟨rfl, rfl⟩ := er
          obtain ⟨accV, hA, ra⟩ := m'.lst
          refine .inl ⟨yj.stop G' H' xs, A, accV, rfl, hA, fun o => ?_⟩
          have fx : ∀ a u, H' a = some u → Fixed u → a ≠ A := fun a u hu f z => by
            subst z; rw [hA] at hu; cases hu; exact f
          have xs2 := m'.fx (.frz o (.lst accV))
          rw [List.append_nil] at ers
          subst ers
          refine pp G' _ (m'.x.push nA) (m'.dr.push m'.nG fx) _ ?_
          simp only [Rel]
          exact ⟨A, o, accV, rfl, upd_same, RelL.extS xs2 ra⟩
    · rw [if_neg hz] at pp
      exact pp.elim
end
end Pv
set_option maxRecDepth 100000
set_option maxHeartbeats 1000000
/-! PvG: statements -/
namespace Pv
open PySem PySem.Spec PyProof.Rows L2

inductive Fl where
  | nx | rt (d : D) | bk | ct
  deriving Inhabited
abbrev RS := List Sl → List Bx → Res (Fl × List Sl)
def OwnNew (H0 : Hp) (σ : L2.St) (ρ : List Sl) : Prop := ∀ (i : Nat) (l : Sl) (a : Addr), ρ[i]? = some l → l.isOwn = true → σ[i]? = some (some (.ref a)) → H0 a = none
structure St4 (c : Cn) (G0 : List Addr) (H0 : Hp) (G : List Addr) (H : Hp) (σ : L2.St) (ρ : List Sl) (δ : List Bx) : Prop where
  sr : SR c G H σ ρ
  dr : DR c G H δ
  x : Ext G0 H0 G H
  on : OwnNew H0 σ ρ
def EndOk (c : Cn) (D : Ends) (fl : Fl) (σ : L2.St) (G : List Addr) (H : Hp) : Prop :=
  match fl with
  | .nx => D.nx σ H
  | .rt d => ∀ v, Rel c G H d v → D.rt v H
  | .bk => D.bk σ H
  | .ct => D.ct σ H
def PostS (c : Cn) (W : L2.St → WE) (G0 : List Addr) (H0 : Hp) (D : Ends) (G : List Addr) (H : Hp) (r : Res (Fl × List Sl)) : Prop :=
  match r with
  | .ok (fl, ρ') δ' => ∀ σ' G' H', St4 c G0 H0 G' H' σ' ρ' δ' → ExtS G H G' H' → EndOk c D fl σ' G' H'
  | .er k d δ' => ∀ σ' G' H', Ext G0 H0 G' H' → DR c G' H' δ' → W σ' k d G' H'
  | .no => False
def tS (c : Cn) (W : L2.St → WE) (G0 : List Addr) (H0 : Hp) (f : RS) : TS := fun D σ H => ∃ ρ δ G, St4 c G0 H0 G H σ ρ δ ∧ PostS c W G0 H0 D G H (f ρ δ)
section
variable {X : Cx} {c : Cn} {W : L2.St → WE} {G0 : List Addr} {H0 : Hp}
theorem St4.ext {G G' : List Addr} {H H' : Hp} {σ : L2.St} {ρ : List Sl} {δ δ' : List Bx} (s : St4 c G0 H0 G H σ ρ δ) (x : Ext G H G' H') (d : DR c G' H' δ') : St4 c G0 H0 G' H' σ ρ δ' := ⟨s.sr.ext x, d, s.x.trans x, s.on⟩
theorem PostS.later {D : Ends} {G G1 : List Addr} {H H1 : Hp} {r : Res (Fl × List Sl)} (h : PostS c W G0 H0 D G H r) (x : ExtS G H G1 H1) : PostS c W G0 H0 D G1 H1 r := by
  cases r with
  | ok p δ => exact fun σ' G' H' s y => h σ' G' H' s (x.trans y)
  | er k d δ => exact h
  | no => exact h
theorem _root_.L2.PS.imp {st : Stmt} {t t' : TS} (h : PS X st t) (i : ∀ D σ H, t' D σ H → t D σ H) : PS X st t' := ⟨fun pins s σ H D I hw => h.run pins s σ H D I (i _ _ _ hw)⟩
theorem _root_.L2.PSs.imp {st : List Stmt} {t t' : TS} (h : PSs X st t) (i : ∀ D σ H, t' D σ H → t D σ H) : PSs X st t' := ⟨fun pins s σ H D I hw => h.run pins s σ H D I (i _ _ _ hw)⟩
/-- from a statement's reading to that of its expression -/
theorem tS.expr {α : Type} {f : RX α} {k : α → List Sl → List Bx → Res (Fl × List Sl)} {D : Ends} {σ : L2.St} {H : Hp} {R : α → List Addr → Hp → Prop} (h : tS c W G0 H0 (fun ρ δ => (f ρ δ).bind fun a δ1 => k a ρ δ1) D σ H)
    (hR : ∀ ρ a δ1 G1 H1, St4 c G0 H0 G1 H1 σ ρ δ1 → PostS c W G0 H0 D G1 H1 (k a ρ δ1) → R a G1 H1) : tG c W f σ H R := by
  obtain ⟨ρ, δ, G, s, p⟩ := h
  refine ⟨ρ, δ, G, s.sr, s.dr, ?_⟩
  dsimp only at p
  cases e : f ρ δ with
  | ok a δ1 =>
    rw [e] at p
    intro G' H' x d
    exact hR ρ a δ1 G' H' (s.ext x d) (PostS.later (r := k a ρ δ1) p x.toS)
  | er k d δ1 =>
    rw [e] at p
    exact fun G' H' x d => p σ G' H' (s.x.trans x) d
  | no => rw [e] at p; exact p.elim
theorem PostS.okIn {D : Ends} {G : List Addr} {H : Hp} {fl : Fl} {ρ : List Sl} {δ : List Bx} {σ : L2.St} (h : PostS c W G0 H0 D G H (.ok (fl, ρ) δ)) (s : St4 c G0 H0 G H σ ρ δ) : EndOk c D fl σ G H := h σ G H s ExtS.refl

/-! ### blocks -/
def skipS : RS := fun ρ δ => .ok (.nx, ρ) δ
def seqS2 (f g : RS) : RS := fun ρ δ => (f ρ δ).bind fun p δ1 => match p.1 with
  | .nx => g p.2 δ1
  | _ => .ok p δ1
theorem pss_nilD : PSs X [] (tS c W G0 H0 skipS) := pss_nil.imp fun D σ H ⟨ρ, δ, G, s, p⟩ => PostS.okIn p s
theorem tS.seq {f g : RS} {D : Ends} {σ : L2.St} {H : Hp} (h : tS c W G0 H0 (seqS2 f g) D σ H) : tSeq (tS c W G0 H0 f) (tS c W G0 H0 g) D σ H := by
  obtain ⟨ρ, δ, G, s, p⟩ := h
  refine ⟨ρ, δ, G, s, ?_⟩
  unfold seqS2 at p
  cases e : f ρ δ with
  | ok q δ1 =>
    obtain ⟨fl, ρ1⟩ := q
    rw [e] at p
    simp only [Res.bind_ok] at p
    intro σ' G' H' s' x
    cases fl with
    | nx => exact ⟨ρ1, δ1, G', s', PostS.later p x⟩
    | rt d => exact p σ' G' H' s' x
    | bk => exact p σ' G' H' s' x
    | ct => exact p σ' G' H' s' x
  | er k d δ1 => rw [e] at p; exact p
  | no => rw [e] at p; exact p.elim
theorem pss_consD {st : Stmt} {rest : List Stmt} {f g : RS} (h1 : PS X st (tS c W G0 H0 f)) (h2 : PSs X rest (tS c W G0 H0 g)) : PSs X (st :: rest) (tS c W G0 H0 (seqS2 f g)) := (pss_cons h1 h2).imp fun _ _ _ h => tS.seq h
def bkS : RS := fun ρ δ => .ok (.bk, ρ) δ
def ctS : RS := fun ρ δ => .ok (.ct, ρ) δ
theorem ps_passD {pos : Pos} : PS X (.Pass pos) (tS c W G0 H0 skipS) := ps_pass.imp fun D σ H ⟨ρ, δ, G, s, p⟩ => PostS.okIn p s
theorem ps_breakD {pos : Pos} : PS X (.Break pos) (tS c W G0 H0 bkS) := ps_break.imp fun D σ H ⟨ρ, δ, G, s, p⟩ => PostS.okIn p s
theorem ps_continueD {pos : Pos} : PS X (.Continue pos) (tS c W G0 H0 ctS) := ps_continue.imp fun D σ H ⟨ρ, δ, G, s, p⟩ => PostS.okIn p s

/-! ### stores -/
def asgS (p : Pat) (f : RX D) : RS := fun ρ δ => (f ρ δ).bind fun d δ1 => match bindP p d ρ with
  | some ρ' => .ok (.nx, ρ') δ1
  | none => .no
theorem own_bind {H0 : Hp} {σ σ' : L2.St} {ρ ρ' : List Sl} {p : Pat} {d : D} (o : OwnNew H0 σ ρ) (e : bindP p d ρ = some ρ') (h : ∀ j, j ∉ p.slots → σ'[j]? = σ[j]?) : OwnNew H0 σ' ρ' := fun i l a hl ho ha => by
  obtain ⟨h1, h2⟩ := bindP_own e hl ho
  rw [h i h2] at ha
  exact o i l a h1 ho ha
theorem bindP_strong {p : Pat} {d : D} {ρ ρ' : List Sl} (e : bindP p d ρ = some ρ') : d.strong = true := by
  cases p with
  | nm i =>
    simp only [bindP] at e
    split at e
    · rename_i h; simp only [Bool.and_eq_true] at h; exact h.1
    · cases e
  | tp is => cases d <;> simp only [bindP, reduceCtorEq] at e; rfl
theorem tS.asg {p : Pat} {f : RX D} {D' : Ends} {σ : L2.St} {H : Hp} (h : tS c W G0 H0 (asgS p f) D' σ H) : tAsg (tD c W f) (tP c p) D' σ H := by
  refine tS.expr (k := fun d ρ δ1 => match bindP p d ρ with
    | some ρ' => .ok (.nx, ρ') δ1
    | none => .no) h fun ρ d δ1 G1 H1 s p1 v rv => ?_
  cases e : bindP p d ρ with
  | none => rw [e] at p1; exact p1.elim
  | some ρ' =>
    rw [e] at p1
    refine ⟨G1, ρ, d, ρ', s.sr, rv, e, fun σ' s' h1 h2 => ?_⟩
    exact PostS.okIn p1 ⟨s', s.dr, s.x, own_bind s.on e h1⟩
theorem ps_asgD {tg e : Expr} {pos : Pos} {p : Pat} {f : RX D} (he : PE X e (tD c W f)) (hg : PG X tg (tP c p)) (hs : swapsWithSole [tg] e pos.line X.env = pure false) (hw : swappedStores [tg] e X.env = pure none) (h1 : (assignEach [tg] X.env).map (·.2) = [assign tg X.env]) :
    PS X (.Assign [tg] e pos) (tS c W G0 H0 (asgS p f)) := (ps_asg he hg hs hw h1).imp fun _ _ _ h => tS.asg h
/-- name = [..] within one line -/
def tGhost (t : TS) (i : Nat) : TS := fun D σ H => t { D with nx := fun σ' H' => ∃ a xs, σ'[i]? = some (some (.ref a)) ∧ H' a = some (.lst xs) ∧ ∀ o, D.nx σ' (upd H' a (.frz o (.lst xs))) } σ H
theorem ps_ghost {st : Stmt} {t : TS} {i : Nat} (h : PS X st t) : PS X st (tGhost t i) := by
  refine ⟨fun pins s σ H D I hw => thn (h.run pins s σ H _ I hw) fun f s1 q => ?_⟩
  cases f with
  | next =>
    obtain ⟨σ', H', I', a, xs, _, h1, q⟩ := q
    obtain ⟨o, I2⟩ := I'.freeze h1
    exact ⟨σ', _, I2, q o⟩
  | brk => exact q
  | cont => exact q
  | ret v => exact q
theorem tP_nm {G : List Addr} {H : Hp} {σ : L2.St} {ρ ρ' : List Sl} {i : Nat} {d : D} {v : V} (s : SR c G H σ ρ) (r : Rel c G H d v) (e : bindP (.nm i) d ρ = some ρ') : SR c G H (σ.set i (some v)) ρ' ∧ i < ρ.length ∧ ρ' = ρ.set i (.v d) := by
  simp only [bindP] at e
  split at e
  · rename_i hh
    simp only [Bool.and_eq_true, decide_eq_true_eq] at hh
    cases e
    exact ⟨s.set hh.2 hh.1 r, hh.2, rfl⟩
  · cases e
/-- a reading that ends with a new list to be made fixed, stored in slot i -/
theorem setLc_read {i : Nat} {f : RX D} {D' : Ends} {σ : L2.St} {H : Hp} {t : TE} (ht : ∀ Q, tD c W f σ H Q → t σ H fun v H1 => ∃ a xs, v = .ref a ∧ H1 a = some (.lst xs) ∧ ∀ o, Q v (upd H1 a (.frz o (.lst xs)))) (mono : ∀ Q Q', (∀ v H1, Q v H1 → Q' v H1) → t σ H Q → t σ H Q') (h : tS c W G0 H0 (asgS (.nm i) f) D' σ H) : tGhost (tAsg t (gName i)) i D' σ H := by
  have h1 := tS.asg h
  refine mono _ _ (fun v H1 q => ?_) (ht (fun v H2 => i < σ.length ∧ D'.nx (σ.set i (some v)) H2) ?_)
  · obtain ⟨a, xs, rfl, hA, q⟩ := q
    exact ⟨a, xs, by rw [List.getElem?_set_self (q default).1], hA, fun o => (q o).2⟩
  · refine tD.mono h1 fun v H1 ⟨G, ρ, d, ρ', s, r, e, q⟩ => ?_
    obtain ⟨s', hi, _⟩ := tP_nm s r e
    refine ⟨by rw [s.len]; exact hi, q _ s' (fun j hj => ?_) (by simp)⟩
    rw [List.getElem?_set_ne]
    intro z
    exact hj (by simp [Pat.slots, z])

/-! ### return, if, an expression alone -/
def retS (f : RX D) : RS := fun ρ δ => (f ρ δ).bind fun d δ1 => .ok (.rt d, ρ) δ1
def retN : RS := fun ρ δ => .ok (.rt .non, ρ) δ
def dropS (f : RX D) : RS := fun ρ δ => (f ρ δ).bind fun _ δ1 => .ok (.nx, ρ) δ1
def ifS (t : RX Bool) (f g : RS) : RS := fun ρ δ => (t ρ δ).bind fun b δ1 => if b then f ρ δ1 else g ρ δ1
theorem ps_retD {e : Expr} {pos : Pos} {f : RX D} (h : PE X e (tD c W f)) : PS X (.Return (some e) pos) (tS c W G0 H0 (retS f)) :=
  (ps_ret h).imp fun D' σ H h => tS.expr (f := f) (k := fun d ρ δ1 => .ok (.rt d, ρ) δ1) h fun ρ d δ1 G1 H1 s p1 v rv => PostS.okIn p1 s v rv
theorem ps_retND {pos : Pos} : PS X (.Return none pos) (tS c W G0 H0 retN) := ps_retN.imp fun D' σ H ⟨ρ, δ, G, s, p⟩ => PostS.okIn p s .non (by simp only [Rel])
theorem ps_dropD {e : Expr} {pos : Pos} {f : RX D} (h : PE X e (tD c W f)) (hs : swapsWith e none pos.line X.env = pure false) : PS X (.Expr e pos) (tS c W G0 H0 (dropS f)) :=
  (ps_expr h hs).imp fun D' σ H h => tS.expr (f := f) (k := fun _ ρ δ1 => .ok (.nx, ρ) δ1) h fun ρ d δ1 G1 H1 s p1 v rv => PostS.okIn p1 s
theorem ps_ifD {t : Expr} {a b : List Stmt} {pos : Pos} {ft : RX Bool} {f g : RS} (ht : PT X t (tT c W ft)) (ha : PSs X a (tS c W G0 H0 f)) (hb : PSs X b (tS c W G0 H0 g)) : PS X (.If t a b pos) (tS c W G0 H0 (ifS ft f g)) :=
  (ps_if ht ha hb).imp fun D' σ H h => tS.expr (f := ft) (k := fun b ρ δ1 => if b then f ρ δ1 else g ρ δ1) h fun ρ b δ1 G1 H1 s p1 => by
    cases b with
    | true => exact ⟨ρ, δ1, G1, s, p1⟩
    | false => exact ⟨ρ, δ1, G1, s, p1⟩

/-! ### while -/
def whS (t : RX Bool) (f : RS) : Nat → RS
  | 0, _, _ => .no
  | n + 1, ρ, δ => (t ρ δ).bind fun b δ1 => if b then (f ρ δ1).bind fun p δ2 => match p.1 with
      | .nx => whS t f n p.2 δ2
      | .ct => whS t f n p.2 δ2
      | .bk => .ok (.nx, p.2) δ2
      | .rt d => .ok (.rt d, p.2) δ2
    else .ok (.nx, ρ) δ1
theorem tS.while_ {t : RX Bool} {f : RS} {n : Nat} {D' : Ends} {σ : L2.St} {H : Hp} (h : tS c W G0 H0 (whS t f n) D' σ H) : tWhile (tT c W t) (tS c W G0 H0 f) D' σ H := by
  refine ⟨fun m σ H => tS c W G0 H0 (whS t f m) D' σ H, ⟨n, h⟩, fun m σ H hm => ?_⟩
  cases m with
  | zero => obtain ⟨_, _, _, _, p⟩ := hm; exact p.elim
  | succ m =>
    refine tS.expr (f := t) (k := fun b ρ δ1 => if b then (f ρ δ1).bind fun p δ2 => match p.1 with
      | .nx => whS t f m p.2 δ2
      | .ct => whS t f m p.2 δ2
      | .bk => .ok (.nx, p.2) δ2
      | .rt d => .ok (.rt d, p.2) δ2
    else .ok (.nx, ρ) δ1) hm fun ρ b δ1 G1 H1 s p1 => ?_
    cases b with
    | false => exact PostS.okIn p1 s
    | true =>
      simp only [if_true] at p1 ⊢
      refine ⟨fun σ' H' => tS c W G0 H0 (whS t f m) D' σ' H', fun σ' H' z => ⟨m, Nat.lt_succ_self _, z⟩, ρ, δ1, G1, s, ?_⟩
      cases e : f ρ δ1 with
      | ok q δ2 =>
        obtain ⟨fl, ρ1⟩ := q
        rw [e] at p1
        simp only [Res.bind_ok] at p1
        intro σ' G' H' s' x
        cases fl with
        | nx => exact ⟨ρ1, δ2, G', s', PostS.later p1 x⟩
        | ct => exact ⟨ρ1, δ2, G', s', PostS.later p1 x⟩
        | bk => exact p1 σ' G' H' s' x
        | rt d => exact p1 σ' G' H' s' x
      | er k d δ2 => rw [e] at p1; exact p1
      | no => rw [e] at p1; exact p1.elim
theorem ps_whileD {t : Expr} {body : List Stmt} {pos : Pos} {ft : RX Bool} {f : RS} (n : Nat) (hp : PassesOwn (model X.prog X.w) X.A X.env X.xe) (ht : PT X t (tT c W ft)) (hb : PSs X body (tS c W G0 H0 f)) : PS X (.While t body [] pos) (tS c W G0 H0 (whS ft f n)) :=
  (ps_while hp ht hb).imp fun _ _ _ h => tS.while_ h

/-! ### for -/
def floop (p : Pat) (f : RS) : List D → RS
  | [], ρ, δ => .ok (.nx, ρ) δ
  | d :: ds, ρ, δ => match bindP p d ρ with
    | none => .no
    | some ρ2 => (f ρ2 δ).bind fun q δ1 => match q.1 with
      | .nx => floop p f ds q.2 δ1
      | .ct => floop p f ds q.2 δ1
      | .bk => .ok (.nx, q.2) δ1
      | .rt d => .ok (.rt d, q.2) δ1
def forS (fi : RX (List D)) (p : Pat) (f : RS) : RS := fun ρ δ => (fi ρ δ).bind fun ds δ1 => floop p f ds ρ δ1
theorem tS.for_ {fi : RX (List D)} {p : Pat} {f : RS} {D' : Ends} {σ : L2.St} {H : Hp} (h : tS c W G0 H0 (forS fi p f) D' σ H) : tFor (tI ExtS c W fi) (tP c p) (tS c W G0 H0 f) D' σ H := by
  refine tS.expr (f := fi) (k := fun ds ρ δ1 => floop p f ds ρ δ1) h fun ρ ds δ1 G1 H1 s p1 J yj => ?_
  refine ⟨fun i m σ H' => m = ds.length - i ∧ i ≤ ds.length ∧ ∃ ρ δ G', St4 c G0 H0 G' H' σ ρ δ ∧ ExtS G1 H1 G' H' ∧ PostS c W G0 H0 D' G' H' (floop p f (ds.drop i) ρ δ), ⟨ds.length, by simp, Nat.zero_le _, ρ, δ1, G1, s, ExtS.refl, by simpa using p1⟩, ?_⟩
  rintro i m σ1 H' ⟨rfl, hi, ρ', δ', G', s', xs, pp⟩
  by_cases hlt : i < ds.length
  · obtain ⟨hgo, hy⟩ := yj.go i ds[i] G' H' xs (List.getElem?_eq_getElem hlt)
    refine .inr ⟨hgo, fun σ2 H'' => ∃ ρ δ G', St4 c G0 H0 G' H'' σ2 ρ δ ∧ ExtS G1 H1 G' H'' ∧ PostS c W G0 H0 D' G' H'' (floop p f (ds.drop (i + 1)) ρ δ), fun σ2 H'' z => ⟨ds.length - (i + 1), by omega, rfl, hlt, z⟩, fun x H3 hx => ?_⟩
    obtain ⟨xn, rx⟩ := hy x H3 hx
    have x3 : Ext G' H' G' H3 := Ext.ofN xn
    have s3 : St4 c G0 H0 G' H3 σ1 ρ' δ' := s'.ext x3 (s'.dr.new xn)
    rw [List.drop_eq_getElem_cons hlt] at pp
    unfold floop at pp
    split at pp
    · exact pp.elim
    · rename_i ρ2 hb
      refine ⟨G', ρ', ds[i], ρ2, s3.sr, rx, hb, fun σ2 s2 h1 h2 => ?_⟩
      have pp := PostS.later pp x3.toS
      refine ⟨ρ2, δ', G', ⟨s2, s3.dr, s3.x, own_bind s3.on hb h1⟩, ?_⟩
      cases e : f ρ2 δ' with
      | ok q δ2 =>
        obtain ⟨fl, ρ1⟩ := q
        rw [e] at pp
        simp only [Res.bind_ok] at pp
        intro σ' G'' H'' s'' x
        have xx := (xs.trans x3.toS).trans x
        cases fl with
        | nx => exact ⟨ρ1, δ2, G'', s'', xx, PostS.later pp x⟩
        | ct => exact ⟨ρ1, δ2, G'', s'', xx, PostS.later pp x⟩
        | bk => exact pp σ' G'' H'' s'' x
        | rt d => exact pp σ' G'' H'' s'' x
      | er k d δ2 => rw [e] at pp; exact pp
      | no => rw [e] at pp; exact pp.elim
  · have ei : i = ds.length := by omega
    subst ei
    rw [List.drop_length] at pp
    exact .inl ⟨yj.stop G' H' xs, PostS.okIn pp s'⟩
theorem ps_forD {tg iter : Expr} {body : List Stmt} {pos : Pos} {fi : RX (List D)} {p : Pat} {f : RS} (hp : PassesOwn (model X.prog X.w) X.A X.env X.xe) (hc : X.calm = true) (hi : PI X tg iter (tI ExtS c W fi)) (hg : PG X tg (tP c p)) (hb : PSs X body (tS c W G0 H0 f)) (hs : ∀ x, foldedSetIterable iter X.env x = pure x) :
    PS X (.For tg iter body [] pos) (tS c W G0 H0 (forS fi p f)) := (ps_for hp hc hi hg hb hs).imp fun _ _ _ h => tS.for_ h
end
end Pv
set_option maxRecDepth 100000
set_option maxHeartbeats 1000000
/-! PvH: own lists, the small heap, several targets; defs and their calls -/
namespace Pv
open PySem PySem.Spec PyProof.Rows L2
section
variable {X : Cx} {c : Cn} {W : L2.St → WE} {G0 : List Addr} {H0 : Hp}

/-! ### an expression that makes a new list -/
def tN (c : Cn) (W : L2.St → WE) (f : RX (List D)) : TE := fun σ H Q => tG c W f σ H fun xs G' H' => ∀ p vs, H' p = none → RelL c G' H' xs vs → Q (.ref p) (upd H' p (.lst vs))
def lstN (f : RX (List D)) : RX (List D) := fun ρ δ => (f ρ δ).bind fun ds δ1 => if ds.length ≤ cap && ds.all D.strong then .ok ds δ1 else .no
theorem pe_lstN {es : List Expr} {pos : Pos} {f : RX (List D)} (h : PA X es (tA c W f)) : PE X (.List es pos) (tN c W (lstN f)) :=
  (pe_lst h).imp fun σ H Q h => by
    refine tG.first (f := f) (k := fun ds ρ δ1 => if ds.length ≤ cap && ds.all D.strong then .ok ds δ1 else .no) h fun ρ ds δ1 G1 H1 a1 p1 vs rv => ?_
    by_cases hh : (ds.length ≤ cap && ds.all D.strong) = true
    · rw [if_pos hh] at p1
      simp only [Bool.and_eq_true, decide_eq_true_eq] at hh
      refine ⟨by rw [rv.length, cap_eq]; exact hh.1, fun p np => ?_⟩
      exact Post.okIn p1 a1.dr p vs np (rv.strong hh.2)
    · rw [if_neg hh] at p1
      exact p1.elim
def ofList (f : RX (List D)) : RX (List D) := fun ρ δ => (f ρ δ).bind fun ds δ1 => match ds with
  | [d] => ofO (seqD d) δ1
  | _ => .no
theorem pe_listN {x : Str} {p pos : Pos} {e : Expr} {f : RX (List D)} (hc : X.K = c.K) (ha : PA X [e] (tA c W f)) (h : ∀ {t : TA} {r : List V → Hp → VK → Prop}, CallR X (.type "list") r → PA X [e] t → PE X (.Call (.Name x p) [e] [] pos) (tCB r t)) : PE X (.Call (.Name x p) [e] [] pos) (tN c W (ofList f)) :=
  (h call_list_of ha).imp fun σ H Q h => by
    refine tG.first (f := f) (k := fun ds ρ δ1 => match ds with
      | [d] => ofO (seqD d) δ1
      | _ => .no) h fun ρ ds δ1 G1 H1 a1 p1 vs rv => ?_
    split at p1
    · rename_i d
      obtain ⟨xs, e, p2⟩ := Post.ofO p1
      obtain ⟨v, rfl, rv1⟩ := RelA.one rv
      obtain ⟨a, ws, rfl, hp, ra⟩ := rv1.seq e
      exact ⟨a, ws, rfl, by rw [hc]; exact hp, fun l nl => Post.okIn p2 a1.dr l ws nl ra⟩
    · exact p1.elim
theorem tN.mono {f : RX (List D)} {σ : L2.St} {H : Hp} {Q Q' : VK} (h : tN c W f σ H Q) (i : ∀ x H1, Q x H1 → Q' x H1) : tN c W f σ H Q' := by
  obtain ⟨ρ, δ, G, s, d, p⟩ := h
  exact ⟨ρ, δ, G, s, d, p.mono fun a G' H' _ q p' vs n r => i _ _ (q p' vs n r)⟩

/-! ### an own list is stored -/
theorem SR.own {G : List Addr} {H : Hp} {σ : L2.St} {ρ : List Sl} (s : SR c G H σ ρ) {i : Nat} {p : Addr} {xs : List D} {vs : List V} (hi : i < ρ.length) (no : NoOwn σ ρ p) (h : H p = some (.lst vs)) (n : p ∉ G) (r : RelL c G H xs vs) :
    SR c G H (σ.set i (some (.ref p))) (ρ.set i (.own xs)) := by
  refine ⟨by rw [List.length_set, List.length_set, s.len], fun j l hl => ?_, fun j k l l' a h1 o1 h2 o2 e1 e2 => ?_⟩
  · by_cases hj : i = j
    · subst hj
      rw [List.getElem?_set_self hi] at hl
      cases hl
      exact ⟨p, vs, by rw [List.getElem?_set_self (by rw [s.len]; exact hi)], h, n, r⟩
    · rw [List.getElem?_set_ne hj] at hl
      have q := s.sl j l hl
      cases l with
      | no => trivial
      | v d' => obtain ⟨a, b, e, z⟩ := q; exact ⟨a, b, by rw [List.getElem?_set_ne hj]; exact e, z⟩
      | own xs => obtain ⟨a, b, e, z⟩ := q; exact ⟨a, b, by rw [List.getElem?_set_ne hj]; exact e, z⟩
      | ownd t ks vs => obtain ⟨a, u, ws, e, z⟩ := q; exact ⟨a, u, ws, by rw [List.getElem?_set_ne hj]; exact e, z⟩
  · by_cases n1 : i = j
    · subst n1
      rw [List.getElem?_set_self (by rw [s.len]; exact hi)] at e1
      cases e1
      by_cases n2 : i = k
      · exact n2
      · rw [List.getElem?_set_ne n2] at h2 e2
        exact absurd e2 (no k l' h2 o2)
    · rw [List.getElem?_set_ne n1] at h1 e1
      by_cases n2 : i = k
      · subst n2
        rw [List.getElem?_set_self (by rw [s.len]; exact hi)] at e2
        cases e2
        exact absurd e1 (no j l h1 o1)
      · rw [List.getElem?_set_ne n2] at h2 e2
        exact s.sep j k l l' a h1 o1 h2 o2 e1 e2
theorem DR.newAt {G : List Addr} {H : Hp} {δ : List Bx} (d : DR c G H δ) {p : Addr} (np : H p = none) : p ∉ G := fun z => by
  obtain ⟨x, e, _⟩ := d.at z
  rw [np] at e; cases e
theorem OwnNew.set {σ : L2.St} {ρ : List Sl} {i : Nat} {p : Addr} {l0 : Sl} (o : OwnNew H0 σ ρ) (hl : σ.length = ρ.length) (hp : H0 p = none) : OwnNew H0 (σ.set i (some (.ref p))) (ρ.set i l0) := fun j l a h1 h2 h3 => by
  by_cases hj : i = j
  · subst hj
    have hi : i < ρ.length := by
      have := (List.getElem?_eq_some_iff.mp h1).1
      simpa using this
    rw [List.getElem?_set_self (by rw [hl]; exact hi)] at h3
    cases h3
    exact hp
  · rw [List.getElem?_set_ne hj] at h1 h3
    exact o j l a h1 h2 h3
def newS (i : Nat) (f : RX (List D)) : RS := fun ρ δ => (f ρ δ).bind fun xs δ1 => if i < ρ.length then .ok (.nx, ρ.set i (.own xs)) δ1 else .no
theorem St4.fresh {G : List Addr} {H : Hp} {σ : L2.St} {ρ : List Sl} {δ : List Bx} (s : St4 c G0 H0 G H σ ρ δ) {p : Addr} (np : H p = none) : H0 p = none := by
  cases q : H0 p with
  | none => rfl
  | some o => exact absurd np (s.x.live p (by rw [q]; exact Option.some_ne_none o))
theorem tS.new {i : Nat} {f : RX (List D)} {D' : Ends} {σ : L2.St} {H : Hp} (h : tS c W G0 H0 (newS i f) D' σ H) : tAsg (tN c W f) (gName i) D' σ H := by
  refine tS.expr (f := f) (k := fun xs ρ δ1 => if i < ρ.length then .ok (.nx, ρ.set i (.own xs)) δ1 else .no) h fun ρ xs δ1 G1 H1 s p1 p vs np r => ?_
  by_cases hi : i < ρ.length
  · rw [if_pos hi] at p1
    have xn := ExtN.upd (o := .lst vs) np
    have x := Ext.ofN (G := G1) xn
    have s1 := s.ext x (s.dr.new xn)
    refine p1 (σ.set i (some (.ref p))) G1 _ ⟨s1.sr.own hi ?_ upd_same (s.dr.newAt np) (RelL.extS x.toS r), s1.dr, s1.x, s1.on.set s.sr.len (s.fresh np)⟩ x.toS
    exact NoOwn.new s.sr np
  · rw [if_neg hi] at p1; exact p1.elim
theorem ps_newD {i : Nat} {x : Str} {e : Expr} {pos pos' : Pos} {f : RX (List D)} (hN : X.N.Nodup) (hi : X.N[i]? = some x) (hx : Loc X.env.scope x) (he : PE X e (tN c W f)) (hs : swapsWith e (some (.Name x pos')) pos.line X.env = pure false) (hf : X.fn x = true ∨ X.env.scope.names.lookup x = some .local) :
    PS X (.Assign [.Name x pos'] e pos) (tS c W G0 H0 (newS i f)) := (ps_set hN hi hx he hs hf).imp fun _ _ _ h => tS.new h

/-! ### an own list is changed -/
def ownAt (ρ : List Sl) (i : Nat) : Option (List D) := match ρ[i]? with
  | some (.own xs) => some xs
  | _ => none
theorem SR.ownAt {G : List Addr} {H : Hp} {σ : L2.St} {ρ : List Sl} (s : SR c G H σ ρ) {i : Nat} {xs : List D} (h : Pv.ownAt ρ i = some xs) : ρ[i]? = some (.own xs) ∧ ∃ a vs, σ[i]? = some (some (.ref a)) ∧ H a = some (.lst vs) ∧ a ∉ G ∧ RelL c G H xs vs := by
  unfold Pv.ownAt at h
  split at h
  · rename_i ys e
    cases h
    exact ⟨e, s.sl i _ e⟩
  · cases h
/-- the own list at slot i becomes another -/
theorem SR.chg {G : List Addr} {H : Hp} {σ : L2.St} {ρ : List Sl} (s : SR c G H σ ρ) {i : Nat} {a : Addr} {xs ys : List D} {vs ws : List V} (e : ρ[i]? = some (.own xs)) (ea : σ[i]? = some (some (.ref a))) (h : H a = some (.lst vs)) (n : a ∉ G) (r : RelL c G H ys ws) :
    SR c G (L2.upd H a (.lst ws)) σ (ρ.set i (.own ys)) := by
  have hi : i < ρ.length := (List.getElem?_eq_some_iff.mp e).1
  have xs2 : ExtS G H G (L2.upd H a (.lst ws)) := ⟨⟨[], by simp⟩, fun b u hu f => by
    have : b ≠ a := fun z => by subst z; rw [h] at hu; cases hu; exact f
    rw [upd_ne this]; exact hu⟩
  refine ⟨by rw [List.length_set, s.len], fun j l hl => ?_, fun j k l l' b h1 o1 h2 o2 e1 e2 => ?_⟩
  · by_cases hj : i = j
    · subst hj
      rw [List.getElem?_set_self hi] at hl
      cases hl
      exact ⟨a, ws, ea, upd_same, n, RelL.extS xs2 r⟩
    · rw [List.getElem?_set_ne hj] at hl
      have q := s.sl j l hl
      cases l with
      | no => trivial
      | v d' => obtain ⟨st, b, e, z⟩ := q; exact ⟨st, b, e, Rel.extS xs2 st z⟩
      | own zs =>
        obtain ⟨b, us, e1, h1, h2, h3⟩ := q
        have nb : b ≠ a := fun z => by
          subst z
          exact hj (s.sep i j _ _ b e rfl hl rfl ea e1)
        exact ⟨b, us, e1, by rw [upd_ne nb]; exact h1, h2, RelL.extS xs2 h3⟩
      | ownd t ks vs =>
        obtain ⟨b, u, us, e1, h1, h2, h3, h4⟩ := q
        have nb : b ≠ a := fun z => by
          subst z
          exact hj (s.sep i j _ _ b e rfl hl rfl ea e1)
        exact ⟨b, u, us, e1, by rw [upd_ne nb]; exact h1, h2, h3, RelL.extS xs2 h4⟩
  · have f : ∀ {k : Nat} {l : Sl}, (ρ.set i (.own ys))[k]? = some l → l.isOwn = true → ∃ l', ρ[k]? = some l' ∧ l'.isOwn = true := fun {k l} hk ho => by
      by_cases hj : i = k
      · subst hj; exact ⟨_, e, rfl⟩
      · rw [List.getElem?_set_ne hj] at hk; exact ⟨l, hk, ho⟩
    obtain ⟨m, h1, o1⟩ := f h1 o1
    obtain ⟨m', h2, o2⟩ := f h2 o2
    exact s.sep j k m m' b h1 o1 h2 o2 e1 e2
theorem DR.chg {G : List Addr} {H : Hp} {δ : List Bx} (d : DR c G H δ) {a : Addr} {vs ws : List V} (h : H a = some (.lst vs)) (n : a ∉ G) : DR c G (upd H a (.lst ws)) δ :=
  d.push n fun b u hu f z => by subst z; rw [h] at hu; cases hu; exact f
theorem St4.chg {G : List Addr} {H : Hp} {σ : L2.St} {ρ : List Sl} {δ : List Bx} (s : St4 c G0 H0 G H σ ρ δ) {i : Nat} {a : Addr} {xs ys : List D} {vs ws : List V} (e : ρ[i]? = some (.own xs)) (ea : σ[i]? = some (some (.ref a))) (h : H a = some (.lst vs)) (n : a ∉ G) (r : RelL c G H ys ws) :
    St4 c G0 H0 G (upd H a (.lst ws)) σ (ρ.set i (.own ys)) δ ∧ ExtS G H G (upd H a (.lst ws)) := by
  have hi : i < ρ.length := (List.getElem?_eq_some_iff.mp e).1
  refine ⟨⟨s.sr.chg e ea h n r, s.dr.chg h n, s.x.push (s.on i _ a e rfl ea), fun j l b h1 o1 h2 => ?_⟩, ⟨⟨[], by simp⟩, fun b u hu f => by
    have : b ≠ a := fun z => by subst z; rw [h] at hu; cases hu; exact f
    rw [upd_ne this]; exact hu⟩⟩
  by_cases hj : i = j
  · subst hj; exact s.on i _ b e rfl h2
  · rw [List.getElem?_set_ne hj] at h1
    exact s.on j l b h1 o1 h2
def appS (i : Nat) (f : RX D) : RS := fun ρ δ => match ownAt ρ i with
  | none => .no
  | some xs => (f ρ δ).bind fun d δ1 => if d.strong && decide (xs.length < cap) then .ok (.nx, ρ.set i (.own (xs ++ [d]))) δ1 else .no
theorem St4.post {α : Type} {f : RX α} {k : α → List Sl → List Bx → Res (Fl × List Sl)} {D' : Ends} {σ : L2.St} {G : List Addr} {H : Hp} {ρ : List Sl} {δ : List Bx} {R : α → List Addr → Hp → Prop} (s : St4 c G0 H0 G H σ ρ δ)
    (p : PostS c W G0 H0 D' G H ((f ρ δ).bind fun a δ1 => k a ρ δ1)) (hR : ∀ a δ1 G1 H1, Ext G H G1 H1 → St4 c G0 H0 G1 H1 σ ρ δ1 → PostS c W G0 H0 D' G1 H1 (k a ρ δ1) → R a G1 H1) : Post c (W σ) G H (f ρ δ) R := by
  cases e : f ρ δ with
  | ok a δ1 =>
    rw [e] at p
    intro G' H' x d
    exact hR a δ1 G' H' x (s.ext x d) (PostS.later (r := k a ρ δ1) p x.toS)
  | er k d δ1 =>
    rw [e] at p
    exact fun G' H' x d => p σ G' H' (s.x.trans x) d
  | no => rw [e] at p; exact p.elim
theorem tS.app {i : Nat} {f : RX D} {K : PySem.W.Frag} {D' : Ends} {σ : L2.St} {H : Hp} (h : tS c W G0 H0 (appS i f) D' σ H) : tDrop (tBM K "list" rAppend (tVar i) (tCons (tD c W f) tNil)) D' σ H := by
  obtain ⟨ρ, δ, G, s, p⟩ := h
  unfold appS at p
  split at p
  · exact p.elim
  · rename_i xs ho
    obtain ⟨eo, a, vs, ea, hA, nG, ra⟩ := s.sr.ownAt ho
    refine ⟨.ref a, ea, .inl ⟨rfl, vs, .inl (.inl hA)⟩, ρ, δ, G, s.sr, s.dr, ?_⟩
    refine s.post (k := fun d ρ δ1 => if d.strong && decide (xs.length < cap) then .ok (.nx, ρ.set i (.own (xs ++ [d]))) δ1 else .no) p fun d δ1 G1 H1 x s1 p1 v rv => ?_
    split at p1
    · rename_i hh
      simp only [Bool.and_eq_true, decide_eq_true_eq] at hh
      have hA1 := x.keep _ _ hA nG
      have nG1 := x.notMem hA nG
      refine ⟨a, vs, v, rfl, rfl, hA1, by rw [ra.length, cap_eq]; exact hh.2, ?_⟩
      obtain ⟨s2, xs2⟩ := s1.chg (ys := xs ++ [d]) (ws := vs ++ [v]) eo ea hA1 nG1 ((RelL.extS x.toS ra).append (by simp only [RelL]; exact ⟨v, [], rfl, hh.1, rv, rfl⟩))
      exact p1 σ G1 _ s2 xs2
    · exact p1.elim
/-- x.extend(..) -/
def rExtendR : V → List V → Hp → VK → Prop := fun x vs H Q => ∃ l b xs zs, x = .ref l ∧ vs = [.ref b] ∧ H l = some (.lst xs) ∧ Rd H b (.lst zs) ∧ xs.length + zs.length ≤ sizeLine ∧ Q .non (upd H l (.lst (xs ++ zs)))
theorem mt_extendR : MtM X "list.extend" rExtendR := by
  intro pins s σ H x vs v us Q I rx rv h
  obtain ⟨l, b, xs, zs, rfl, rfl, hH, hB, hz, q⟩ := h
  cases rx
  obtain ⟨u, rfl, ru⟩ := rv.one
  cases ru
  obtain ⟨z, its, n, r, hl, e⟩ := I.lstM hH
  obtain ⟨z2, its2, n2, r2, e2⟩ := hB.ok I.hok
  have hl2 := r2.length
  have hsz : its.toArray.size + its2.toArray.size ≤ sizeLine := by rw [List.size_toArray, List.size_toArray]; omega
  have hlong : ¬ (!its.toArray.isEmpty && Builtin.List.listTooLong (its.toArray.size + its2.toArray.size)) = true := by
    rw [notLongL hsz, Bool.and_false]
    exact Bool.false_ne_true
  refine call_meets F.slot_list_extend ⟨_, e, rfl⟩ F.entry_list_extend (F.args_list_extend_2 _ _)
    (AutoSeq1.list_extend_list_list_0 l its.toArray n b its2.toArray n2 hlong (by rw [List.size_toArray]; omega) (by omega)) ⟨e, e2, ?_⟩
  refine ⟨.non, _, I.lset (its' := its ++ its2) hH e (by simp) (r.append r2) ?_, rfl, q⟩
  rw [List.length_append]
  omega
def extS (i : Nat) (f : RX D) : RS := fun ρ δ => match ownAt ρ i with
  | none => .no
  | some xs => (f ρ δ).bind fun d δ1 => match d with
    | .lst ys => if xs.length + ys.length ≤ cap then .ok (.nx, ρ.set i (.own (xs ++ ys))) δ1 else .no
    | _ => .no
theorem tS.extend {i : Nat} {f : RX D} {K : PySem.W.Frag} {D' : Ends} {σ : L2.St} {H : Hp} (h : tS c W G0 H0 (extS i f) D' σ H) : tDrop (tBM K "list" rExtendR (tVar i) (tCons (tD c W f) tNil)) D' σ H := by
  obtain ⟨ρ, δ, G, s, p⟩ := h
  unfold extS at p
  split at p
  · exact p.elim
  · rename_i xs ho
    obtain ⟨eo, a, vs, ea, hA, nG, ra⟩ := s.sr.ownAt ho
    refine ⟨.ref a, ea, .inl ⟨rfl, vs, .inl (.inl hA)⟩, ρ, δ, G, s.sr, s.dr, ?_⟩
    refine s.post (k := fun d ρ δ1 => match d with
      | .lst ys => if xs.length + ys.length ≤ cap then .ok (.nx, ρ.set i (.own (xs ++ ys))) δ1 else .no
      | _ => .no) p fun d δ1 G1 H1 x s1 p1 v rv => ?_
    split at p1
    · rename_i ys
      split at p1
      · rename_i hh
        have hA1 := x.keep _ _ hA nG
        have nG1 := x.notMem hA nG
        simp only [Rel] at rv
        obtain ⟨b, o, ws, rfl, hb, rb⟩ := rv
        refine ⟨a, b, vs, ws, rfl, rfl, hA1, .inr ⟨o, hb⟩, by rw [ra.length, rb.length, cap_eq]; exact hh, ?_⟩
        obtain ⟨s2, xs2⟩ := s1.chg (ys := xs ++ ys) (ws := vs ++ ws) eo ea hA1 nG1 ((RelL.extS x.toS ra).append rb)
        exact p1 σ G1 _ s2 xs2
      · exact p1.elim
    · exact p1.elim
/-- an own list is made fixed (nothing stands for it in the text) -/
def frzS (i : Nat) : RS := fun ρ δ => match ownAt ρ i with
  | none => .no
  | some xs => .ok (.nx, ρ.set i (.v (.lst xs))) δ
theorem frz_state {G : List Addr} {H : Hp} {σ : L2.St} {ρ : List Sl} {δ : List Bx} (s : St4 c G0 H0 G H σ ρ δ) {i : Nat} {a : Addr} {xs : List D} {vs : List V} (e : ρ[i]? = some (.own xs)) (ea : σ[i]? = some (some (.ref a))) (h : H a = some (.lst vs)) (n : a ∉ G) (r : RelL c G H xs vs) (o : Obj) :
    St4 c G0 H0 G (upd H a (.frz o (.lst vs))) σ (ρ.set i (.v (.lst xs))) δ ∧ ExtS G H G (upd H a (.frz o (.lst vs))) := by
  have hi : i < ρ.length := (List.getElem?_eq_some_iff.mp e).1
  have xs2 : ExtS G H G (upd H a (.frz o (.lst vs))) := ⟨⟨[], by simp⟩, fun b u hu f => by
    have : b ≠ a := fun z => by subst z; rw [h] at hu; cases hu; exact f
    rw [upd_ne this]; exact hu⟩
  refine ⟨⟨⟨by rw [List.length_set, s.sr.len], fun j l hl => ?_, fun j k l l' b h1 o1 h2 o2 e1 e2 => ?_⟩, s.dr.push n fun b u hu f z => by subst z; rw [h] at hu; cases hu; exact f, s.x.push (s.on i _ a e rfl ea), fun j l b h1 o1 h2 => ?_⟩, xs2⟩
  · by_cases hj : i = j
    · subst hj
      rw [List.getElem?_set_self hi] at hl
      cases hl
      exact ⟨rfl, _, ea, by simp only [Rel]; exact ⟨a, o, vs, rfl, upd_same, RelL.extS xs2 r⟩⟩
    · rw [List.getElem?_set_ne hj] at hl
      have q := s.sr.sl j l hl
      cases l with
      | no => trivial
      | v d' => obtain ⟨st, b, e, z⟩ := q; exact ⟨st, b, e, Rel.extS xs2 st z⟩
      | own zs =>
        obtain ⟨b, us, e1, h1, h2, h3⟩ := q
        have nb : b ≠ a := fun z => by
          subst z
          exact hj (s.sr.sep i j _ _ b e rfl hl rfl ea e1)
        exact ⟨b, us, e1, by rw [upd_ne nb]; exact h1, h2, RelL.extS xs2 h3⟩
      | ownd t ks vs =>
        obtain ⟨b, u, us, e1, h1, h2, h3, h4⟩ := q
        have nb : b ≠ a := fun z => by
          subst z
          exact hj (s.sr.sep i j _ _ b e rfl hl rfl ea e1)
        exact ⟨b, u, us, e1, by rw [upd_ne nb]; exact h1, h2, h3, RelL.extS xs2 h4⟩
  · have n1 : i ≠ j := by
      intro z; subst z
      rw [List.getElem?_set_self hi] at h1; cases h1; cases o1
    have n2 : i ≠ k := by
      intro z; subst z
      rw [List.getElem?_set_self hi] at h2; cases h2; cases o2
    rw [List.getElem?_set_ne n1] at h1
    rw [List.getElem?_set_ne n2] at h2
    exact s.sr.sep j k l l' b h1 o1 h2 o2 e1 e2
  · have n1 : i ≠ j := by
      intro z; subst z
      rw [List.getElem?_set_self hi] at h1; cases h1; cases o1
    rw [List.getElem?_set_ne n1] at h1
    exact s.on j l b h1 o1 h2
theorem pss_frzD {sts : List Stmt} {i : Nat} {g : RS} (h : PSs X sts (tS c W G0 H0 g)) : PSs X sts (tS c W G0 H0 (seqS2 (frzS i) g)) := by
  refine ⟨fun pins s σ H D I ⟨ρ, δ, G, st, p⟩ => ?_⟩
  unfold seqS2 frzS at p
  cases ho : ownAt ρ i with
  | none => simp only [ho, Res.bind_no] at p; exact p.elim
  | some xs =>
    simp only [ho, Res.bind_ok] at p
    obtain ⟨eo, a, vs, ea, hA, nG, ra⟩ := st.sr.ownAt ho
    obtain ⟨o, I2⟩ := I.freeze hA
    obtain ⟨s2, xs2⟩ := frz_state st eo ea hA nG ra o
    exact h.run pins s σ _ D I2 ⟨_, δ, G, s2, PostS.later p xs2⟩

/-! ### the small heap: one list that is handed on (the bag) -/
/-- x[k], x an object of the small heap too -/
def idxF (fa fb : RX D) : RX D := fun ρ δ => (fa ρ δ).bind fun x δ1 => (fb ρ δ1).bind fun y δ2 => match x, y with
  | .ref i, .int k => match δ2[i]? with
    | some (.lst xs) => ofO (atI xs k) δ2
    | _ => .no
  | x, y => ofO (dIdx x y) δ2
def rIdx (c : Cn) : R2 := fun x y H Q => rD2 c dIdx x y H Q ∨ ∃ (G : List Addr) (i : Nat) (k : Int) (a : Addr) (vs : List V) (xs : List D) (d : D), y = .int k ∧ x = .ref a ∧ G[i]? = some a ∧ H a = some (.lst vs) ∧ RelL c G H xs vs ∧ atI xs k = some d ∧ ∀ v, Rel c G H d v → Q v H
theorem ix_F (hc : X.K = c.K) : IxR X (rIdx c) := by
  refine ((ix_D hc).or ix_list).imp fun x y H Q h => ?_
  rcases h with h | ⟨G, i, k, a, vs, xs, d, rfl, rfl, _, h1, h2, h3, q⟩
  · exact .inl h
  · obtain ⟨v, e1, _, e3⟩ := atI_rel h2 h3
    exact .inr ⟨a, vs, k, v, rfl, rfl, .inl (.inl h1), e1, q v e3⟩
theorem pe_idxF {a b : Expr} {pos : Pos} {fa fb : RX D} (hc : X.K = c.K) (ha : PE X a (tD c W fa)) (hb : PE X b (tD c W fb)) (hs : PlainIx b) : PE X (.Subscript a b pos) (tD c W (idxF fa fb)) :=
  (pe_ix (ix_F hc) ha hb hs).imp fun σ H Q h => by
    refine tG.first (f := fa) (k := fun x ρ δ1 => (fb ρ δ1).bind fun y δ2 => match x, y with
      | .ref i, .int k => match δ2[i]? with
        | some (.lst xs) => ofO (atI xs k) δ2
        | _ => .no
      | x, y => ofO (dIdx x y) δ2) h fun ρ x δ1 G1 H1 a1 p1 v rv => ?_
    refine ⟨ρ, δ1, G1, a1.sr, a1.dr, (Post.bind p1).mono fun y G2 H2 x2 ⟨δ2, d2, p2⟩ w rw' => ?_⟩
    split at p2
    · rename_i i k _
      split at p2
      · rename_i xs he
        obtain ⟨d, e, p3⟩ := Post.ofO p2
        obtain ⟨a, ea, vs, hA, ra⟩ := d2.ob i _ he
        have rv2 := rv.ext x2
        simp only [Rel] at rv2
        obtain ⟨a', ea', rfl⟩ := rv2
        rw [ea] at ea'
        cases ea'
        exact .inr ⟨G2, i, k, a, vs, xs, d, rw'.int, rfl, ea, hA, ra, e, Post.okIn p3 d2⟩
      · exact p2.elim
    · obtain ⟨d, e, p3⟩ := Post.ofO p2
      exact .inl ⟨G2, _, _, d, rv.ext x2, rw', e, fun z H' xn rz => Post.okN p3 d2 xn z rz⟩
/-- [..] that is to be changed by others: a new object of the small heap -/
def bagF (f : RX (List D)) : RX D := fun ρ δ => (f ρ δ).bind fun ds δ1 => if ds.length ≤ cap && ds.all D.strong then .ok (.ref δ1.length) (δ1 ++ [.lst ds]) else .no
theorem pe_bagD {es : List Expr} {pos : Pos} {f : RX (List D)} (h : PA X es (tA c W f)) : PE X (.List es pos) (tD c W (bagF f)) :=
  (pe_lst h).imp fun σ H Q h => by
    refine tG.first (f := f) (β := D) (k := fun ds ρ δ1 => if ds.length ≤ cap && ds.all D.strong then .ok (D.ref δ1.length) (δ1 ++ [Bx.lst ds]) else .no) h fun ρ ds δ1 G1 H1 a1 p1 vs rv => ?_
    by_cases hh : (ds.length ≤ cap && ds.all D.strong) = true
    · rw [if_pos hh] at p1
      simp only [Bool.and_eq_true, decide_eq_true_eq] at hh
      refine ⟨by rw [rv.length, cap_eq]; exact hh.1, fun p np => ?_⟩
      have nG := a1.dr.newAt np
      have xn := ExtN.upd (o := .lst vs) np
      have x : Ext G1 H1 (G1 ++ [p]) (upd H1 p (.lst vs)) := by
        have x0 := Ext.ofN (G := G1) xn
        exact ⟨⟨[p], rfl, fun a ha => by simp only [List.mem_singleton] at ha; rw [ha]; exact np⟩, x0.keep, x0.fix, x0.live⟩
      have pre : ∀ {d : D} {v : V}, d.strong = true → Rel c G1 H1 d v → Rel c (G1 ++ [p]) (upd H1 p (.lst vs)) d v := fun st r => Rel.extS x.toS st r
      have dr : DR c (G1 ++ [p]) (upd H1 p (.lst vs)) (δ1 ++ [.lst ds]) := by
        refine ⟨by simp [a1.dr.len], ?_, fun i o hi => ?_⟩
        · rw [List.nodup_append]
          exact ⟨a1.dr.nd, by simp, fun a ha b hb => by simp only [List.mem_singleton] at hb; subst hb; exact fun z => nG (z ▸ ha)⟩
        · by_cases hl : i < δ1.length
          · rw [List.getElem?_append_left hl] at hi
            obtain ⟨a, e, r⟩ := a1.dr.ob i o hi
            refine ⟨a, by rw [List.getElem?_append_left (by rw [a1.dr.len]; exact hl)]; exact e, ?_⟩
            cases o with
            | lst xs =>
              obtain ⟨ws, e1, r1⟩ := r
              exact ⟨ws, xn _ _ e1, RelL.extS x.toS r1⟩
            | ins _ _ => exact r.elim
            | tab P q =>
              obtain ⟨rfl, t⟩ := r
              refine ⟨rfl, tab_step t ?_ fun b u e _ => xn _ _ e⟩
              obtain ⟨ps, e, _⟩ := t
              rw [e, xn _ _ e]
          · rw [List.getElem?_append_right (by omega)] at hi
            have hi0 : i = δ1.length := by
              have := (List.getElem?_eq_some_iff.mp hi).1
              simp at this
              omega
            subst hi0
            simp at hi
            subst hi
            refine ⟨p, by rw [List.getElem?_append_right (by rw [a1.dr.len]; exact Nat.le_refl _), a1.dr.len]; simp, vs, upd_same, RelL.extS x.toS (rv.strong hh.2)⟩
      refine p1 _ _ x dr _ ?_
      simp only [Rel]
      exact ⟨p, by rw [← a1.dr.len]; simp, rfl⟩
    · rw [if_neg hh] at p1
      exact p1.elim
/-- an item of the bag is stored: the bag at slot i, its place k -/
def bagAt (ρ : List Sl) (δ : List Bx) (i : Nat) : Option (Nat × List D) := match ρ[i]? with
  | some (.v (.ref b)) => match δ[b]? with
    | some (.lst xs) => some (b, xs)
    | _ => none
  | _ => none
theorem bagAt_rel {G : List Addr} {H : Hp} {σ : L2.St} {ρ : List Sl} {δ : List Bx} (s : SR c G H σ ρ) (d : DR c G H δ) {i b : Nat} {xs : List D} (h : bagAt ρ δ i = some (b, xs)) :
    ∃ a vs, σ[i]? = some (some (.ref a)) ∧ G[b]? = some a ∧ H a = some (.lst vs) ∧ RelL c G H xs vs ∧ δ[b]? = some (.lst xs) := by
  unfold bagAt at h
  split at h
  · rename_i b' e
    split at h
    · rename_i ys e2
      cases h
      obtain ⟨_, v, e3, r⟩ := s.sl i _ e
      simp only [Rel] at r
      obtain ⟨a, ea, rfl⟩ := r
      obtain ⟨a', ea', vs, hA, ra⟩ := d.ob b _ e2
      rw [ea] at ea'
      cases ea'
      exact ⟨a, vs, e3, ea, hA, ra, e2⟩
    · cases h
  · cases h
theorem ixN_lt {n : Nat} {i : Int} {j : Nat} (h : ixN n i = some j) : j < n := (ixN_seq h).2.1
theorem bag_set {G : List Addr} {H : Hp} {σ : L2.St} {ρ : List Sl} {δ : List Bx} (s : St4 c G0 H0 G H σ ρ δ) {a : Addr} {b j : Nat} {xs : List D} {vs : List V} {d : D} {v : V} (ea : G[b]? = some a) (hA : H a = some (.lst vs)) (ra : RelL c G H xs vs) (e : δ[b]? = some (.lst xs)) (st : d.strong = true) (rv : Rel c G H d v) :
    St4 c G0 H0 G (upd H a (.lst (vs.set j v))) σ ρ (δ.set b (.lst (xs.set j d))) ∧ Ext G H G (upd H a (.lst (vs.set j v))) := by
  have aG : a ∈ G := List.mem_of_getElem? ea
  have x : Ext G H G (upd H a (.lst (vs.set j v))) := by
    refine ⟨⟨[], by simp⟩, fun b u hu n => ?_, fun b u hu f => ?_, fun b hb => ?_⟩
    · have : b ≠ a := fun z => n (z ▸ aG)
      rw [upd_ne this]; exact hu
    · have : b ≠ a := fun z => by subst z; rw [hA] at hu; cases hu; exact f
      rw [upd_ne this]; exact hu
    · by_cases z : b = a
      · subst z; rw [upd_same]; exact Option.some_ne_none _
      · rw [upd_ne z]; exact hb
  have hb : b < δ.length := (List.getElem?_eq_some_iff.mp e).1
  refine ⟨s.ext x ⟨by rw [List.length_set]; exact s.dr.len, s.dr.nd, fun i o hi => ?_⟩, x⟩
  by_cases hj : b = i
  · subst hj
    rw [List.getElem?_set_self hb] at hi
    cases hi
    exact ⟨a, ea, _, upd_same, RelL.set st (Rel.ext x rv) j (RelL.extS x.toS ra)⟩
  · rw [List.getElem?_set_ne hj] at hi
    obtain ⟨a', e', r'⟩ := s.dr.ob i o hi
    have na : a' ≠ a := fun z => by
      subst z
      have h1 := (List.getElem?_eq_some_iff.mp ea)
      have h2 := (List.getElem?_eq_some_iff.mp e')
      obtain ⟨l1, q1⟩ := h1
      obtain ⟨l2, q2⟩ := h2
      exact hj ((List.getElem_inj s.dr.nd).mp (q1.trans q2.symm))
    refine ⟨a', e', ?_⟩
    cases o with
    | lst ys =>
      obtain ⟨ws, e1, r1⟩ := r'
      exact ⟨ws, by rw [upd_ne na]; exact e1, RelL.extS x.toS r1⟩
    | ins _ _ => exact r'.elim
    | tab P q =>
      obtain ⟨rfl, t⟩ := r'
      exact ⟨rfl, tab_step t (upd_ne na) x.fix⟩
def bagS (i : Nat) (k : Int) (f : RX D) : RS := fun ρ δ => (f ρ δ).bind fun d δ1 => match bagAt ρ δ1 i with
  | none => .no
  | some (b, xs) => match ixN xs.length k with
    | none => .no
    | some j => if d.strong then .ok (.nx, ρ) (δ1.set b (.lst (xs.set j d))) else .no
theorem tS.bag {i : Nat} {k : Int} {f : RX D} {D' : Ends} {σ : L2.St} {H : Hp} (h : tS c W G0 H0 (bagS i k f) D' σ H) : tAsg (tD c W f) (gSub (tVar i) (tC (.int k)) rSetL) D' σ H := by
  refine tS.expr (f := f) (k := fun d ρ δ1 => match bagAt ρ δ1 i with
    | none => .no
    | some (b, xs) => match ixN xs.length k with
      | none => .no
      | some j => if d.strong then .ok (.nx, ρ) (δ1.set b (.lst (xs.set j d))) else .no) h fun ρ d δ1 G1 H1 s p1 v rv => ?_
  split at p1
  · exact p1.elim
  · rename_i b xs e
    obtain ⟨a, vs, e1, e2, hA, ra, e3⟩ := bagAt_rel s.sr s.dr e
    split at p1
    · exact p1.elim
    · rename_i j ej
      split at p1
      · rename_i st
        obtain ⟨s2, x2⟩ := bag_set (j := j) s e2 hA ra e3 st rv
        exact ⟨.ref a, e1, a, vs, k, j, rfl, rfl, hA, by rw [ra.length]; exact ej, p1 σ G1 _ s2 x2.toS⟩
      · exact p1.elim
/-- bag[k], name = a pair -/
def bag2S (i : Nat) (k : Int) (m : Nat) (f : RX D) : RS := fun ρ δ => (f ρ δ).bind fun t δ1 => match t with
  | .tup [d, e] => match bagAt ρ δ1 i with
    | none => .no
    | some (b, xs) => match ixN xs.length k with
      | none => .no
      | some j => if d.strong && e.strong && decide (m < ρ.length) then .ok (.nx, ρ.set m (.v e)) (δ1.set b (.lst (xs.set j d))) else .no
  | _ => .no
theorem tS.bag2 {i m : Nat} {k : Int} {f : RX D} {D' : Ends} {σ : L2.St} {H : Hp} (hc : X.K = c.K) (h : tS c W G0 H0 (bag2S i k m f) D' σ H) : tAsg (tD c W f) (gTup X.K 2 (gCons (gSub (tVar i) (tC (.int k)) rSetL) (gCons (gName m) gNil))) D' σ H := by
  refine tS.expr (f := f) (k := fun t ρ δ1 => match t with
    | .tup [d, e] => match bagAt ρ δ1 i with
      | none => .no
      | some (b, xs) => match ixN xs.length k with
        | none => .no
        | some j => if d.strong && e.strong && decide (m < ρ.length) then .ok (.nx, ρ.set m (.v e)) (δ1.set b (.lst (xs.set j d))) else .no
    | _ => .no) h fun ρ t δ1 G1 H1 s p1 v rv => ?_
  split at p1
  · rename_i d e
    obtain ⟨aT, ws, rfl, hT, rT⟩ := rv.tup
    simp only [RelL] at rT
    obtain ⟨v1, r1, rfl, _, h1, v2, r2, rfl, _, h2, rfl⟩ := rT
    split at p1
    · exact p1.elim
    · rename_i b xs eb
      obtain ⟨a, vs, e1, e2, hA, ra, e3⟩ := bagAt_rel s.sr s.dr eb
      split at p1
      · exact p1.elim
      · rename_i j ej
        split at p1
        · rename_i st
          simp only [Bool.and_eq_true, decide_eq_true_eq] at st
          obtain ⟨s2, x2⟩ := bag_set (j := j) s e2 hA ra e3 st.1.1 h1
          refine ⟨aT, [v1, v2], rfl, by rw [hc]; exact hT, rfl, v1, [v2], rfl, .ref a, e1, a, vs, k, j, rfl, rfl, hA, by rw [ra.length]; exact ej, v2, [], rfl, rfl, ?_⟩
          have s3 : SR c G1 _ (σ.set m (some v2)) (ρ.set m (.v e)) := s2.sr.set st.2 st.1.2 (Rel.ext x2 h2)
          refine p1 _ G1 _ ⟨s3, s2.dr, s2.x, fun i' l a' h1' h2' h3' => ?_⟩ x2.toS
          have hm : m ≠ i' := fun z => by
            subst z
            rw [List.getElem?_set_self st.2] at h1'; cases h1'; cases h2'
          rw [List.getElem?_set_ne hm] at h1' h3'
          exact s2.on i' l a' h1' h2' h3'
        · exact p1.elim
  · exact p1.elim
end
end Pv
set_option maxRecDepth 100000
set_option maxHeartbeats 1000000
/-! PvI: several targets at once; defs and their calls -/
namespace Pv
open PySem PySem.Spec PyProof.Rows L2

inductive Im where
  | d (x : D) | o (xs : List D)
def ImL (c : Cn) (G : List Addr) (H : Hp) : List Im → List V → List Addr → Prop
  | [], vs, ps => vs = [] ∧ ps = []
  | .d x :: ms, vs, ps => ∃ v r, vs = v :: r ∧ x.strong = true ∧ Rel c G H x v ∧ ImL c G H ms r ps
  | .o xs :: ms, vs, ps => ∃ p w r qs, vs = .ref p :: r ∧ ps = p :: qs ∧ H p = some (.lst w) ∧ p ∉ G ∧ RelL c G H xs w ∧ p ∉ qs ∧ ImL c G H ms r qs
theorem ImL.ext {c : Cn} {G G' : List Addr} {H H' : Hp} (x : Ext G H G' H') : ∀ {ms : List Im} {vs : List V} {ps : List Addr}, ImL c G H ms vs ps → ImL c G' H' ms vs ps
  | [], _, _, h => h
  | .d y :: ms, _, _, h => by
    obtain ⟨v, r, e, st, h1, h2⟩ := h
    exact ⟨v, r, e, st, h1.ext x, ImL.ext x h2⟩
  | .o xs :: ms, _, _, h => by
    obtain ⟨p, w, r, qs, e, e2, h1, n, h2, h3, h4⟩ := h
    exact ⟨p, w, r, qs, e, e2, x.keep _ _ h1 n, x.notMem h1 n, RelL.extS x.toS h2, h3, ImL.ext x h4⟩
theorem ImL.len {c : Cn} {G : List Addr} {H : Hp} : ∀ {ms : List Im} {vs : List V} {ps : List Addr}, ImL c G H ms vs ps → vs.length = ms.length
  | [], _, _, h => by rw [h.1]; rfl
  | .d y :: ms, _, _, h => by obtain ⟨v, r, e, _, _, h2⟩ := h; rw [e]; simp [ImL.len h2]
  | .o xs :: ms, _, _, h => by obtain ⟨p, w, r, qs, e, _, _, _, _, _, h4⟩ := h; rw [e]; simp [ImL.len h4]
def tM (c : Cn) (W : L2.St → WE) (f : RX (List Im)) : TA := fun σ H Q => tG c W f σ H fun ms G' H' => ∀ vs ps, ImL c G' H' ms vs ps → (∀ p ∈ ps, H p = none) → Q vs H'
def nilM : RX (List Im) := fun _ δ => .ok [] δ
def consMd (f : RX D) (g : RX (List Im)) : RX (List Im) := fun ρ δ => (f ρ δ).bind fun d δ1 => (g ρ δ1).bind fun ds δ2 => if d.strong then .ok (.d d :: ds) δ2 else .no
def consMo (f : RX (List D)) (g : RX (List Im)) : RX (List Im) := fun ρ δ => (f ρ δ).bind fun d δ1 => (g ρ δ1).bind fun ds δ2 => .ok (.o d :: ds) δ2
section
variable {X : Cx} {c : Cn} {W : L2.St → WE} {G0 : List Addr} {H0 : Hp}
theorem live_none {G G' : List Addr} {H H' : Hp} (x : Ext G H G' H') {p : Addr} (h : H' p = none) : H p = none := by
  cases q : H p with
  | none => rfl
  | some o => exact absurd h (x.live p (by rw [q]; exact Option.some_ne_none o))
theorem pa_nilM : PA X [] (tM c W nilM) := pa_nil.imp fun σ H Q ⟨ρ, δ, G, s, dr, p⟩ => Post.okIn p dr [] [] ⟨rfl, rfl⟩ (fun _ h => nomatch h)
theorem pa_consMd {e : Expr} {es : List Expr} {f : RX D} {g : RX (List Im)} (ha : PE X e (tD c W f)) (hr : PA X es (tM c W g)) (hs : starEach (e :: es) X.env = (false, eval e X.env) :: starEach es X.env) : PA X (e :: es) (tM c W (consMd f g)) :=
  (pa_cons ha hr hs).imp fun σ H Q ⟨ρ, δ, G, s, dr, p⟩ => by
    refine ⟨ρ, δ, G, s, dr, (Post.bind (k := fun d δ1 => (g ρ δ1).bind fun ds δ2 => if d.strong then .ok (.d d :: ds) δ2 else .no) p).mono fun d G1 H1 x1 ⟨δ1, d1, p1⟩ v rv => ?_⟩
    refine ⟨ρ, δ1, G1, s.ext x1, d1, (Post.bind p1).mono fun ms G2 H2 x2 ⟨δ2, d2, p2⟩ vs ps hm hf => ?_⟩
    by_cases st : d.strong = true
    · rw [if_pos st] at p2
      exact Post.okIn p2 d2 (v :: vs) ps ⟨v, vs, rfl, st, rv.ext x2, hm⟩ fun q hq => live_none x1 (hf q hq)
    · rw [if_neg st] at p2; exact p2.elim
theorem pa_consMo {e : Expr} {es : List Expr} {f : RX (List D)} {g : RX (List Im)} (ha : PE X e (tN c W f)) (hr : PA X es (tM c W g)) (hs : starEach (e :: es) X.env = (false, eval e X.env) :: starEach es X.env) : PA X (e :: es) (tM c W (consMo f g)) :=
  (pa_cons ha hr hs).imp fun σ H Q ⟨ρ, δ, G, s, dr, p⟩ => by
    refine ⟨ρ, δ, G, s, dr, (Post.bind (k := fun d δ1 => (g ρ δ1).bind fun ds δ2 => .ok (.o d :: ds) δ2) p).mono fun xs G1 H1 x1 ⟨δ1, d1, p1⟩ q ws nq rw' => ?_⟩
    have xn := ExtN.upd (o := .lst ws) nq
    have x0 := Ext.ofN (G := G1) xn
    refine ⟨ρ, δ1, G1, (s.ext x1).ext x0, d1.new xn, ((Post.bind p1).later x0).mono fun ms G2 H2 x2 ⟨δ2, d2, p2⟩ vs ps hm hf => ?_⟩
    have hq : (upd H1 q (.lst ws)) q = some (.lst ws) := upd_same
    have nG := d1.newAt nq
    refine Post.okIn p2 d2 (.ref q :: vs) (q :: ps) ⟨q, ws, vs, ps, rfl, rfl, x2.keep _ _ hq nG, x2.notMem hq nG, RelL.extS ((x0.trans x2).toS) rw', fun z => ?_, hm⟩ fun r hr => ?_
    · have := hf q z
      rw [upd_same] at this; cases this
    · rcases List.mem_cons.mp hr with e | hr
      · rw [e]; exact live_none x1 nq
      · exact live_none (x1.trans x0) (hf r hr)
def storeM : List Nat → List Im → List Sl → Option (List Sl)
  | [], [], ρ => some ρ
  | i :: is, .d x :: ms, ρ => if decide (i < ρ.length) then storeM is ms (ρ.set i (.v x)) else none
  | i :: is, .o xs :: ms, ρ => if decide (i < ρ.length) then storeM is ms (ρ.set i (.own xs)) else none
  | _, _, _ => none
theorem NoOwn.set {σ : L2.St} {ρ : List Sl} {A : Addr} {i : Nat} {v : V} {l : Sl} (n : NoOwn σ ρ A) (hl : σ.length = ρ.length) (h : l.isOwn = true → v ≠ .ref A) : NoOwn (σ.set i (some v)) (ρ.set i l) A := fun j l' h1 h2 h3 => by
  by_cases hj : i = j
  · subst hj
    have hi : i < ρ.length := by
      have := (List.getElem?_eq_some_iff.mp h1).1
      simpa using this
    rw [List.getElem?_set_self hi] at h1
    rw [List.getElem?_set_self (by rw [hl]; exact hi)] at h3
    cases h1; cases h3
    exact h h2 rfl
  · rw [List.getElem?_set_ne hj] at h1 h3
    exact n j l' h1 h2 h3
theorem OwnNew.setV {σ : L2.St} {ρ : List Sl} {i : Nat} {v : V} {x : D} (o : OwnNew H0 σ ρ) : OwnNew H0 (σ.set i (some v)) (ρ.set i (.v x)) := fun j l a h1 h2 h3 => by
  by_cases hj : i = j
  · subst hj
    have hi : i < ρ.length := by
      have := (List.getElem?_eq_some_iff.mp h1).1
      simpa using this
    rw [List.getElem?_set_self hi] at h1
    cases h1; cases h2
  · rw [List.getElem?_set_ne hj] at h1 h3
    exact o j l a h1 h2 h3
theorem storeM_sr {G : List Addr} {H : Hp} : ∀ {is : List Nat} {ms : List Im} {vs : List V} {ps : List Addr} {σ : L2.St} {ρ ρ' : List Sl}, SR c G H σ ρ → ImL c G H ms vs ps → (∀ p ∈ ps, NoOwn σ ρ p ∧ H0 p = none) → OwnNew H0 σ ρ → storeM is ms ρ = some ρ' →
    vs.length = is.length ∧ SR c G H ((is.zip vs).foldl (fun s p => s.set p.1 (some p.2)) σ) ρ' ∧ OwnNew H0 ((is.zip vs).foldl (fun s p => s.set p.1 (some p.2)) σ) ρ'
  | [], [], vs, ps, σ, ρ, ρ', s, h, _, o, e => by
    simp only [storeM, Option.some.injEq] at e
    subst e
    rw [h.1]
    exact ⟨rfl, s, o⟩
  | i :: is, .d x :: ms, vs, ps, σ, ρ, ρ', s, h, hn, o, e => by
    simp only [storeM] at e
    split at e
    · rename_i hi
      simp only [decide_eq_true_eq] at hi
      obtain ⟨v, r, rfl, st, h1, h2⟩ := h
      obtain ⟨a, b, d⟩ := storeM_sr (s.set hi st h1) h2 (fun p hp => ⟨(hn p hp).1.set s.len (fun z => nomatch z), (hn p hp).2⟩) o.setV e
      exact ⟨by simp [a], by simpa using b, by simpa using d⟩
    · cases e
  | i :: is, .o xs :: ms, vs, ps, σ, ρ, ρ', s, h, hn, o, e => by
    simp only [storeM] at e
    split at e
    · rename_i hi
      simp only [decide_eq_true_eq] at hi
      obtain ⟨p, w, r, qs, rfl, rfl, h1, n, h2, h3, h4⟩ := h
      have hp := hn p (List.mem_cons_self ..)
      obtain ⟨a, b, d⟩ := storeM_sr (s.own hi hp.1 h1 n h2) h4 (fun q hq => ⟨(hn q (List.mem_cons_of_mem _ hq)).1.set s.len (fun _ z => h3 (by cases z; exact hq)), (hn q (List.mem_cons_of_mem _ hq)).2⟩) (o.set s.len hp.2) e
      exact ⟨by simp [a], by simpa using b, by simpa using d⟩
    · cases e
  | [], _ :: _, _, _, _, _, _, _, _, _, _, e => by simp [storeM] at e
  | _ :: _, [], _, _, _, _, _, _, _, _, _, e => by simp [storeM] at e
def mparS (is : List Nat) (f : RX (List Im)) : RS := fun ρ δ => (f ρ δ).bind fun ms δ1 => match storeM is ms ρ with
  | some ρ' => .ok (.nx, ρ') δ1
  | none => .no
theorem tS.mpar {is : List Nat} {f : RX (List Im)} {D' : Ends} {σ : L2.St} {H : Hp} (h : tS c W G0 H0 (mparS is f) D' σ H) : tM c W f σ H fun vs H1 => vs.length = is.length ∧ ∀ H2, ExtN H1 H2 → D'.nx ((is.zip vs).foldl (fun s p => s.set p.1 (some p.2)) σ) H2 := by
  obtain ⟨ρ, δ, G, s, p⟩ := h
  refine ⟨ρ, δ, G, s.sr, s.dr, ?_⟩
  refine s.post (f := f) (k := fun ms ρ δ1 => match storeM is ms ρ with
    | some ρ' => .ok (.nx, ρ') δ1
    | none => .no) p fun ms δ1 G1 H1 x s1 p1 vs ps hm hf => ?_
  split at p1
  · rename_i ρ' e
    have hn : ∀ q ∈ ps, NoOwn σ ρ q ∧ H0 q = none := fun q hq => ⟨NoOwn.new s.sr (hf q hq), s.fresh (hf q hq)⟩
    refine ⟨(storeM_sr s1.sr hm hn s1.on e).1, fun H2 xn => ?_⟩
    have x2 := Ext.ofN (G := G1) xn
    obtain ⟨_, b, d⟩ := storeM_sr (s1.sr.ext x2) (hm.ext x2) hn s1.on e
    exact p1 _ G1 H2 ⟨b, s1.dr.new xn, s1.x.trans x2, d⟩ x2.toS
  · exact p1.elim
theorem tM.mono {f : RX (List Im)} {σ : L2.St} {H : Hp} {Q Q' : List V → Hp → Prop} (h : tM c W f σ H Q) (i : ∀ x H1, Q x H1 → Q' x H1) : tM c W f σ H Q' := by
  obtain ⟨ρ, δ, G, s, d, p⟩ := h
  exact ⟨ρ, δ, G, s, d, p.mono fun a G' H' _ q vs ps h1 h2 => i _ _ (q vs ps h1 h2)⟩
/-- two names, stored without a tuple -/
theorem ps_parD {i j : Nat} {x y : Str} {a b : Expr} {px py pt pos : Pos} {kt k2 : Nat} {pt2 : Pos} {f : RX (List Im)} (hc : X.calm = true) (hN : X.N.Nodup) (hi : X.N[i]? = some x) (hj : X.N[j]? = some y) (hij : i ≠ j)
    (hx : X.env.scope.names.lookup x = some .local) (hy : X.env.scope.names.lookup y = some .local) (ha : PA X [a, b] (tM c W f))
    (hw : swappedStores [.Tuple [.Name x px, .Name y py] kt pt] (.Tuple [a, b] k2 pt2) X.env = pure (some [x, y]))
    (hs : swapsWithSole [.Tuple [.Name x px, .Name y py] kt pt] (.Tuple [a, b] k2 pt2) pos.line X.env = pure false) :
    PS X (.Assign [.Tuple [.Name x px, .Name y py] kt pt] (.Tuple [a, b] k2 pt2) pos) (tS c W G0 H0 (mparS [i, j] f)) :=
  (ps_par hc hN hi hj hij hx hy ha hw hs).imp fun D' σ H h => by
    refine tM.mono (tS.mpar h) fun vs H1 ⟨hl, q⟩ => ?_
    match vs, hl, q with
    | [v, w], _, q => exact ⟨v, w, rfl, q H1 ExtN.refl⟩
/-- by a tuple that is made and taken apart -/
theorem ps_mparD {is : List Nat} {ts es : List Expr} {kt k2 : Nat} {pt p2 pos : Pos} {f : RX (List Im)} (hz : is.length ≤ cap) (ha : PA X es (tM c W f)) (hg : PG X (.Tuple ts kt pt) (gTup X.K is.length (gNames is))) (hs : swapsWithSole [.Tuple ts kt pt] (.Tuple es k2 p2) pos.line X.env = pure false)
    (hw : swappedStores [.Tuple ts kt pt] (.Tuple es k2 p2) X.env = pure none) (h1 : (assignEach [.Tuple ts kt pt] X.env).map (·.2) = [assign (.Tuple ts kt pt) X.env]) :
    PS X (.Assign [.Tuple ts kt pt] (.Tuple es k2 p2) pos) (tS c W G0 H0 (mparS is f)) :=
  (ps_asg (pe_tup ha) hg hs hw h1).imp fun D' σ H h => by
    refine tM.mono (tS.mpar h) fun vs H1 ⟨hl, q⟩ => ?_
    refine ⟨by rw [hl, cap_eq]; exact hz, fun p np => ?_⟩
    exact ⟨p, vs, rfl, .inl (.inl upd_same), hl, gNames_run hl (q _ (ExtN.upd np))⟩

/-! ### defs and their calls -/
abbrev Fn := List D → List Bx → Res D
def WN : WE := fun _ _ _ _ => False
/-- what a def promises: it gives what F gives -/
def spF (c : Cn) (np : Nat) (F : Fn) : Sp := fun vs H Q _ => ∃ G ds δ, RelL c G H ds vs ∧ DR c G H δ ∧ ds.length = np ∧ Post c WN G H (F ds δ) fun d G' H' => ∀ v, Rel c G' H' d v → Q v H'
def mkF (n np : Nat) (body : RS) : Fn := fun ds δ => if ds.length = np ∧ ds.all D.strong = true then match body (ds.map Sl.v ++ List.replicate (n - np) .no) δ with
    | .ok (.rt d, _) δ' => .ok d δ'
    | .ok (.nx, _) δ' => .ok .non δ'
    | .er k d δ' => .er k d δ'
    | _ => .no
  else .no
theorem start_sr {G : List Addr} {H : Hp} {N : List Str} {ds : List D} {vs : List V} (r : RelL c G H ds vs) (hl : ds.length ≤ N.length) : SR c G H (L2.start N vs) (ds.map Sl.v ++ List.replicate (N.length - ds.length) .no) := by
  have own : ∀ (i : Nat) (l : Sl), (ds.map Sl.v ++ List.replicate (N.length - ds.length) Sl.no)[i]? = some l → l.isOwn = false ∧ SlotR c G H (L2.start N vs) i l := fun i l h => by
    by_cases hi : i < ds.length
    · rw [List.getElem?_append_left (by simpa using hi), List.getElem?_map, List.getElem?_eq_getElem hi] at h
      cases h
      obtain ⟨v, e1, st, rv⟩ := r.get (List.getElem?_eq_getElem hi)
      refine ⟨rfl, st, v, ?_, rv⟩
      unfold L2.start
      rw [List.getElem?_append_left (by rw [List.length_map, r.length]; exact hi), List.getElem?_map, e1]
      rfl
    · rw [List.getElem?_append_right (by simpa using hi), List.getElem?_replicate] at h
      split at h
      · cases h; exact ⟨rfl, trivial⟩
      · cases h
  refine ⟨?_, fun i l h => (own i l h).2, fun i j l l' a h1 o1 _ _ _ _ => ?_⟩
  · unfold L2.start
    rw [List.length_append, List.length_append, List.length_map, List.length_map, List.length_replicate, List.length_replicate, r.length]
  · rw [(own i l h1).1] at o1; cases o1
/-- a def's body, read at its start -/
theorem body_read {N : List Str} {np : Nat} {body : RS} {vs : List V} {H : Hp} {Q : VK} {E : XK} (hn : np ≤ N.length) (h : spF c np (mkF N.length np body) vs H Q E) : ∃ G0, tS c (fun _ => WN) G0 H body { nx := fun _ H' => Q .non H', rt := Q } (L2.start N vs) H := by
  obtain ⟨G, ds, δ, r, d, hl, p⟩ := h
  unfold mkF at p
  split at p
  · rename_i hh
    refine ⟨G, _, δ, G, ⟨start_sr r (by rw [hl]; exact hn), d, Ext.refl, fun i l a h1 h2 h3 => ?_⟩, ?_⟩
    · exfalso
      by_cases hi : i < ds.length
      · rw [List.getElem?_append_left (by simpa using hi), List.getElem?_map, List.getElem?_eq_getElem hi] at h1
        cases h1; cases h2
      · rw [List.getElem?_append_right (by simpa using hi), List.getElem?_replicate] at h1
        split at h1
        · cases h1; cases h2
        · cases h1
    · rw [hl]
      revert p
      cases body (ds.map Sl.v ++ List.replicate (N.length - np) .no) δ with
      | ok q δ' =>
        obtain ⟨fl, ρ'⟩ := q
        intro p σ' G' H' s x
        cases fl with
        | nx => exact p G' H' s.x s.dr .non (by simp only [Rel])
        | rt d' => exact fun v rv => p G' H' s.x s.dr v rv
        | bk => exact p.elim
        | ct => exact p.elim
      | er k d' δ' => exact fun p σ' G' H' x dd => p G' H' x dd
      | no => exact fun p => p.elim
  · exact p.elim
theorem spF.len {np : Nat} {F : Fn} {vs : List V} {H : Hp} {Q : VK} {E : XK} (h : spF c np F vs H Q E) : vs.length = np := by
  obtain ⟨G, ds, δ, r, d, hl, p⟩ := h
  rw [r.length, hl]
/-- f(..) -/
def callO (F : Fn) (np : Nat) (f : RX (List D)) : RX D := fun ρ δ => (f ρ δ).bind fun ds δ1 => if ds.length = np ∧ ds.all D.strong = true then F ds δ1 else .no
theorem tA.callO {F : Fn} {np : Nat} {f : RX (List D)} {σ : L2.St} {H : Hp} {Q : VK} {E : XK} (hW : ∀ k d G H, W σ k d G H → False) (h : tD c W (callO F np f) σ H Q) : tCall (spF c np F) [] E (tA c W f) σ H Q := by
  refine tG.first (f := f) (k := fun ds ρ δ1 => if ds.length = np ∧ ds.all D.strong = true then F ds δ1 else .no) h fun ρ ds δ1 G1 H1 a1 p1 vs rv => ?_
  split at p1
  · rename_i hh
    rw [List.append_nil]
    refine ⟨G1, ds, δ1, rv.strong hh.2, a1.dr, hh.1, ?_⟩
    cases e : F ds δ1 with
    | ok d δ2 => rw [e] at p1; exact p1
    | er k d δ2 =>
      rw [e] at p1
      exact fun G' H' x dd => hW _ _ _ _ (p1 G' H' x dd)
    | no => rw [e] at p1; exact p1
  · exact p1.elim
end
end Pv
set_option maxRecDepth 100000
set_option maxHeartbeats 4000000
/-! PvE1: enumerate over a tuple -/
namespace PySem
open Sem (wp)
open AutoSeq1 (wpAny_loadPart')
theorem pv_enum_newT (l : Addr) (items : Array Value) (n : Nat) (dct : Option Addr) (sl : Array (Option Value)) :
    Meets (Builtin.«enumerate.__new__» ⟨[.type "enumerate", .ref l], []⟩) (fun _ R s => s.heap.get? l = some { cls := .type "tuple", dict := dct, data := .seq items n, slots := sl } ∧
      R (.ok (.ret (.ref (s.heap.push { cls := .type "tuple_iterator", data := .fields #[.ref l, .int 0 0] }).objs.size)))
        { s with heap := (s.heap.push { cls := .type "tuple_iterator", data := .fields #[.ref l, .int 0 0] }).push { cls := .type "enumerate", data := .fields #[.none, .bool false, .ref s.heap.objs.size, rawInt 0, .none, .none] } }) :=
  .of_wp fun prog w A R s h => by
    obtain ⟨hp, g, d, tk, os⟩ := s; obtain ⟨hl, h⟩ := h
    have hsub := sub_enumerate
    have hL : Heap.IsTuple (Shared.heap ⟨hp, g, d, tk, os⟩) l items := ⟨_, hl, rfl, n, rfl⟩
    wp_walk using wpAny_loadPart' hl
    refine wpAny_stack_any fun st => wpAny_pure ?_
    split
    · rename_i c _ _ _ _ _
      cases (c == Value.type "enumerate")
      · wp_walk using wpAny_loadPart' hl, wpAny_pyIter_tuple hL
        exact ⟨_, rfl, h⟩
      · wp_walk using wpAny_loadPart' hl, wpAny_pyIter_tuple hL
        exact ⟨_, rfl, h⟩
    · wp_walk using wpAny_loadPart' hl, wpAny_pyIter_tuple hL
      exact ⟨_, rfl, h⟩
section
variable {prog : Program} {w : World} {A : Around} {E : Value → Shared → Prop} {s : Shared}
theorem pv_call_enum_tuple {l : Addr} {items : Array Value} {Q : Value → Shared → Prop} (hL : s.heap.IsTuple l items)
    (h : ∀ h', IsEnum h' (s.heap.objs.size + 1) s.heap.objs.size 0 .none → h'.IsTupleIter s.heap.objs.size l 0 → h'.objs.size = s.heap.objs.size + 2 →
      (∀ b o, s.heap.get? b = some o → h'.get? b = some o) → Q (.ref (s.heap.objs.size + 1)) { s with heap := h' }) :
    wpAny (model prog w) A (call (.type "enumerate") [.ref l]) Q E s := by
  obtain ⟨⟨c, dct, dt, sl⟩, hl, hc, n, hd⟩ := hL
  replace hc : c = .type "tuple" := hc
  replace hd : dt = .seq items n := hd
  subst hc hd
  refine callType_new F.called_enumerate (by decide) (F.typeCall_enumerate_1 _) (F.newCall_enumerate_1 _) (fun obj => F.args_object_init_2 obj _) F.entry_enumerate_new
    (pv_enum_newT l items n dct sl) ⟨hl, ?_⟩
  have hz : (s.heap.push { cls := .type "tuple_iterator", data := .fields #[.ref l, .int 0 0] }).objs.size = s.heap.objs.size + 1 := Heap.size_push ..
  show _ ∧ _
  rw [hz]
  have he : IsEnum ((s.heap.push { cls := .type "tuple_iterator", data := .fields #[.ref l, .int 0 0] }).push
      { cls := .type "enumerate", data := .fields #[.none, .bool false, .ref s.heap.objs.size, rawInt 0, .none, .none] }) (s.heap.objs.size + 1) s.heap.objs.size 0 .none := by
    have := Heap.get?_push_size (s.heap.push { cls := .type "tuple_iterator", data := .fields #[.ref l, .int 0 0] })
      (o := { cls := .type "enumerate", data := .fields #[.none, .bool false, .ref s.heap.objs.size, rawInt 0, .none, .none] }) rfl
    rw [hz] at this; exact this
  refine ⟨⟨_, he, rfl⟩, h _ he ⟨_, Heap.get?_push_of_some _ (Heap.get?_push_size _ rfl), rfl, rfl⟩ (by rw [Heap.size_push, hz]) fun b o x => Heap.get?_push_of_some _ (Heap.get?_push_of_some _ x)⟩
end
end PySem
namespace Pv
open PySem PySem.Spec PyProof.Rows L2
/-- the tuple at a, each item in a new pair with its place -/
def IteT (K : PySem.W.Frag) (a : Addr) : It :=
  ⟨fun i H => ∃ (xs : List V) (x : V), SqT K H a xs ∧ xs[i]? = some x, fun i H v H' => ∃ T x, v = .ref T ∧ H T = none ∧ H' = upd H T (.tup [.int (i : Nat), x]) ∧ ∀ xs, SqT K H a xs → xs[i]? = some x, fun i H => ∃ xs : List V, SqT K H a xs ∧ xs.length ≤ i⟩
theorem turn_enumT {P : Program} {w : World} {K : PySem.W.Frag} {elts : List Expr} {kk : Nat} {tpos : Pos} (a e it : Addr) (ha : a ≠ it) :
    Turn P w K (.Tuple elts kk tpos) (IteT K a) [e, it] e (fun i h => (∃ old, IsEnum h e it ((i : Nat) : Int) old) ∧ h.IsTupleIter it a i ∧ e ≠ it) where
  mem := by simp
  obj := fun i h st b hb => by
    obtain ⟨⟨old, he⟩, ⟨o, ho, hc, hd⟩, _⟩ := st
    have e' : b = e ∨ b = it := by simpa using hb
    rcases e' with z | z
    · rw [z]; exact ⟨_, he, fun v q => nomatch q⟩
    · rw [z]; exact ⟨o, ho, fun v q => by rw [hd] at q; cases q⟩
  keep := fun i h h' st k => let ⟨⟨old, he⟩, hi, hne⟩ := st; ⟨⟨old, k e (by simp) _ he⟩, hi.at fun o q => k it (by simp) o q, hne⟩
  item := by
    intro X hP hw hK hc i pins s σ H E I hf st hg
    subst hP hw hK
    obtain ⟨⟨old, he⟩, hit, hne⟩ := st
    obtain ⟨xs, x, hq, hx⟩ := hg
    obtain ⟨its, rv, p, hz⟩ := I.tuple hq
    have p : s.heap.IsTuple a its.toArray := p
    obtain ⟨u, hu, ru⟩ := rv.get hx
    have hel : e < s.heap.objs.size := Heap.lt_size he
    have hil : it < s.heap.objs.size := by obtain ⟨_, q, _⟩ := hit; exact Heap.lt_size q
    have hea : e ≠ a := fun z => by
      obtain ⟨o, ho, hcl, _⟩ := p
      rw [← z] at ho
      rw [show s.heap.get? e = some _ from he] at ho
      cases ho
      injection hcl with h
      exact absurd h (by decide)
    have hlt : i < its.toArray.size := by
      have := (List.getElem?_eq_some_iff.mp hu).1
      simpa using this
    refine wpAny_pyNext_enum_itemD (Draws.tuple (show X.A.in1.handled = none from I.ok.hd hc) it a ha its.toArray) he ⟨hit, p⟩ hlt hne (by simp [hne, hea]) fun y h' tk hy ho hst' hT hsz hk => ?_
    have hyu : y = u := by
      have : its.toArray[i]? = some u := by simpa using hu
      rw [this] at hy
      exact (Option.some.inj hy).symm
    subst hyu
    refine ⟨_, rfl, wpAny_letOwnedTupleGo_enum (s := { s with heap := h', toks := tk + 1 }) ho fun h'' he' sb => ?_⟩
    have hT2 : h''.get? s.heap.objs.size = some { cls := .type "tuple", data := .seq #[.int i tk, y] } := (sb.2 _ (Nat.ne_of_gt hel)).trans hT
    have new : ObjOk X.prog X.w (upd H s.heap.objs.size (.tup [.int (i : Nat), x])) h'' s.heap.objs.size (.tup [.int (i : Nat), x]) :=
      ⟨by show 2 ≤ sizeLine; decide, [.int i tk, y], .cons ⟨_, rfl⟩ (.cons ru .nil), ⟨_, hT2, rfl, _, rfl⟩⟩
    have I1 : Inv X pins σ (upd H s.heap.objs.size (.tup [.int (i : Nat), x])) { s with heap := h'', toks := tk + 1 } :=
      I.turnedNew (ch := [e, it]) (fun b ob hb q => (sb.2 b (fun z => hb (by simp [z]))).trans (hk b ob (fun z => hb (by simp [z])) (fun z => hb (by simp [z])) q)) hf (Nat.le_refl _) new
    refine ⟨.ref s.heap.objs.size, _, I1, rfl, ⟨_, x, rfl, I.hok.fresh (Nat.le_refl _), rfl, fun ys hy => by rw [I.tuple_inj hy hq]; exact hx⟩, ⟨⟨y, ?_⟩, hst'.1.at fun o q => (sb.2 it (Ne.symm hne)).trans q, hne⟩, fun b hb => ?_⟩
    · have e1 : ((i + 1 : Nat) : Int) = (i : Int) + 1 := by omega
      rw [e1]; exact he'
    · have hb' : b < s.heap.objs.size := by
        have e' : b = e ∨ b = it := by simpa using hb
        rcases e' with z | z
        · rw [z]; exact hel
        · rw [z]; exact hil
      rw [upd_ne (Nat.ne_of_lt hb')]
      exact (hf b hb).1
  done := by
    intro X hP hw hK hc i pins s σ H E I hf st hg
    subst hP hw hK
    obtain ⟨⟨old, he⟩, hit, hne⟩ := st
    obtain ⟨xs, hq, hx⟩ := hg
    obtain ⟨its, rv, p, hz⟩ := I.tuple hq
    have p : s.heap.IsTuple a its.toArray := p
    obtain ⟨f0, f1, f2, f3, f4, f5⟩ := hf it (by simp)
    have hl := rv.length
    have hT : s.TypeIs (.ref e) "enumerate" := ⟨_, he, rfl⟩
    unfold pyNext
    refine wpAny_bind (wpAny_attempt (wpAny_callSpecial?_slot (name := Str.ofString "__next__") hT F.slot_enumerate_next
      (wpAny_call_entry F.slot_enumerate_next hT F.entry_enumerate_next ?_ (F.args_enumerate_next_1 _))))
    show wpAny _ _ (field (.ref e) 2 >>= _) _ _ _
    refine wpAny_bind (wpAny_field he rfl (x := .ref it) rfl ?_)
    refine wpAny_bind (wpAny_nextOf_tuple_end (show X.A.in1.handled = none from I.ok.hd hc) hit p (by simp; omega) fun h' x he' hx' => ?_)
    obtain ⟨o, ho, hcl⟩ := hx'
    refine wpAny_bind (wpAny_isInstance (T := "StopIteration") (b := true) ⟨o, ho, hcl⟩ isSubtype_stop ?_)
    exact wpAny_pure ⟨rfl, I.turned (t' := s.toks) (fun b o hb q => he' b o hb q) f0 f1 f3 f4 f5⟩
  self := fun A i s Q E st h => let ⟨⟨_, he⟩, _⟩ := st; wpAny_pyIter_enum he h
def iEnumA (K : PySem.W.Frag) (ta : TA) : TI := fun σ H R => ta σ H fun vs H1 => ∃ a xs, vs = [.ref a] ∧ ((SqL K H1 a xs ∧ R (Ite K a) H1) ∨ (SqT K H1 a xs ∧ R (IteT K a) H1))
theorem pi_enumA {X : Cx} {e : Expr} {ta : TA} {p pos tpos : Pos} {elts : List Expr} {kk : Nat} (hg : Gl X "enumerate") (hm : X.mg "enumerate" = none) (ha : PA X [e] ta) (hs : starEach [e] X.env = [(false, eval e X.env)]) :
    PI X (.Tuple elts kk tpos) (.Call (.Name "enumerate" p) [e] [] pos) (iEnumA X.K ta) := by
  refine ⟨fun pins s σ H R I h => ?_⟩
  refine Call_ (ld_blt I hg hm boot_enumerate (PyProof.Rows.callWith_type1 (thn (ha.run pos pins s σ H _ I h) fun us s1 ⟨vs, H1, I1, r1, q1⟩ => ?_) hs rfl))
  obtain ⟨a, xs, ex, hq⟩ := q1
  subst ex
  cases r1 with
  | cons r rr =>
    cases rr
    cases r
    have fp : ∀ b ∈ [s1.heap.objs.size + 1, s1.heap.objs.size], FpOk X pins H1 b := fun b hb => by
      have hb' : b = s1.heap.objs.size + 1 ∨ b = s1.heap.objs.size := by simpa using hb
      have hle : s1.heap.objs.size ≤ b := by
        rcases hb' with z | z
        · rw [z]; exact Nat.le_add_right _ _
        · rw [z]; exact Nat.le_refl _
      exact I1.fpOk hle (I1.hok.fresh hle)
    rcases hq with ⟨hq, q⟩ | ⟨hq, q⟩
    · obtain ⟨its, rv, p', hz⟩ := I1.list hq
      refine call_enumerate_list p'.isList fun h' he hit hsz hk => wpAny_pyIter_enum he ?_
      have I2 : Inv X pins σ H1 { s1 with heap := h' } := I1.kept (t' := s1.toks) hk
      exact ⟨s1.heap.objs.size + 1, [s1.heap.objs.size + 1, s1.heap.objs.size], _, _, H1, rfl, I2, turn_enum a (s1.heap.objs.size + 1) s1.heap.objs.size, ⟨⟨.none, he⟩, hit, Nat.succ_ne_self _⟩, fp, q⟩
    · obtain ⟨its, rv, p', hz⟩ := I1.tuple hq
      have p' : s1.heap.IsTuple a its.toArray := p'
      have hal : a < s1.heap.objs.size := by obtain ⟨_, q, _⟩ := p'; exact Heap.lt_size q
      refine pv_call_enum_tuple p' fun h' he hit hsz hk => wpAny_pyIter_enum he ?_
      have I2 : Inv X pins σ H1 { s1 with heap := h' } := I1.kept (t' := s1.toks) hk
      exact ⟨s1.heap.objs.size + 1, [s1.heap.objs.size + 1, s1.heap.objs.size], _, _, H1, rfl, I2, turn_enumT a _ _ (Nat.ne_of_lt hal), ⟨⟨.none, he⟩, hit, Nat.succ_ne_self _⟩, fp, q⟩
end Pv
set_option maxRecDepth 100000
set_option maxHeartbeats 1000000
/-! PvE2: enumerate, zip -/
namespace Pv
open PySem PySem.Spec PyProof.Rows L2

def enumL : Nat → List D → List D
  | _, [] => []
  | k, x :: xs => .tup [.int (k : Nat), x] :: enumL (k + 1) xs
theorem enumL_get : ∀ {xs : List D} {k i : Nat} {d : D}, (enumL k xs)[i]? = some d → ∃ x, xs[i]? = some x ∧ d = .tup [.int ((k + i : Nat) : Int), x]
  | [], _, _, _, h => by simp [enumL] at h
  | x :: xs, k, 0, d, h => by
    simp [enumL] at h
    exact ⟨x, rfl, by rw [← h]; simp⟩
  | x :: xs, k, i + 1, d, h => by
    simp only [enumL, List.getElem?_cons_succ] at h
    obtain ⟨y, e, rfl⟩ := enumL_get h
    refine ⟨y, by simpa using e, ?_⟩
    rw [show k + 1 + i = k + (i + 1) by omega]
theorem enumL_len : ∀ {xs : List D} {k : Nat}, (enumL k xs).length = xs.length
  | [], _ => rfl
  | x :: xs, k => by simp [enumL, enumL_len]
theorem enumL_str : ∀ {xs : List D} {k : Nat}, (enumL k xs).all D.strong = true
  | [], _ => rfl
  | x :: xs, k => by simp [enumL, D.strong, enumL_str]
def enumG : List D → Option (List D)
  | [d] => match seqS d with
    | some xs => if xs.length ≤ cap then some (enumL 0 xs) else none
    | none => none
  | _ => none
def zipD (xs ys : List D) : List D := List.zipWith (fun x y => .tup [x, y]) xs ys
def zipG : List D → Option (List D)
  | [.lst xs, .lst ys] => if xs.length ≤ cap then some (zipD xs ys) else none
  | [.tup xs, .tup ys] => if xs.length ≤ cap then some (zipD xs ys) else none
  | _ => none
theorem zipD_get {xs ys : List D} {i : Nat} {d : D} (h : (zipD xs ys)[i]? = some d) : ∃ x y, xs[i]? = some x ∧ ys[i]? = some y ∧ d = .tup [x, y] := by
  unfold zipD at h
  rw [List.getElem?_zipWith] at h
  cases e : xs[i]? with
  | none => rw [e] at h; cases h
  | some x =>
    cases e2 : ys[i]? with
    | none => rw [e, e2] at h; cases h
    | some y =>
      rw [e, e2] at h
      cases h
      exact ⟨x, y, rfl, rfl, rfl⟩
theorem zipD_str {xs ys : List D} : (zipD xs ys).all D.strong = true := by
  rw [List.all_eq_true]
  intro d hd
  obtain ⟨i, hi⟩ := List.mem_iff_getElem?.mp hd
  obtain ⟨x, y, _, _, rfl⟩ := zipD_get hi
  rfl
section
variable {X : Cx} {c : Cn} {W : L2.St → WE} {R : Per} (hR : ∀ G H G' H', R G H G' H' → ExtS G H G' H')
include hR
theorem pair_new {G : List Addr} {H : Hp} {p : Addr} {d1 d2 : D} {v1 v2 : V} (np : H p = none) (s1 : d1.strong = true) (s2 : d2.strong = true) (r1 : Rel c G H d1 v1) (r2 : Rel c G H d2 v2) : Rel c G (upd H p (.tup [v1, v2])) (.tup [d1, d2]) (.ref p) := by
  refine Rel.newTup np ?_
  simp only [RelL]
  exact ⟨v1, _, rfl, s1, r1, v2, _, rfl, s2, r2, rfl⟩
theorem yields_enumL {K : PySem.W.Frag} {G : List Addr} {H : Hp} {a : Addr} {vs : List V} {ds : List D} (hl : ds.length ≤ cap) (r : RelL c G H ds vs) (st : ∀ G' H', R G H G' H' → SqL K H' a vs) : Yields R c G H (Ite K a) (enumL 0 ds) := by
  refine ⟨by rw [enumL_len]; exact hl, enumL_str, fun i d G' H' x e => ?_, fun G' H' x => ⟨vs, st _ _ x, by rw [enumL_len, r.length]; exact Nat.le_refl _⟩⟩
  obtain ⟨y, e1, rfl⟩ := enumL_get e
  obtain ⟨v, e2, sy, rv⟩ := (RelL.extS (hR _ _ _ _ x) r).get e1
  refine ⟨⟨vs, v, st _ _ x, e2⟩, fun z H'' ⟨T, w, e3, nT, eH, hw⟩ => ?_⟩
  have := hw vs (st _ _ x)
  rw [e2] at this
  cases this
  subst e3
  subst eH
  refine ⟨ExtN.upd nT, pair_new hR nT rfl sy ?_ rv⟩
  simp only [Rel]
  congr 1
  omega
theorem yields_enumT {K : PySem.W.Frag} {G : List Addr} {H : Hp} {a : Addr} {vs : List V} {ds : List D} (hl : ds.length ≤ cap) (r : RelL c G H ds vs) (st : ∀ G' H', R G H G' H' → SqT K H' a vs) : Yields R c G H (IteT K a) (enumL 0 ds) := by
  refine ⟨by rw [enumL_len]; exact hl, enumL_str, fun i d G' H' x e => ?_, fun G' H' x => ⟨vs, st _ _ x, by rw [enumL_len, r.length]; exact Nat.le_refl _⟩⟩
  obtain ⟨y, e1, rfl⟩ := enumL_get e
  obtain ⟨v, e2, sy, rv⟩ := (RelL.extS (hR _ _ _ _ x) r).get e1
  refine ⟨⟨vs, v, st _ _ x, e2⟩, fun z H'' ⟨T, w, e3, nT, eH, hw⟩ => ?_⟩
  have := hw vs (st _ _ x)
  rw [e2] at this
  cases this
  subst e3
  subst eH
  refine ⟨ExtN.upd nT, pair_new hR nT rfl sy ?_ rv⟩
  simp only [Rel]
  congr 1
  omega
theorem zipD_len {xs ys : List D} : (zipD xs ys).length = min xs.length ys.length := by simp [zipD]
theorem yields_zipL {K : PySem.W.Frag} {G : List Addr} {H : Hp} {a b : Addr} {vs ws : List V} {ds es : List D} (hl : ds.length ≤ cap) (r : RelL c G H ds vs) (r' : RelL c G H es ws) (st : ∀ G' H', R G H G' H' → SqL K H' a vs ∧ SqL K H' b ws) : Yields R c G H (Itz K a b) (zipD ds es) := by
  refine ⟨by rw [zipD_len hR]; omega, zipD_str, fun i d G' H' x e => ?_, fun G' H' x => ⟨vs, ws, (st _ _ x).1, (st _ _ x).2, by rw [zipD_len hR, r.length, r'.length]; omega⟩⟩
  obtain ⟨y, z, e1, e1', rfl⟩ := zipD_get e
  obtain ⟨v, e2, sy, rv⟩ := (RelL.extS (hR _ _ _ _ x) r).get e1
  obtain ⟨v', e2', sy', rv'⟩ := (RelL.extS (hR _ _ _ _ x) r').get e1'
  refine ⟨⟨vs, ws, v, v', (st _ _ x).1, (st _ _ x).2, e2, e2'⟩, fun z H'' ⟨T, w, w', e3, nT, eH, hw, hw'⟩ => ?_⟩
  have h1 := hw vs (st _ _ x).1
  have h2 := hw' ws (st _ _ x).2
  rw [e2] at h1
  rw [e2'] at h2
  cases h1
  cases h2
  subst e3
  subst eH
  exact ⟨ExtN.upd nT, pair_new hR nT sy sy' rv rv'⟩
theorem yields_zipT {K : PySem.W.Frag} {G : List Addr} {H : Hp} {a b : Addr} {vs ws : List V} {ds es : List D} (hl : ds.length ≤ cap) (r : RelL c G H ds vs) (r' : RelL c G H es ws) (st : ∀ G' H', R G H G' H' → SqT K H' a vs ∧ SqT K H' b ws) : Yields R c G H (RZ.ItzT K a b) (zipD ds es) := by
  refine ⟨by rw [zipD_len hR]; omega, zipD_str, fun i d G' H' x e => ?_, fun G' H' x => ⟨vs, ws, (st _ _ x).1, (st _ _ x).2, by rw [zipD_len hR, r.length, r'.length]; omega⟩⟩
  obtain ⟨y, z, e1, e1', rfl⟩ := zipD_get e
  obtain ⟨v, e2, sy, rv⟩ := (RelL.extS (hR _ _ _ _ x) r).get e1
  obtain ⟨v', e2', sy', rv'⟩ := (RelL.extS (hR _ _ _ _ x) r').get e1'
  refine ⟨⟨vs, ws, v, v', (st _ _ x).1, (st _ _ x).2, e2, e2'⟩, fun z H'' ⟨T, w, w', e3, nT, eH, hw, hw'⟩ => ?_⟩
  have h1 := hw vs (st _ _ x).1
  have h2 := hw' ws (st _ _ x).2
  rw [e2] at h1
  rw [e2'] at h2
  cases h1
  cases h2
  subst e3
  subst eH
  exact ⟨ExtN.upd nT, pair_new hR nT sy sy' rv rv'⟩
theorem Rel.lst' {G : List Addr} {H : Hp} {xs : List D} {v : V} (r : Rel c G H (.lst xs) v) : ∃ a vs, v = .ref a ∧ RelL c G H xs vs ∧ ∀ G' H', R G H G' H' → SqL c.K H' a vs := by
  simp only [Rel] at r
  obtain ⟨a, o, vs, rfl, h, rl⟩ := r
  exact ⟨a, vs, rfl, rl, fun G' H' x => .inl (.inr ⟨o, (hR _ _ _ _ x).fix _ _ h trivial⟩)⟩
theorem Rel.tup' {G : List Addr} {H : Hp} {xs : List D} {v : V} (r : Rel c G H (.tup xs) v) : ∃ a vs, v = .ref a ∧ RelL c G H xs vs ∧ ∀ G' H', R G H G' H' → SqT c.K H' a vs := by
  obtain ⟨a, vs, rfl, h, rl⟩ := r.tup
  exact ⟨a, vs, rfl, rl, fun G' H' x => SqT.extS h (hR _ _ _ _ x)⟩
theorem pi_enumD {e : Expr} {f : RX (List D)} {p pos tpos : Pos} {elts : List Expr} {kk : Nat} (hself : ∀ G H, R G H G H) (hc : X.K = c.K) (hg : Gl X "enumerate") (hm : X.mg "enumerate" = none) (ha : PA X [e] (tA c W f)) (hs : starEach [e] X.env = [(false, eval e X.env)]) :
    PI X (.Tuple elts kk tpos) (.Call (.Name "enumerate" p) [e] [] pos) (tI R c W (itA enumG f)) :=
  (pi_enumA hg hm ha hs).imp fun σ H Q h => by
    refine tA.mono (tI.startA h) fun vs H1 ⟨G, as, ds, r, e, q⟩ => ?_
    rw [hc]
    unfold enumG at e
    split at e
    · rename_i d
      obtain ⟨v, rfl, rv⟩ := r.one
      cases d <;> simp only [seqS, reduceCtorEq] at e
      · rename_i xs
        split at e
        · rename_i hl
          cases e
          obtain ⟨a, vs, rfl, rt, st⟩ := Rel.tup' hR rv
          exact ⟨a, vs, rfl, .inr ⟨st _ _ (hself _ _), q _ (yields_enumT hR hl rt st)⟩⟩
        · cases e
      · rename_i xs
        split at e
        · rename_i hl
          cases e
          obtain ⟨a, vs, rfl, rt, st⟩ := Rel.lst' hR rv
          exact ⟨a, vs, rfl, .inl ⟨st _ _ (hself _ _), q _ (yields_enumL hR hl rt st)⟩⟩
        · cases e
    · cases e
theorem pi_zipDD {e e2 : Expr} {f : RX (List D)} {p pos tpos : Pos} {elts : List Expr} {kk : Nat} (hself : ∀ G H, R G H G H) (hc : X.K = c.K) (hg : Gl X "zip") (hm : X.mg "zip" = none) (ha : PA X [e, e2] (tA c W f)) (hs : starEach [e, e2] X.env = (false, eval e X.env) :: starEach [e2] X.env) (hpl : (backTo pos (starEach [e2] X.env)).any (·.1) = false) :
    PI X (.Tuple elts kk tpos) (.Call (.Name "zip" p) [e, e2] [] pos) (tI R c W (itA zipG f)) :=
  (RZ.pi_zipA hg hm ha hs hpl).imp fun σ H Q h => by
    refine tA.mono (tI.startA h) fun vs H1 ⟨G, as, ds, r, e, q⟩ => ?_
    rw [hc]
    unfold zipG at e
    split at e
    · split at e
      · rename_i xs ys hl
        cases e
        obtain ⟨v, w, rfl, rv, rw'⟩ := r.two
        obtain ⟨a, vs, rfl, rt, st⟩ := Rel.lst' hR rv
        obtain ⟨b, ws, rfl, rt', st'⟩ := Rel.lst' hR rw'
        exact ⟨a, b, vs, ws, rfl, .inl ⟨st _ _ (hself _ _), st' _ _ (hself _ _), q _ (yields_zipL hR hl rt rt' fun G' H' x => ⟨st _ _ x, st' _ _ x⟩)⟩⟩
      · cases e
    · split at e
      · rename_i xs ys hl
        cases e
        obtain ⟨v, w, rfl, rv, rw'⟩ := r.two
        obtain ⟨a, vs, rfl, rt, st⟩ := Rel.tup' hR rv
        obtain ⟨b, ws, rfl, rt', st'⟩ := Rel.tup' hR rw'
        exact ⟨a, b, vs, ws, rfl, .inr ⟨st _ _ (hself _ _), st' _ _ (hself _ _), q _ (yields_zipT hR hl rt rt' fun G' H' x => ⟨st _ _ x, st' _ _ x⟩)⟩⟩
      · cases e
    · cases e
end
end Pv
set_option maxRecDepth 100000
set_option maxHeartbeats 4000000
/-! PvE3: itertools.combinations, facts of the table -/
namespace PySem
open Sem (wp)
open AutoSeq1 (wpAny_loadPart')
namespace F
theorem pv_mro_comb : mroOf (.type "itertools.combinations") = pure [.type "itertools.combinations", .type "object"] := by rw [mroOf_type]; kernel_rfl
theorem pv_lookup_comb_new : typeLookup (.type "itertools.combinations") "__new__" = pure (some (.builtin "itertools.combinations.__new__")) := by rw [typeLookup_type, builtinLookup_eq_fast]; kernel_rfl
theorem pv_slot_comb_init : Slot "itertools.combinations" "__init__" "object.__init__" :=
  .of (owner := "object") (n := "__init__") (by rw [typeLookup_type, builtinLookup_eq_fast]; kernel_rfl) (by decide +kernel) (by decide +kernel) (by decide +kernel)
    (by first | exact .inl (by decide +kernel) | exact .inr (by decide +kernel)) (by rw [isSubtype_type]; kernel_rfl)
theorem pv_called_comb : TypeCalled "itertools.combinations" "itertools.combinations.__new__" "object.__init__" :=
  ⟨by decide +kernel, by decide +kernel, ⟨_, _, pv_mro_comb⟩, madeBy_type pv_mro_comb pv_lookup_comb_new (by decide +kernel), by decide +kernel, by rw [isSubtype_type]; kernel_rfl, pv_slot_comb_init⟩
theorem pv_typeCall_comb (a b : Value) : checkTypeCall "itertools.combinations" ⟨[a, b], []⟩ = pure () := by kernel_rfl
theorem pv_newCall_comb (a b : Value) : checkBuiltinCall "itertools.combinations.__new__" ⟨[.type "itertools.combinations", a, b], []⟩ = pure () := by kernel_rfl
theorem pv_entry_comb_new : entryFor table "itertools.combinations.__new__" = some Builtin.«itertools.combinations.__new__» := entryFor_of_tree (by kernel_rfl)
theorem pv_slot_comb_next : Slot "itertools.combinations" "__next__" "itertools.combinations.__next__" :=
  .of (owner := "itertools.combinations") (n := "__next__") (by rw [typeLookup_type, builtinLookup_eq_fast]; kernel_rfl) (by decide +kernel) (by decide +kernel) (by decide +kernel)
    (by first | exact .inl (by decide +kernel) | exact .inr (by decide +kernel)) (by rw [isSubtype_type]; kernel_rfl)
theorem pv_slot_comb_iter : Slot "itertools.combinations" "__iter__" "itertools.combinations.__iter__" :=
  .of (owner := "itertools.combinations") (n := "__iter__") (by rw [typeLookup_type, builtinLookup_eq_fast]; kernel_rfl) (by decide +kernel) (by decide +kernel) (by decide +kernel)
    (by first | exact .inl (by decide +kernel) | exact .inr (by decide +kernel)) (by rw [isSubtype_type]; kernel_rfl)
theorem pv_entry_comb_next : entryFor table "itertools.combinations.__next__" = some Builtin.«itertools.combinations.__next__» := entryFor_of_tree (by kernel_rfl)
theorem pv_sub_comb : isSubtype (.type "itertools.combinations") (.type "itertools.combinations") = pure true := by rw [isSubtype_type]; kernel_rfl
end F
end PySem
set_option maxRecDepth 100000
set_option maxHeartbeats 4000000
/-! PvE4: itertools.combinations, facts -/
namespace PySem
namespace F
theorem pv_entry_comb_iter : entryFor table "itertools.combinations.__iter__" = some Builtin.«dict_keyiterator.__iter__» :=
  entryFor_alias (id' := "dict_keyiterator.__iter__") (by kernel_rfl) (by first | rfl | decide +kernel | (unfold String.splitOn; simp +decide [String.splitOnAux])) (by decide +kernel) (by kernel_rfl)
end F
end PySem
set_option maxRecDepth 100000
set_option maxHeartbeats 4000000
/-! PvE5: itertools.combinations, arguments -/
namespace PySem
namespace F
theorem pv_args_comb_next (a : Value) : argsOk "itertools.combinations.__next__" ⟨[a], []⟩ := by
  unfold argsOk
  rw [signature?_of (id := "itertools.combinations.__next__") (n := ['_', '_', 't', 'x', 'e', 'n', '_', '_']) (o := ['s','n','o','i','t','a','n','i','b','m','o','c','.','s','l','o','o','t','r','e','t','i']) (rows := Manifest.sig_itertools_combinations) (by kernel_rfl) (by kernel_rfl)]
  kernel_rfl
theorem pv_args_comb_iter (a : Value) : argsOk "itertools.combinations.__iter__" ⟨[a], []⟩ := by
  unfold argsOk
  rw [signature?_of (id := "itertools.combinations.__iter__") (n := ['_', '_', 'r', 'e', 't', 'i', '_', '_']) (o := ['s','n','o','i','t','a','n','i','b','m','o','c','.','s','l','o','o','t','r','e','t','i']) (rows := Manifest.sig_itertools_combinations) (by kernel_rfl) (by kernel_rfl)]
  kernel_rfl
end F
/-- the walk's own object: its pool, how it stands, the tuple last given, the places -/
def IsComb (h : Heap) (c pool : Addr) (st : Int) (last : Value) (idx : List Nat) : Prop :=
  h.get? c = some { cls := .type "itertools.combinations", data := .fields ((Value.ref pool :: rawInt st :: last :: idx.map fun n : Nat => rawInt n).toArray) }
section
variable {prog : Program} {w : World} {A : Around} {E : Value → Shared → Prop} {s : Shared}
theorem pv_iter_comb {c pool : Addr} {st : Int} {last : Value} {idx : List Nat} {Q : Value → Shared → Prop} (he : IsComb s.heap c pool st last idx) (h : Q (.ref c) s) : wpAny (model prog w) A (pyIter (.ref c)) Q E s := by
  have hT : s.TypeIs (.ref c) "itertools.combinations" := ⟨_, he, rfl⟩
  refine wpAny_pyIter_slot hT F.pv_slot_comb_iter (wpAny_call_entry F.pv_slot_comb_iter hT F.pv_entry_comb_iter ?_ (F.pv_args_comb_iter _))
  show wpAny _ _ (ret (.ref c)) _ _ s
  exact wpAny_pure ⟨_, rfl, "itertools.combinations", _, hT, F.pv_slot_comb_next.lookup, h⟩
end
end PySem
set_option maxRecDepth 100000
set_option maxHeartbeats 4000000
/-! PvE6: itertools.combinations, a turn -/
namespace PySem
open Sem (wp)
/-- the step from places to places, as the table has it -/
def pvStep : { nc : Nat → List Nat → Option (List Nat) // ∃ nb : (Nat → List Nat → Option (List Nat)) → Builtin, Builtin.«itertools.combinations.__next__» = nb nc } := ⟨_, _, rfl⟩
section
variable {prog : Program} {w : World} {A : Around} {E : Value → Shared → Prop} {s : Shared}
theorem idx_of {c pool : Addr} {st : Int} {last : Value} {idx : List Nat} {Q : List Nat → Shared → Prop} (he : IsComb s.heap c pool st last idx) (q : Q idx s) : wpAny (model prog w) A (Builtin.Itertools.itNumbersFrom (.ref c) 3) Q E s := by
  unfold Builtin.Itertools.itNumbersFrom
  refine wpAny_bind (wpAny_load he (wpAny_pure ?_))
  have : ((Value.ref pool :: rawInt st :: last :: idx.map fun n : Nat => rawInt n).toArray.toList.drop 3).map (fun | .int n _ => n.toNat | _ => 0) = idx := by
    simp only [List.drop_succ_cons, List.drop_zero, List.map_map]
    have : ∀ l : List Nat, l.map ((fun | Value.int n _ => n.toNat | _ => 0) ∘ fun n : Nat => rawInt (n : Int)) = l := fun l => by
      induction l with
      | nil => rfl
      | cons a l ih => rw [List.map_cons, ih]; rfl
    exact this idx
  exact (congrArg (fun l => Q l s) this).mpr q
/-- what a turn leaves: the state, the places, the tuple given at p -/
def CombOut (h h' : Heap) (c pool p : Addr) (st : Int) (idx : List Nat) (vs : List Value) : Prop :=
  IsComb h' c pool st (.ref p) idx ∧ h'.get? p = some { cls := .type "tuple", data := .seq vs.toArray } ∧ (∀ b o, b ≠ c → h.get? b = some o → h'.get? b = some o)
set_option maxHeartbeats 4000000 in
theorem comb_give {c pool : Addr} {st : Int} {last : Value} {idx : List Nat} {xs : Array Value} {n : Nat} {Q : Fin → Shared → Prop} (f : List Nat → Sem Fin) (hf : ∀ l, f l = (do
      let result ← (do let items ← Builtin.Itertools.itPoolItems (.ref pool); newTuple (l.map fun i => items.getD i .none))
      let before ← field (.ref c) 2
      setField (.ref c) 2 result
      letGo [before] [result]
      ret result)) {o : Obj} (he : IsComb s.heap c pool st last idx) (ho : s.heap.get? pool = some o) (hd : o.data = .seq xs n) (hz : idx.length ≤ sizeLine)
    (hQ : ∀ h', CombOut s.heap h' c pool s.heap.objs.size st idx (idx.map fun i => xs.getD i .none) → Q (.done (.ret (.ref s.heap.objs.size))) { s with heap := h' }) : wpAny (model prog w) A (f idx) Q E s := by
  rw [hf]
  have hcl : c < s.heap.objs.size := Heap.lt_size he
  refine wpAny_bind (wpAny_bind (wpAny_bind (wpAny_seqItems ho hd (wpAny_pure (wpAny_newTuple ?_ (by rw [List.length_map]; exact hz))))))
  have he2 : IsComb (s.heap.push { cls := .type "tuple", data := .seq (idx.map fun i => xs.getD i .none).toArray }) c pool st last idx := Heap.get?_push_of_some _ he
  refine wpAny_bind (wpAny_field he2 rfl (x := last) rfl ?_)
  refine wpAny_bind (wpAny_setField_rec he2 (by simp) fun h' h1 h2 => ?_)
  refine wpAny_bind (wpAny_letGo (wpAny_pure (hQ h' ⟨?_, ?_, fun b o hb e => h2.extBut b o hb (Heap.get?_push_of_some _ e)⟩)))
  · unfold IsComb
    rw [h1]
    simp
  · exact h2.extBut _ _ (Nat.ne_of_gt hcl) (Heap.get?_push_size _ rfl)
theorem intField_of {c pool : Addr} {st : Int} {last : Value} {idx : List Nat} {Q : Int → Shared → Prop} (he : IsComb s.heap c pool st last idx) (q : Q st s) : wpAny (model prog w) A (Builtin.Itertools.itIntField (.ref c) 1) Q E s := by
  unfold Builtin.Itertools.itIntField
  exact wpAny_bind (wpAny_field he rfl (x := rawInt st) rfl (wpAny_pure q))
theorem comb_next0 {c pool : Addr} {last : Value} {idx : List Nat} {xs : Array Value} {n : Nat} {o : Obj} {Q : Fin → Shared → Prop} (he : IsComb s.heap c pool 0 last idx) (ho : s.heap.get? pool = some o) (hd : o.data = .seq xs n) (hcp : pool ≠ c) (hz : idx.length ≤ sizeLine)
    (hQ : ∀ h', CombOut s.heap h' c pool s.heap.objs.size 1 idx (idx.map fun i => xs.getD i .none) → Q (.done (.ret (.ref s.heap.objs.size))) { s with heap := h' }) :
    wpAny (model prog w) A (Builtin.«itertools.combinations.__next__» ⟨[.ref c], []⟩) Q E s := by
  refine wpAny_bind (m := slotArgs "__next__" 0 ⟨[.ref c], []⟩) (wpAny_pure ?_)
  show wpAny _ _ (field (.ref c) 0 >>= _) _ _ s
  refine wpAny_bind (wpAny_field he rfl (x := .ref pool) rfl ?_)
  refine wpAny_bind (idx_of he ?_)
  refine wpAny_bind (intField_of he ?_)
  show wpAny _ _ (setField (.ref c) 1 (rawInt 1) >>= _) _ _ s
  refine wpAny_bind (wpAny_setField_rec he (by simp) fun h1 e1 s1 => ?_)
  have he1 : IsComb h1 c pool 1 last idx := by unfold IsComb; rw [e1]; simp
  refine comb_give (s := { s with heap := h1 }) _ (fun l => rfl) he1 (s1.extBut _ _ hcp ho) hd hz fun h' co => ?_
  obtain ⟨a1, a2, a3⟩ := co
  have hs : h1.objs.size = s.heap.objs.size := s1.1
  rw [hs] at a1 a2
  have := hQ h' ⟨a1, a2, fun b o hb e => a3 b o hb (s1.extBut b o hb e)⟩
  simpa only [hs] using this
theorem comb_next1 {c pool : Addr} {last : Value} {idx nxt : List Nat} {xs : Array Value} {n : Nat} {o : Obj} {Q : Fin → Shared → Prop} (he : IsComb s.heap c pool 1 last idx) (ho : s.heap.get? pool = some o) (hd : o.data = .seq xs n) (hcp : pool ≠ c) (hz : nxt.length ≤ sizeLine) (hn : pvStep.1 xs.size idx = some nxt)
    (hQ : ∀ h', CombOut s.heap h' c pool s.heap.objs.size 1 nxt (nxt.map fun i => xs.getD i .none) → Q (.done (.ret (.ref s.heap.objs.size))) { s with heap := h' }) :
    wpAny (model prog w) A (Builtin.«itertools.combinations.__next__» ⟨[.ref c], []⟩) Q E s := by
  refine wpAny_bind (m := slotArgs "__next__" 0 ⟨[.ref c], []⟩) (wpAny_pure ?_)
  show wpAny _ _ (field (.ref c) 0 >>= _) _ _ s
  refine wpAny_bind (wpAny_field he rfl (x := .ref pool) rfl ?_)
  refine wpAny_bind (idx_of he ?_)
  refine wpAny_bind (intField_of he ?_)
  show wpAny _ _ (Builtin.Itertools.itPoolItems (.ref pool) >>= _) _ _ s
  refine wpAny_bind (wpAny_bind (wpAny_seqItems ho hd (wpAny_pure ?_)))
  split
  · rename_i nx heq
    have hnx : nx = nxt := Option.some.inj (heq.symm.trans hn)
    subst hnx
    unfold Builtin.Itertools.itSetNumbersFrom
    refine wpAny_bind (wpAny_updateFields he rfl ?_ (by simp; omega))
    have e1 := Heap.get?_update_self (Obj.mapFields fun fs => fs.extract 0 3 ++ (List.map (fun n : Nat => rawInt n) nx).toArray) he rfl
    have he1 : IsComb (s.heap.update c (Obj.mapFields fun fs => fs.extract 0 3 ++ (List.map (fun n : Nat => rawInt n) nx).toArray)) c pool 1 last nx := by
      unfold IsComb
      rw [e1]
      simp [Obj.mapFields]
    have s1 : Heap.SameBut c s.heap (s.heap.update c (Obj.mapFields fun fs => fs.extract 0 3 ++ (List.map (fun n : Nat => rawInt n) nx).toArray)) := Heap.SameBut.update ..
    refine comb_give (s := { s with heap := s.heap.update c (Obj.mapFields fun fs => fs.extract 0 3 ++ (List.map (fun n : Nat => rawInt n) nx).toArray) }) _ (fun l => rfl) he1 (s1.extBut _ _ hcp ho) hd hz fun h' co => ?_
    obtain ⟨a1, a2, a3⟩ := co
    have hs : (s.heap.update c (Obj.mapFields fun fs => fs.extract 0 3 ++ (List.map (fun n : Nat => rawInt n) nx).toArray)).objs.size = s.heap.objs.size := s1.1
    rw [hs] at a1 a2
    have := hQ h' ⟨a1, a2, fun b o hb e => a3 b o hb (s1.extBut b o hb e)⟩
    simpa only [hs] using this
  · rename_i heq
    exact absurd (heq.symm.trans hn) (by simp)
end
end PySem
set_option maxRecDepth 100000
set_option maxHeartbeats 4000000
/-! PvE7: itertools.combinations, its end, the next item -/
namespace PySem
open Sem (wp)
section
variable {prog : Program} {w : World} {A : Around} {E : Value → Shared → Prop} {s : Shared}
theorem comb_stop {α : Type} {Q : α → Shared → Prop} (hh : A.handled = none) (h : ∀ h' e, (∀ b o, s.heap.get? b = some o → h'.get? b = some o) → (∃ o, h'.get? e = some o ∧ o.cls = .type "StopIteration") → E (.ref e) { s with heap := h' }) : wpAny (model prog w) A (Builtin.Itertools.itStop : Sem α) Q E s := by
  unfold Builtin.Itertools.itStop
  refine wpAny_bind ?_
  simp only [newExc, newTuple]
  refine wpAny_bind (wpAny_newObj_type ?_ (by size_fits))
  refine wpAny_bind (m := firstArgMember _ _) (wpAny_of_eq (a := Value.none) (by first | rfl | (simp only [firstArgMember]; rfl)) ?_)
  refine wpAny_newObj_type ?_ (by size_fits)
  refine wpAny_raiseNew_none hh (h _ _ (fun b o e => Heap.get?_push_of_some _ (Heap.get?_push_of_some _ e)) ⟨_, Heap.get?_push_size _ rfl, rfl⟩)
theorem comb_pyNext {c pool p : Addr} {st : Int} {last : Value} {idx idx' : List Nat} {vs : List Value} {Q : Option Value → Shared → Prop} (he : IsComb s.heap c pool st last idx)
    (hn : ∀ (E : Value → Shared → Prop) (Q' : Fin → Shared → Prop), (∀ h', CombOut s.heap h' c pool p 1 idx' vs → Q' (.done (.ret (.ref p))) { s with heap := h' }) → ∀ A, wpAny (model prog w) A (Builtin.«itertools.combinations.__next__» ⟨[.ref c], []⟩) Q' E s)
    (hQ : ∀ h', CombOut s.heap h' c pool p 1 idx' vs → Q (some (.ref p)) { s with heap := h' }) : wpAny (model prog w) A (pyNext (.ref c)) Q E s := by
  have hT : s.TypeIs (.ref c) "itertools.combinations" := ⟨_, he, rfl⟩
  unfold pyNext
  refine wpAny_bind (wpAny_attempt (wpAny_callSpecial?_slot (name := Str.ofString "__next__") hT F.pv_slot_comb_next
    (wpAny_call_entry F.pv_slot_comb_next hT F.pv_entry_comb_next ?_ (F.pv_args_comb_next _))))
  exact hn _ _ (fun h' co => ⟨_, rfl, wpAny_pure (hQ h' co)⟩) _
theorem comb_pyEnd {c pool : Addr} {st : Int} {last : Value} {idx : List Nat} {Q : Option Value → Shared → Prop} (hh : A.handled = none) (he : IsComb s.heap c pool st last idx)
    (hst : st = 2 ∨ st = 1 ∧ ∃ (o : Obj) (xs : Array Value) (n : Nat), s.heap.get? pool = some o ∧ o.data = .seq xs n ∧ pvStep.1 xs.size idx = none)
    (hQ : ∀ h', Heap.ExtBut c s.heap h' → Q none { s with heap := h' }) : wpAny (model prog w) A (pyNext (.ref c)) Q E s := by
  have hT : s.TypeIs (.ref c) "itertools.combinations" := ⟨_, he, rfl⟩
  unfold pyNext
  refine wpAny_bind (wpAny_attempt (wpAny_callSpecial?_slot (name := Str.ofString "__next__") hT F.pv_slot_comb_next
    (wpAny_call_entry F.pv_slot_comb_next hT F.pv_entry_comb_next ?_ (F.pv_args_comb_next _))))
  refine wpAny_bind (m := slotArgs "__next__" 0 ⟨[.ref c], []⟩) (wpAny_pure ?_)
  show wpAny _ _ (field (.ref c) 0 >>= _) _ _ s
  refine wpAny_bind (wpAny_field he rfl (x := .ref pool) rfl ?_)
  refine wpAny_bind (idx_of he ?_)
  refine wpAny_bind (intField_of he ?_)
  rcases hst with rfl | ⟨rfl, o, xs, n, ho, hd, hn⟩
  · show wpAny _ _ (rule _ >>= _) _ _ s
    refine wpAny_bind (wpAny_rule ?_)
    refine comb_stop hh fun h' e k ⟨o, ho, hc⟩ => ?_
    refine wpAny_bind (wpAny_isInstance (T := "StopIteration") (b := true) ⟨o, ho, hc⟩ isSubtype_stop ?_)
    exact wpAny_pure (hQ _ fun b o _ e => k b o e)
  · show wpAny _ _ (Builtin.Itertools.itPoolItems (.ref pool) >>= _) _ _ s
    refine wpAny_bind (wpAny_bind (wpAny_seqItems ho hd (wpAny_pure ?_)))
    split
    · rename_i nx heq
      exact absurd (hn.symm.trans heq) (by simp)
    · refine wpAny_bind (wpAny_setField_rec he (by simp) fun h1 e1 s1 => ?_)
      refine comb_stop hh fun h' e k ⟨o, ho, hc⟩ => ?_
      refine wpAny_bind (wpAny_isInstance (T := "StopIteration") (b := true) ⟨o, ho, hc⟩ isSubtype_stop ?_)
      exact wpAny_pure (hQ _ fun b o hb e => k b o (s1.extBut b o hb e))
end
end PySem
set_option maxRecDepth 100000
set_option maxHeartbeats 4000000
/-! PvE8: itertools.combinations, made -/
namespace PySem
open Sem (wp)
/-- what the making leaves -/
def CombNew (h h' : Heap) (c pool : Addr) (items : Array Value) (r : Nat) : Prop :=
  IsComb h' c pool (if r > items.toList.length then 2 else 0) .none (List.range r) ∧ (∃ o, h'.get? pool = some o ∧ o.cls = .type "tuple" ∧ o.data = .seq items 0) ∧ (∃ h1 : Heap, (∀ b o, h.get? b = some o → h1.get? b = some o) ∧ (∀ b o, h1.get? b = some o → h'.get? b = some o) ∧ h1.objs.size ≤ pool ∧ h1.objs.size ≤ c) ∧ pool ≠ c
theorem comb_new_meets (l : Addr) (items : Array Value) (n : Nat) (T : String) (hT : T = "list" ∨ T = "tuple") (r : Int) (t : Tok) (h0 : 0 ≤ r) (h1 : r ≤ 2 ^ 20) (hz : items.size ≤ sizeLine) :
    Meets (Builtin.«itertools.combinations.__new__» ⟨[.type "itertools.combinations", .ref l, .int r t], []⟩) (fun _ R s => (∃ o, s.heap.get? l = some o ∧ o.cls = .type T ∧ o.data = .seq items n) ∧
      ∀ h' c pool, CombNew s.heap h' c pool items r.toNat → R (.ok (.ret (.ref c))) { s with heap := h' }) :=
  .of_wp fun prog w A R s h => by
    obtain ⟨⟨o, ho, hc, hd⟩, h⟩ := h
    have hsub := F.pv_sub_comb
    show wpAny _ _ _ _ _ s
    unfold Builtin.«itertools.combinations.__new__»
    refine wpAny_bind ?_
    refine wpAny_bind (m := Builtin.Itertools.itClassAndRest "combinations" ⟨[.type "itertools.combinations", .ref l, .int r t], []⟩) ?_
    · unfold Builtin.Itertools.itClassAndRest
      refine wpAny_bind (m := isType _) (wpAny_of_eq (a := true) (by rfl) ?_)
      refine wpAny_bind (m := isSubtype _ _) (wpAny_of_eq (a := true) hsub ?_)
      refine wpAny_pure ?_
      refine wpAny_bind (m := Builtin.Itertools.itBindNamed "combinations" ["iterable", "r"] 2 2 [.ref l, .int r t] []) (wpAny_of_eq (a := [some (.ref l), some (.int r t)]) (by rfl) ?_)
      refine wpAny_bind (m := Builtin.Itertools.itSsizeArg (.int r t)) ?_
      · unfold Builtin.Itertools.itSsizeArg
        refine wpAny_bind (m := asIndex _) (wpAny_of_eq (a := r) (by rfl) ?_)
        rw [if_neg (by simp only [Bool.or_eq_true, decide_eq_true_eq, not_or]; omega)]
        refine wpAny_pure ?_
        refine wpAny_bind (wpAny_collect_seq l hT ho hc hd (fun h1' k1 => ?_) hz)
        rw [if_neg (by omega), if_neg (by unfold Builtin.Itertools.itTooMany; simp only [decide_eq_true_eq]; omega)]
        refine wpAny_bind (wpAny_newTuple (wpAny_pure ?_) (by simpa using hz))
        refine wpAny_bind ?_
        show wpAny _ _ (if !typeHasDict (.type "itertools.combinations") then _ else _) _ _ _
        rw [if_pos (by decide +kernel)]
        refine wpAny_newObj_type ?_ (by have e := sizeLine_eq; show Array.size _ ≤ _ ; simp only [List.size_toArray, List.length_append, List.length_map, List.length_range, List.length_cons, List.length_nil]; omega)
        refine wpAny_pure ⟨_, rfl, h _ _ h1'.objs.size ⟨?_, ?_, ⟨h1', k1, fun b o e => Heap.get?_push_of_some _ (Heap.get?_push_of_some _ e), Nat.le_refl _, by rw [Heap.size_push]; exact Nat.le_succ _⟩, ?_⟩⟩
        · unfold IsComb
          rw [Heap.get?_push_size _ (Obj.isFreed_of_fields rfl)]
          simp [rawInt]
        · exact ⟨_, Heap.get?_push_of_some _ (Heap.get?_push_size _ rfl), rfl, by simp⟩
        · rw [Heap.size_push]; exact Nat.ne_of_lt (Nat.lt_succ_self _)
end PySem
set_option maxRecDepth 100000
set_option maxHeartbeats 4000000
/-! PvE9: itertools.combinations is walked -/
namespace Pv
open PySem PySem.Spec PyProof.Rows L2

/-- the places, one behind another, as the table's step gives them -/
structure Chain (n r : Nat) (L : List (List Nat)) : Prop where
  fst : ∀ a, L[0]? = some a → a = List.range r
  len : ∀ a ∈ L, a.length = r ∧ ∀ j ∈ a, j < n
  nxt : ∀ i a b, L[i]? = some a → L[i + 1]? = some b → pvStep.1 n a = some b
  stp : ∀ i a, L[i]? = some a → L[i + 1]? = none → pvStep.1 n a = none
  emp : L = [] ↔ r > n
def stepsB (n : Nat) : List (List Nat) → Bool
  | [] => true
  | [a] => pvStep.1 n a == none
  | a :: b :: l => pvStep.1 n a == some b && stepsB n (b :: l)
def chainB (n r : Nat) (L : List (List Nat)) : Bool :=
  (match L with | [] => decide (r > n) | a :: _ => (a == List.range r) && !decide (r > n)) && L.all (fun a => a.length == r && a.all fun j => decide (j < n)) && stepsB n L
theorem stepsB_ok {n : Nat} : ∀ {L : List (List Nat)}, stepsB n L = true → (∀ i a b, L[i]? = some a → L[i + 1]? = some b → pvStep.1 n a = some b) ∧ ∀ i a, L[i]? = some a → L[i + 1]? = none → pvStep.1 n a = none
  | [], _ => ⟨fun i a b h => by simp at h, fun i a h => by simp at h⟩
  | [x], h => by
    simp only [stepsB, beq_iff_eq] at h
    refine ⟨fun i a b h1 h2 => by simp at h2, fun i a h1 h2 => ?_⟩
    cases i with
    | zero => simp at h1; rw [← h1]; exact h
    | succ i => simp at h1
  | x :: y :: l, h => by
    simp only [stepsB, Bool.and_eq_true, beq_iff_eq] at h
    obtain ⟨q1, q2⟩ := stepsB_ok h.2
    refine ⟨fun i a b h1 h2 => ?_, fun i a h1 h2 => ?_⟩
    · cases i with
      | zero => simp at h1 h2; rw [← h1, ← h2]; exact h.1
      | succ i => exact q1 i a b (by simpa using h1) (by simpa using h2)
    · cases i with
      | zero => simp at h2
      | succ i => exact q2 i a (by simpa using h1) (by simpa using h2)
theorem chainB_ok {n r : Nat} {L : List (List Nat)} (h : chainB n r L = true) : Chain n r L := by
  unfold chainB at h
  simp only [Bool.and_eq_true, List.all_eq_true, beq_iff_eq, decide_eq_true_eq] at h
  obtain ⟨⟨h1, h2⟩, h3⟩ := h
  obtain ⟨q1, q2⟩ := stepsB_ok h3
  refine ⟨fun a ha => ?_, fun a ha => ⟨(h2 a ha).1, (h2 a ha).2⟩, q1, q2, ?_⟩
  · cases L with
    | nil => simp at ha
    | cons x l => simp at ha h1; rw [← ha]; exact h1.1
  · cases L with
    | nil => simpa using h1
    | cons x l => simp at h1; simp; omega
/-- pick -/
def pickV (vs : List V) (a : List Nat) : List V := a.map fun i => vs.getD i .non
def ItC (vs : List V) (L : List (List Nat)) : It :=
  ⟨fun i _ => i < L.length, fun i H v H' => ∃ T a, v = .ref T ∧ H T = none ∧ L[i]? = some a ∧ H' = upd H T (.tup (pickV vs a)), fun i _ => L.length ≤ i⟩
theorem vals_pick {vs : List V} {items : List Value} (rv : Vals vs items) : ∀ (a : List Nat), (∀ j ∈ a, j < items.length) → Vals (pickV vs a) (a.map fun i => items.toArray.getD i .none)
  | [], _ => .nil
  | j :: a, h => by
    have hj := h j (List.mem_cons_self ..)
    refine .cons ?_ (vals_pick rv a fun k hk => h k (List.mem_cons_of_mem _ hk))
    have hv : j < vs.length := by rw [rv.length]; exact hj
    obtain ⟨u, e, r⟩ := rv.get (List.getElem?_eq_getElem hv)
    have e1 : vs.getD j .non = vs[j] := by rw [List.getD_eq_getElem?_getD, List.getElem?_eq_getElem hv]; rfl
    have e2 : items.toArray.getD j .none = u := by
      have := (List.getElem?_eq_some_iff.mp e).2
      simp [Array.getD, hj, this]
    show RelV (vs.getD j .non) (items.toArray.getD j .none)
    rw [e1, e2]
    exact r
def TnC (c pool : Addr) (items : List Value) (r : Nat) (L : List (List Nat)) (i : Nat) (h : Heap) : Prop :=
  i ≤ L.length ∧ (∃ o, h.get? pool = some o ∧ o.cls = .type "tuple" ∧ o.data = .seq items.toArray 0) ∧
    match i with
    | 0 => IsComb h c pool (if L = [] then 2 else 0) .none (List.range r)
    | k + 1 => ∃ (p : Addr) (a : List Nat), L[k]? = some a ∧ IsComb h c pool 1 (.ref p) a
theorem turn_comb {P : Program} {w : World} {K : PySem.W.Frag} {tg : Expr} {c pool : Addr} {vs : List V} {items : List Value} {r : Nat} {L : List (List Nat)} (hcp : pool ≠ c) (rv : Vals vs items) (C : Chain items.length r L) (hr : r ≤ sizeLine) :
    Turn P w K tg (ItC vs L) [c, pool] c (TnC c pool items r L) where
  mem := by simp
  obj := fun i h st b hb => by
    obtain ⟨_, ⟨o, ho, hc, hd⟩, st⟩ := st
    have e' : b = c ∨ b = pool := by simpa using hb
    rcases e' with z | z
    · subst z
      cases i with
      | zero => exact ⟨_, st, fun v q => nomatch q⟩
      | succ k => obtain ⟨p, a, _, st⟩ := st; exact ⟨_, st, fun v q => nomatch q⟩
    · subst z
      exact ⟨o, ho, fun v q => by rw [hd] at q; cases q⟩
  keep := fun i h h' st k => by
    obtain ⟨hi, ⟨o, ho, hc, hd⟩, st⟩ := st
    refine ⟨hi, ⟨o, k pool (by simp) _ ho, hc, hd⟩, ?_⟩
    cases i with
    | zero => exact k c (by simp) _ st
    | succ j => obtain ⟨p, a, e, st⟩ := st; exact ⟨p, a, e, k c (by simp) _ st⟩
  item := by
    intro X hP hw hK hc i pins s σ H E I hf st hg
    subst hP hw hK
    obtain ⟨hi, ⟨o, ho, hcl, hd⟩, st⟩ := st
    have hg : i < L.length := hg
    have hLi : L[i]? = some L[i] := List.getElem?_eq_getElem hg
    obtain ⟨len, bd⟩ := C.len _ (List.getElem_mem hg)
    have fin : ∀ h', CombOut s.heap h' c pool s.heap.objs.size 1 L[i] (L[i].map fun j => items.toArray.getD j .none) →
        ∃ u, some (Value.ref s.heap.objs.size) = some u ∧ wpAny (model X.prog X.w) X.A (letOwnedTupleGo tg (.ref c) u) (fun _ s2 => ∃ x H', Inv X pins σ H' s2 ∧ RelV x u ∧ (ItC vs L).yld i H x H' ∧ TnC c pool items r L (i + 1) s2.heap ∧ ∀ b ∈ [c, pool], H' b = none) E { s with heap := h' } := fun h' ⟨a1, a2, a3⟩ => by
      have new : ObjOk X.prog X.w (upd H s.heap.objs.size (.tup (pickV vs L[i]))) h' s.heap.objs.size (.tup (pickV vs L[i])) :=
        ⟨by rw [pickV, List.length_map, len]; exact hr, _, vals_pick rv _ bd, ⟨_, a2, rfl, _, rfl⟩⟩
      have I1 : Inv X pins σ (upd H s.heap.objs.size (.tup (pickV vs L[i]))) { s with heap := h' } :=
        I.turnedNew (t' := s.toks) (ch := [c, pool]) (fun b ob hb q => a3 b ob (fun z => hb (by simp [z])) q) hf (Nat.le_refl _) new
      refine ⟨_, rfl, go_of (s := { s with heap := h' }) a1 rfl rfl (by decide) ⟨.ref s.heap.objs.size, _, I1, rfl, ⟨_, _, rfl, I.hok.fresh (Nat.le_refl _), hLi, rfl⟩, ⟨hg, ⟨o, a3 _ _ hcp ho, hcl, hd⟩, _, _, hLi, a1⟩, fun b hb => ?_⟩⟩
      have hb' : b < s.heap.objs.size := by
        have e' : b = c ∨ b = pool := by simpa using hb
        rcases e' with z | z
        · rw [z]
          cases i with
          | zero => exact Heap.lt_size st
          | succ k => obtain ⟨p, a, _, st⟩ := st; exact Heap.lt_size st
        · rw [z]; exact Heap.lt_size ho
      rw [upd_ne (Nat.ne_of_lt hb')]
      exact (hf b hb).1
    cases i with
    | zero =>
      have hne : L ≠ [] := fun z => by rw [z] at hg; simp at hg
      have st : IsComb s.heap c pool (if L = [] then 2 else 0) .none (List.range r) := st
      rw [if_neg hne] at st
      have e0 : L[0] = List.range r := C.fst _ hLi
      rw [e0] at fin
      exact comb_pyNext st (fun E Q' q A => comb_next0 st ho hd hcp (by simpa using hr) q) fin
    | succ k =>
      obtain ⟨p, a, ea, st⟩ := st
      have hn := C.nxt k a _ ea hLi
      exact comb_pyNext st (fun E Q' q A => comb_next1 st ho hd hcp (by rw [len]; exact hr) (by simpa using hn) q) fin
  done := by
    intro X hP hw hK hc i pins s σ H E I hf st hg
    subst hP hw hK
    obtain ⟨hi, ⟨o, ho, hcl, hd⟩, st⟩ := st
    have hg : L.length ≤ i := hg
    have hil : i = L.length := Nat.le_antisymm hi hg
    obtain ⟨f0, f1, f2, f3, f4, f5⟩ := hf c (by simp)
    have fin : ∀ h', Heap.ExtBut c s.heap h' → (none : Option Value) = none ∧ Inv X pins σ H { s with heap := h' } := fun h' eb => ⟨rfl, I.turned (t' := s.toks) (fun b o hb e => eb b o hb e) f0 f1 f3 f4 f5⟩
    cases i with
    | zero =>
      have hL : L = [] := List.length_eq_zero_iff.mp hil.symm
      have st : IsComb s.heap c pool (if L = [] then 2 else 0) .none (List.range r) := st
      rw [if_pos hL] at st
      exact comb_pyEnd (I.ok.hd hc) st (.inl rfl) fin
    | succ k =>
      obtain ⟨p, a, ea, st⟩ := st
      have hno : L[k + 1]? = none := List.getElem?_eq_none (by omega)
      exact comb_pyEnd (I.ok.hd hc) st (.inr ⟨rfl, o, _, _, ho, hd, by simpa using C.stp k a ea hno⟩) fin
  self := fun A i s Q E st h => by
    obtain ⟨_, _, st⟩ := st
    cases i with
    | zero => exact pv_iter_comb st h
    | succ k => obtain ⟨p, a, _, st⟩ := st; exact pv_iter_comb st h
/-! ### the walk's making -/
def pickD (xs : List D) (a : List Nat) : D := .tup (a.map fun i => xs.getD i .non)
/-- all picks of r places of n, in order -/
def cix : Nat → Nat → Nat → List (List Nat)
  | _, _, 0 => [[]]
  | 0, _, _ + 1 => []
  | n + 1, k, r + 1 => (cix n (k + 1) r).map (k :: ·) ++ cix n (k + 1) (r + 1)
def combG : List D → Option (List D)
  | [d, .int r] => match seqS d with
    | some xs => if 0 ≤ r ∧ r ≤ 64 ∧ xs.length ≤ 64 ∧ chainB xs.length r.toNat (cix xs.length 0 r.toNat) = true ∧ (cix xs.length 0 r.toNat).length ≤ cap then some ((cix xs.length 0 r.toNat).map (pickD xs)) else none
    | none => none
  | _ => none
section
variable {X : Cx} {c : Cn} {W : L2.St → WE} {R : Per} (hR : ∀ G H G' H', R G H G' H' → ExtS G H G' H')
include hR
theorem relL_pick {G : List Addr} {H : Hp} {xs : List D} {vs : List V} (r : RelL c G H xs vs) : ∀ (a : List Nat), (∀ j ∈ a, j < xs.length) → RelL c G H (a.map fun i => xs.getD i .non) (pickV vs a)
  | [], _ => by simp [RelL, pickV]
  | j :: a, h => by
    have hj := h j (List.mem_cons_self ..)
    obtain ⟨v, e1, st, rv⟩ := r.get (List.getElem?_eq_getElem hj)
    have e2 : vs.getD j .non = v := by rw [List.getD_eq_getElem?_getD, e1]; rfl
    have e3 : xs.getD j .non = xs[j] := by rw [List.getD_eq_getElem?_getD, List.getElem?_eq_getElem hj]; rfl
    have := relL_pick r a fun k hk => h k (List.mem_cons_of_mem _ hk)
    simp only [pickV, List.map_cons, RelL]
    exact ⟨v, _, by rw [e2]; rfl, by rw [e3]; exact st, by rw [e3]; exact rv, this⟩
theorem yields_comb {G : List Addr} {H : Hp} {vs : List V} {ds : List D} {L : List (List Nat)} {r : Nat} (C : Chain ds.length r L) (hl : L.length ≤ cap) (rl : RelL c G H ds vs) : Yields R c G H (ItC vs L) (L.map (pickD ds)) := by
  refine ⟨by rw [List.length_map]; exact hl, ?_, fun i d G' H' x e => ?_, fun G' H' x => by show L.length ≤ (L.map (pickD ds)).length; rw [List.length_map]; exact Nat.le_refl _⟩
  · rw [List.all_eq_true]
    intro d hd
    obtain ⟨a, _, rfl⟩ := List.mem_map.mp hd
    rfl
  · rw [List.getElem?_map] at e
    cases ea : L[i]? with
    | none => rw [ea] at e; cases e
    | some a =>
      rw [ea] at e
      cases e
      refine ⟨(List.getElem?_eq_some_iff.mp ea).1, fun y H'' ⟨T, a', e1, nT, e2, e3⟩ => ?_⟩
      rw [ea] at e2
      cases e2
      subst e1
      subst e3
      refine ⟨ExtN.upd nT, Rel.newTup nT (relL_pick hR (RelL.extS (hR _ _ _ _ x) rl) a fun j hj => (C.len a (List.mem_of_getElem? ea)).2 j hj)⟩
theorem pi_combD {tg e e2 : Expr} {f : RX (List D)} {p pos : Pos} (hself : ∀ G H, R G H G H) (hc : X.K = c.K) (hg : Gl X "combinations") (hm : X.mg "combinations" = some (.type "itertools.combinations")) (ha : PA X [e, e2] (tA c W f)) (hs : starEach [e, e2] X.env = (false, eval e X.env) :: starEach [e2] X.env) (hpl : (backTo pos (starEach [e2] X.env)).any (·.1) = false) :
    PI X tg (.Call (.Name "combinations" p) [e, e2] [] pos) (tI R c W (itA combG f)) := by
  refine ⟨fun pins s σ H Q I h => ?_⟩
  refine Call_ (ld_glob I hg hm (PyProof.Rows.callWith_type1 (thn (ha.run pos pins s σ H _ I (tI.startA h)) fun us s1 ⟨vs, H1, I1, r1, q1⟩ => ?_) hs hpl) (by decide))
  obtain ⟨G, as, ds, ra, eg, q⟩ := q1
  unfold combG at eg
  split at eg
  rotate_left
  · cases eg
  rename_i d r
  obtain ⟨v, w, rfl, rv, rw'⟩ := ra.two
  split at eg
  rotate_left
  · cases eg
  rename_i xs hxs
  split at eg
  rotate_left
  · cases eg
  rename_i hh
  cases eg
  obtain ⟨k0, k1, k2, k3, k4⟩ := hh
  have C := chainB_ok k3
  simp only [Rel] at rw'
  subst rw'
  -- the pool's source
  have src : ∃ (a : Addr) (ws : List V) (its : List Value) (T : String) (o : Obj) (n : Nat), v = .ref a ∧ Vals ws its ∧ RelL c G H1 xs ws ∧ (T = "list" ∨ T = "tuple") ∧ s1.heap.get? a = some o ∧ o.cls = .type T ∧ o.data = .seq its.toArray n ∧ its.length ≤ sizeLine := by
    cases d <;> simp only [seqS, reduceCtorEq, Option.some.injEq] at hxs
    · subst hxs
      obtain ⟨a, ws, rfl, hp, rl⟩ := rv.tup
      obtain ⟨its, rvv, ⟨o, ho, hcl, n, hd⟩, hz⟩ := I1.tuple (by rw [hc]; exact hp)
      exact ⟨a, ws, its, "tuple", o, n, rfl, rvv, rl, .inr rfl, ho, hcl, hd, by rw [← rvv.length]; exact hz⟩
    · subst hxs
      obtain ⟨a, ws, rfl, hp, rl⟩ := rv.list rfl
      obtain ⟨its, rvv, hls, hz⟩ := I1.list (.inl hp)
      obtain ⟨o, ho, hcl, n, hd⟩ := hls.isList
      exact ⟨a, ws, its, "list", o, n, rfl, rvv, rl, .inl rfl, ho, hcl, hd, by rw [← rvv.length]; exact hz⟩
  obtain ⟨a, ws, its, T, o, n, rfl, rvv, rl, hT, ho, hcl, hd, hz⟩ := src
  obtain ⟨u1, u2, rfl, e1, e2⟩ := Vals.two r1
  cases e1
  obtain ⟨t, rfl⟩ := e2
  have hlen : its.length = xs.length := by rw [← rvv.length, rl.length]
  refine callType_new F.pv_called_comb (by decide) (F.pv_typeCall_comb _ _) (F.pv_newCall_comb _ _) (fun obj => F.args_object_init_3 obj _ _) F.pv_entry_comb_new
    (comb_new_meets a its.toArray n T hT r t k0 (by omega) (by simpa using hz)) ⟨⟨o, ho, hcl, hd⟩, fun h' cc pool CN => ?_⟩
  obtain ⟨c1, ⟨po, hpo, hpc, hpd⟩, ⟨h1, kk1, kk2, f1, f2⟩, hcp⟩ := CN
  have I2 : Inv X pins σ H1 { s1 with heap := h1 } := I1.kept (t' := s1.toks) kk1
  have I3 : Inv X pins σ H1 { s1 with heap := h' } := I1.kept (t' := s1.toks) fun b o e => kk2 b o (kk1 b o e)
  have hemp : (if r.toNat > its.length then (2 : Int) else 0) = if cix xs.length 0 r.toNat = [] then 2 else 0 := by
    by_cases hx : r.toNat > its.length
    · rw [if_pos hx, if_pos (C.emp.mpr (by rw [← hlen]; exact hx))]
    · rw [if_neg hx, if_neg fun z => hx (by rw [hlen]; exact C.emp.mp z)]
  have c1 : IsComb h' cc pool (if cix xs.length 0 r.toNat = [] then 2 else 0) .none (List.range r.toNat) := by
    rw [← hemp]
    simpa using c1
  refine ⟨⟨_, c1, rfl⟩, pv_iter_comb c1 ?_⟩
  refine ⟨cc, [cc, pool], _, ItC ws (cix xs.length 0 r.toNat), H1, rfl, I3, turn_comb (items := its) (r := r.toNat) hcp rvv (by rw [hlen]; exact C) (by have := sizeLine_eq; omega), ⟨Nat.zero_le _, ⟨po, hpo, hpc, hpd⟩, c1⟩, fun b hb => ?_, q _ (yields_comb hR C k4 rl)⟩
  have hb' : b = cc ∨ b = pool := by simpa using hb
  have hle : h1.objs.size ≤ b := by rcases hb' with z | z <;> rw [z] <;> assumption
  have := I2.fpOk hle (I2.hok.fresh hle)
  exact this
end
end Pv
set_option maxRecDepth 100000
set_option maxHeartbeats 1000000
/-! PvE10: list(range(n)) -/
namespace Pv
open PySem PySem.Spec PyProof.Rows L2
def dLrng : D → Option D
  | .int j => if inRng j && decide (j.toNat ≤ cap) then some (.lst (rngL 0 j.toNat)) else none
  | _ => none
section
variable {X : Cx} {c : Cn} {W : L2.St → WE}
theorem rel_rng {G : List Addr} {H : Hp} (n : Nat) (lo : Int) : RelL c G H (rngL lo n) ((List.range n).map fun i => V.int (lo + (i : Nat))) := by
  unfold rngL
  generalize List.range n = l
  induction l with
  | nil => simp [RelL]
  | cons a l ih =>
    simp only [List.map_cons, RelL]
    exact ⟨_, _, rfl, rfl, by simp only [Rel], ih⟩
theorem pe_lrngD (hm : X.calm = true) {a : Expr} {f : RX D} {p1 p2 p3 p4 : Pos} (g1 : Gl X "list") (m1 : X.mg "list" = none) (g2 : Gl X "range") (m2 : X.mg "range" = none) (ha : PE X a (tD c W f)) (hs : starEach [a] X.env = [(false, eval a X.env)]) :
    PE X (.Call (.Name "list" p1) [.Call (.Name "range" p2) [a] [] p3] [] p4) (tD c W (un1 dLrng f)) := by
  refine (pe_frz (pe_listRg hm g1 m1 (prg_1 g2 m2 ha hs) rfl)).imp fun σ H Q h => ?_
  refine tD.mono (tD.one h) fun x H1 ⟨G, d, d', r, e, q⟩ => ?_
  unfold dLrng at e
  split at e
  · rename_i j
    split at e
    · rename_i hj
      cases e
      simp only [inRng, Bool.and_eq_true, decide_eq_true_eq] at hj
      refine ⟨j, r.int, ?_, fun p np => ⟨p, _, rfl, upd_same, fun o => ?_⟩⟩
      · have e1 := cap_eq
        have e2 := sizeLine_eq
        unfold RgOk
        omega
      · rw [frz_new]
        refine q _ _ (ExtN.upd np) (Rel.newLst np ?_)
        have := rel_rng (c := c) (G := G) (H := H1) j.toNat 0
        simpa [rgV] using this
    · cases e
  · cases e
end
end Pv
set_option maxRecDepth 100000
set_option maxHeartbeats 1000000
/-! PvE11: stars in displays, count, repr beside repr -/
namespace Pv
open PySem PySem.Spec PyProof.Rows L2 StX

/-! ### stars in displays -/
def starA (f : RX D) (g : RX (List D)) : RX (List D) := fun ρ δ => (f ρ δ).bind fun d δ1 => (ofO (seqD d) δ1).bind fun xs δ2 => (g ρ δ2).bind fun ds δ3 => .ok (xs ++ ds) δ3
theorem RelA.ofL {c : Cn} {G : List Addr} {H : Hp} : ∀ {ds : List D} {vs : List V}, RelL c G H ds vs → RelA c G H ds vs
  | [], _, h => by simpa [RelL, RelA] using h
  | d :: ds, _, h => by
    simp only [RelL] at h
    obtain ⟨v, r, e, _, h1, h2⟩ := h
    simp only [RelA]
    exact ⟨v, r, e, h1, RelA.ofL h2⟩
theorem RelA.append {c : Cn} {G : List Addr} {H : Hp} : ∀ {ds es : List D} {vs ws : List V}, RelA c G H ds vs → RelA c G H es ws → RelA c G H (ds ++ es) (vs ++ ws)
  | [], _, _, _, h, h' => by simp only [RelA] at h; subst h; simpa using h'
  | d :: ds, es, _, ws, h, h' => by
    simp only [RelA, List.cons_append] at h ⊢
    obtain ⟨v, r, rfl, h1, h2⟩ := h
    exact ⟨v, r ++ ws, rfl, h1, RelA.append h2 h'⟩
section
variable {X : Cx} {c : Cn} {W : L2.St → WE}
theorem tA.star {f : RX D} {g : RX (List D)} {σ : L2.St} {H : Hp} {Q : List V → Hp → Prop} (hc : X.K = c.K) (h : tA c W (starA f g) σ H Q) : tStar X.K (tD c W f) (tA c W g) σ H Q := by
  refine tG.first (f := f) (k := fun d ρ δ1 => (ofO (seqD d) δ1).bind fun xs δ2 => (g ρ δ2).bind fun ds δ3 => .ok (xs ++ ds) δ3) h fun ρ d δ1 G1 H1 a1 p1 v rv => ?_
  cases e : seqD d with
  | none => rw [e] at p1; exact p1.elim
  | some xs =>
    rw [e] at p1
    have p1 : Post c (W σ) G1 H1 ((g ρ δ1).bind fun ds δ3 => .ok (xs ++ ds) δ3) _ := p1
    obtain ⟨a, vs, ex, hs, rl⟩ := Rel.seq e rv
    refine ⟨a, vs, ex, ?_, ?_⟩
    · rcases hs with hs | hs
      · exact .inr (by rw [hc]; exact hs)
      · exact .inl (by rw [hc]; exact hs)
    · refine ⟨ρ, δ1, G1, a1.sr, a1.dr, (Post.bind p1).mono fun ds G2 H2 x2 ⟨δ2, d2, p2⟩ ws rw' => ?_⟩
      exact Post.okIn p2 d2 _ ((RelA.ofL (RelL.extS x2.toS rl)).append rw')
theorem pa_starD (hc : X.K = c.K) {e : Expr} {es : List Expr} {p : Pos} {f : RX D} {g : RX (List D)} (ha : PE X e (tD c W f)) (hr : PA X es (tA c W g)) : PA X (.Starred e p :: es) (tA c W (starA f g)) :=
  (pa_star ha hr).imp fun _ _ _ h => tA.star hc h
end

/-! ### a.count(b) of lists -/
def cntL (xs : List D) (y : D) : Option D := if okd y && okL 39 xs then some (.int (xs.countP fun z => eqD z y : Nat)) else none
def cntF (fa fb : RX D) : RX D := fun ρ δ => (fa ρ δ).bind fun x δ1 => (ofO (listD x) δ1).bind fun xs δ2 => (fb ρ δ2).bind fun y δ3 => ofO (cntL xs y) δ3
theorem count_pd {x : D} (h : okd x = true) : ∀ {xs : List D}, okL 39 xs = true → (pdL xs).countP (fun z => PyData.eqv z (pd x)) = xs.countP fun z => eqD z x
  | [], _ => rfl
  | y :: ys, k => by
    simp only [okL, Bool.and_eq_true] at k
    simp only [pdL, List.countP_cons]
    rw [eqD_pd _ _ _ _ k.1 h, count_pd h k.2]
def rCount (c : Cn) : V → List V → Hp → VK → Prop := fun x xs H Q => ∃ (G : List Addr) (a : Addr) (ys : List D) (vs : List V) (d2 : D) (v : V), x = .ref a ∧ xs = [v] ∧ Rd H a (.lst vs) ∧ RelL c G H ys vs ∧ Rel c G H d2 v ∧ okd d2 = true ∧ okL 39 ys = true ∧ Q (.int (ys.countP fun z => eqD z d2 : Nat)) H
theorem mt_countD {X : Cx} {c : Cn} (hc : X.K = c.K) (hu : X.A.units + 65 < cLine) : MtR X "list.count" (rCount c) := by
  intro pins s σ H x xs v us Q I rx rxs h
  obtain ⟨G, a, ys, vs, d2, w, rfl, rfl, hp, rl, r2, hh1, hh2, q⟩ := h
  obtain ⟨u, rfl, ru⟩ := rxs.one
  have hh : okd d2 = true ∧ okL 39 ys = true := ⟨hh1, hh2⟩
  obtain ⟨bs, rd⟩ := Dp.reads I (pd d2) w u (by rw [hc]; exact Rel.dp _ _ _ hh.1 r2) ru
  cases rx
  obtain ⟨its, rv, ⟨⟨cls, dd, data, sls⟩, n, ho, hcl, hdn, hdt⟩, hlen⟩ := I.list (.inl hp)
  simp only at hcl hdt
  subst hcl hdt
  obtain ⟨as, h4⟩ := Dp.readsAll I (pdL ys) _ its (by rw [hc]; exact RelL.dp _ _ _ hh.2 rl) rv
  have lay := (pdL_lay 39 ys hh.2).1
  have sh := okd_shaped hh.1
  have hmap : its.map (SeqAt.readOf s.heap) = pdL ys := SeqAt.readsAll_map (pdL ys) its as lay h4
  have hroom : X.A.units + 1 + min (PyData.depthAll (pdL ys)) (pd d2).depth < cLine := PyProof.Rows.room_in_shaped sh hu
  refine call_meets PySem.F.slot_list_count ⟨_, ho, rfl⟩ PySem.F.entry_list_count (PySem.F.args_list_count_2 _ _)
    (SeqAt.list_countAt a its.toArray n dd sls u (fun z => PyData.eqv (SeqAt.readOf s.heap z) (pd d2))) ⟨ho, SeqAt.items_eqAt (vs := its.toArray) (show ReadsAll s.heap its.toArray.toList (pdL ys) as from h4) rd lay (SeqAt.canLay_of_shaped sh) hroom, ?_⟩
  have ec : its.toArray.toList.countP (fun z => PyData.eqv (SeqAt.readOf s.heap z) (pd d2)) = ys.countP fun z => eqD z d2 := by
    rw [← count_pd hh.1 hh.2, ← hmap, List.countP_map]
    simp only [List.toList_toArray]
    rfl
  refine ⟨.int (ys.countP fun z => eqD z d2 : Nat), H, I.tok _, ⟨s.toks, ?_⟩, q⟩
  show Value.int ((its.toArray.toList.countP (fun z => PyData.eqv (SeqAt.readOf s.heap z) (pd d2)) : Nat) : Int) s.toks = Value.int ((ys.countP fun z => eqD z d2 : Nat) : Int) s.toks
  rw [ec]
theorem cnt_read {c : Cn} {K : PySem.W.Frag} {W : L2.St → WE} {fa fb : RX D} {σ : L2.St} {H : Hp} {Q : VK} (h : tD c W (cntF fa fb) σ H Q) : tBM K "list" (rCount c) (tD c W fa) (tCons (tD c W fb) tNil) σ H Q := by
  refine tG.first (f := fa) (k := fun x ρ δ1 => (ofO (listD x) δ1).bind fun xs δ2 => (fb ρ δ2).bind fun y δ3 => ofO (cntL xs y) δ3) h fun ρ x δ1 G1 H1 a1 p1 v rv => ?_
  cases hl : listD x with
  | none => rw [hl] at p1; exact p1.elim
  | some xs =>
    rw [hl] at p1
    have p1 : Post c (W σ) G1 H1 ((fb ρ δ1).bind fun y δ3 => ofO (cntL xs y) δ3) _ := p1
    obtain ⟨a, vs, rfl, hp, rl⟩ := Rel.list hl rv
    refine ⟨?_, ?_⟩
    · rcases hp with hp | ⟨o, hp⟩
      · exact .inl ⟨rfl, vs, .inl (.inl hp)⟩
      · exact .inl ⟨rfl, vs, .inl (.inr ⟨o, hp⟩)⟩
    · refine ⟨ρ, δ1, G1, a1.sr, a1.dr, (Post.bind p1).mono fun y G2 H2 x2 ⟨δ2, d2, p2⟩ w rw' => ?_⟩
      obtain ⟨d, e, p3⟩ := Post.ofO p2
      unfold cntL at e
      split at e
      rotate_left
      · cases e
      rename_i hh
      simp only [Bool.and_eq_true] at hh
      cases e
      have rv2 := rv.ext x2
      obtain ⟨a', vs', ea, hp', rl'⟩ := Rel.list hl rv2
      cases ea
      exact ⟨G2, a, xs, vs', y, w, rfl, rfl, hp', rl', rw', hh.1, hh.2, Post.okN p3 d2 ExtN.refl _ (by simp only [Rel])⟩
/-! ### repr beside repr -/
/-! a bound of a text's length -/
mutual
def wt : D → Nat
  | .non => 4
  | .bl _ => 5
  | .int _ => 66
  | .str x => 10 * x.length + 2
  | .tup xs => wtL xs + 4
  | .lst xs => wtL xs + 4
  | .wk xs => wtL xs + 4
  | _ => 0
def wtL : List D → Nat
  | [] => 0
  | x :: xs => wt x + 2 + wtL xs
end
/-! data that repr shows in few signs: the depth as okD -/
mutual
def rpD : Nat → D → Bool
  | _, .non => true
  | _, .bl _ => true
  | _, .int i => decide (i.natAbs < 2 ^ 64)
  | _, .str x => PyData.strOk x
  | 0, .tup _ => false
  | n + 1, .tup xs => rpL n xs
  | 0, .lst _ => false
  | n + 1, .lst xs => rpL n xs
  | 0, .wk _ => false
  | n + 1, .wk xs => rpL n xs
  | _, _ => false
def rpL : Nat → List D → Bool
  | _, [] => true
  | n, x :: xs => rpD n x && rpL n xs
end
mutual
def same : D → D → Bool
  | .non, .non => true
  | .bl a, .bl b => a == b
  | .int i, .int j => decide (i = j)
  | .str x, .str y => decide (x = y)
  | .tup xs, .tup ys => sameL xs ys
  | .lst xs, .lst ys => sameL xs ys
  | .lst xs, .wk ys => sameL xs ys
  | .wk xs, .lst ys => sameL xs ys
  | .wk xs, .wk ys => sameL xs ys
  | _, _ => false
def sameL : List D → List D → Bool
  | [], [] => true
  | x :: xs, y :: ys => same x y && sameL xs ys
  | _, _ => false
end
mutual
theorem same_pd : ∀ {x y : D}, same x y = true → pd x = pd y
  | .non, y, h => by cases y <;> simp [same] at h; rfl
  | .bl a, y, h => by cases y <;> simp [same] at h; rw [h]
  | .int a, y, h => by cases y <;> simp [same] at h; rw [h]
  | .str a, y, h => by cases y <;> simp [same] at h; rw [h]
  | .tup xs, y, h => by
    cases y <;> simp only [same, Bool.false_eq_true] at h
    simp only [pd, sameL_pd h]
  | .lst xs, y, h => by
    cases y <;> simp only [same, Bool.false_eq_true] at h
    all_goals simp only [pd, sameL_pd h]
  | .wk xs, y, h => by
    cases y <;> simp only [same, Bool.false_eq_true] at h
    all_goals simp only [pd, sameL_pd h]
  | .dct _ _ _, y, h => by cases y <;> simp [same] at h
  | .wkd _ _ _, y, h => by cases y <;> simp [same] at h
  | .ref _, y, h => by cases y <;> simp [same] at h
  | .fn _, y, h => by cases y <;> simp [same] at h
  | .ty _, y, h => by cases y <;> simp [same] at h
  | .sc _, y, h => by cases y <;> simp [same] at h
  | .clo _ _ _ _ _, y, h => by cases y <;> simp [same] at h
theorem sameL_pd : ∀ {xs ys : List D}, sameL xs ys = true → pdL xs = pdL ys
  | [], ys, h => by cases ys <;> simp [sameL] at h; rfl
  | x :: xs, ys, h => by
    cases ys <;> simp only [sameL, Bool.and_eq_true, Bool.false_eq_true] at h
    simp only [pdL, same_pd h.1, sameL_pd h.2]
end
theorem tuple_len (ts : List Str) : (tupleText ts).length ≤ piled ts + 4 := by
  have e1 : (((if ts.length == 1 then ",)" else ")" : String) : Str)).length ≤ 2 := by split <;> decide +kernel
  have e2 : ((("(" : String) : Str)).length = 1 := rfl
  unfold tupleText
  rw [strLen_append, strLen_append, e2]
  by_cases h : ts = []
  · subst h; decide +kernel
  · have := join_length_add ts h
    omega
theorem from_len : ∀ (ts : List Str) (k : Nat) (acc : Str), (textFrom k acc ts).length ≤ acc.length + piled ts
  | [], k, acc => Nat.le_add_right _ _
  | t :: r, k, acc => by
    rw [piled_cons]
    have e : ((", " : String) : Str).length = 2 := rfl
    have := from_len r (k + 1) (acc ++ (if k > 0 then ", " else "" : String) ++ t)
    refine Nat.le_trans this ?_
    have e0 : (((if k > 0 then ", " else "" : String) : String) : Str).length ≤ 2 := by split <;> decide +kernel
    rw [strLen_append, strLen_append]
    omega
theorem list_len (ts : List Str) : (listText ts).length ≤ piled ts + 4 := by
  unfold listText
  rw [strLen_append]
  have := from_len ts 0 "["
  have e1 : (("[" : String) : Str).length = 1 := rfl
  have e2 : (("]" : String) : Str).length = 1 := rfl
  omega
mutual
theorem rpD_ok : ∀ {n : Nat} {x : D}, rpD n x = true → okD n x = true ∧ (pd x).showable = true ∧ (pd x).shown.length ≤ wt x
  | n, .non, _ => ⟨by cases n <;> rfl, by simp [pd, PyData.showable], by simp only [pd, PyData.shown, wt]; decide +kernel⟩
  | n, .bl b, _ => ⟨by cases n <;> rfl, by simp [pd, PyData.showable], by simp only [pd, PyData.shown, wt]; cases b <;> decide +kernel⟩
  | n, .int i, h => by
    have h : i.natAbs < 2 ^ 64 := by cases n <;> simpa [rpD] using h
    refine ⟨by cases n <;> rfl, ?_, ?_⟩
    · simp only [pd, PyData.showable, decide_eq_true_eq]
      have := Nat.log2_lt (n := i.natAbs) (k := 1920)
      by_cases z : i.natAbs = 0
      · rw [z]; decide
      · exact (Nat.log2_lt z).mpr (Nat.lt_of_lt_of_le h (Nat.pow_le_pow_right (by omega) (by omega)))
    · simp only [pd, PyData.shown, wt]
      have l2 : i.natAbs.log2 < 64 := by
        by_cases z : i.natAbs = 0
        · rw [z]; decide
        · exact (Nat.log2_lt z).mpr h
      have := int_text_length_le (a := i) (k := 64) (by omega) l2
      have el : (((toString i : String) : Str)).length = (toString i : String).length := PySem.ofString_length _
      omega
  | n, .str x, h => by
    have h : PyData.strOk x = true := by cases n <;> (simp only [rpD] at h; exact h)
    refine ⟨by cases n <;> (simp only [okD]; exact h), by simp [pd, PyData.showable], ?_⟩
    simp only [pd, PyData.shown, wt]
    refine StrLaws.reprText_len x fun ch hc => ?_
    have := Array.all_eq_true'.mp (show x.cps.all (· < 0x110000) = true from h) ch (by simpa using hc)
    simp only [decide_eq_true_eq] at this
    exact Nat.lt_trans this (by decide)
  | 0, .tup xs, h => by simp [rpD] at h
  | n + 1, .tup xs, h => by
    obtain ⟨h1, h2, h3⟩ := rpL_ok (n := n) (xs := xs) (by simpa [rpD] using h)
    refine ⟨by simpa [okD] using h1, by simpa [pd, PyData.showable] using h2, ?_⟩
    simp only [pd, PyData.shown, wt]
    have := tuple_len (PyData.shownAll (pdL xs))
    omega
  | 0, .lst xs, h => by simp [rpD] at h
  | n + 1, .lst xs, h => by
    obtain ⟨h1, h2, h3⟩ := rpL_ok (n := n) (xs := xs) (by simpa [rpD] using h)
    refine ⟨by simpa [okD] using h1, by simpa [pd, PyData.showable] using h2, ?_⟩
    simp only [pd, PyData.shown, wt]
    have := list_len (PyData.shownAll (pdL xs))
    omega
  | 0, .wk xs, h => by simp [rpD] at h
  | n + 1, .wk xs, h => by
    obtain ⟨h1, h2, h3⟩ := rpL_ok (n := n) (xs := xs) (by simpa [rpD] using h)
    refine ⟨by simpa [okD] using h1, by simpa [pd, PyData.showable] using h2, ?_⟩
    simp only [pd, PyData.shown, wt]
    have := list_len (PyData.shownAll (pdL xs))
    omega
  | n, .dct _ _ _, h => by cases n <;> simp [rpD] at h
  | n, .wkd _ _ _, h => by cases n <;> simp [rpD] at h
  | n, .ref _, h => by cases n <;> simp [rpD] at h
  | n, .fn _, h => by cases n <;> simp [rpD] at h
  | n, .ty _, h => by cases n <;> simp [rpD] at h
  | n, .sc _, h => by cases n <;> simp [rpD] at h
  | n, .clo _ _ _ _ _, h => by cases n <;> simp [rpD] at h
theorem rpL_ok : ∀ {n : Nat} {xs : List D}, rpL n xs = true → okL n xs = true ∧ PyData.showableAll (pdL xs) = true ∧ piled (PyData.shownAll (pdL xs)) ≤ wtL xs
  | n, [], _ => ⟨rfl, by simp [pdL, PyData.showableAll], by simp [pdL, PyData.shownAll, piled]⟩
  | n, x :: xs, h => by
    simp only [rpL, Bool.and_eq_true] at h
    obtain ⟨a1, a2, a3⟩ := rpD_ok h.1
    obtain ⟨b1, b2, b3⟩ := rpL_ok h.2
    refine ⟨by simp [okL, a1, b1], by simp [pdL, PyData.showableAll, a2, b2], ?_⟩
    simp only [pdL, PyData.shownAll, piled_cons, wtL]
    omega
end
/-- repr(a) == repr(b), repr(a) != repr(b): told where the data are the same -/
def rpOk (x : D) : Bool := rpD 40 x && decide (wt x ≤ cap) && (seqD x).isSome
def repF (neg : Bool) (fa fb : RX D) : RX D := fun ρ δ => (fa ρ δ).bind fun x δ1 => if rpOk x then (fb ρ δ1).bind fun y δ2 => if rpOk y && same x y then .ok (.bl (!neg)) δ2 else .no else .no
section
variable {X : Cx} {c : Cn} {W : L2.St → WE}
def rRepr (c : Cn) : List V → Hp → VK → Prop := fun xs H Q => ∃ G d v, xs = [v] ∧ Rel c G H d v ∧ rpOk d = true ∧ Q (.str (pd d).shown) H
theorem call_reprD (hc : X.K = c.K) (hg : X.A.guards = some []) (hu : X.A.units + 64 < cLine) : CallR X (.builtin "repr") (rRepr c) := by
  intro pins s σ H xs us Q I r h
  obtain ⟨G, d, v, rfl, rv, ok, q⟩ := h
  obtain ⟨u, rfl, ru⟩ := vals1 r
  unfold rpOk at ok
  simp only [Bool.and_eq_true, decide_eq_true_eq] at ok
  obtain ⟨⟨ok1, ok2⟩, ok3⟩ := ok
  obtain ⟨k1, k2, k3⟩ := rpD_ok ok1
  obtain ⟨as, rd⟩ := Dp.reads I (pd d) v u (by rw [hc]; exact Rel.dp _ _ _ k1 rv) ru
  obtain ⟨xs, hx⟩ := Option.isSome_iff_exists.mp ok3
  obtain ⟨a, vs, rfl, _, _⟩ := Rel.seq hx rv
  obtain rfl : u = Value.ref a := ru
  have lay := pd_lay 40 d k1
  exact repr_of_reads' (s := s) rd k2 (PyData.noDict_hsm (PyData.hasDict_of_canLay _ lay.1)) hg (by have := lay.2; omega) (fun _ _ e => e) (fun h' u tk hk => ⟨.str _, H, I.kept hk, ⟨_, rfl⟩, q⟩) (by rw [cap_eq]; exact Nat.le_trans k3 ok2)
def rReprs (neg : Bool) : R2 := if neg then rNe else rEq
theorem op_reprs {neg : Bool} : OpR X (compareOp (if neg then .NotEq else .Eq)) (rReprs neg) := by
  cases neg
  · exact op_eq
  · exact op_ne
theorem rep_read {neg : Bool} {fa fb : RX D} {σ : L2.St} {H : Hp} {Q : VK} (h : tD c W (repF neg fa fb) σ H Q) : tOp (rReprs neg) (tCB (rRepr c) (tCons (tD c W fa) tNil)) (tCB (rRepr c) (tCons (tD c W fb) tNil)) σ H Q := by
  refine tG.first (f := fa) (k := fun x ρ δ1 => if rpOk x then (fb ρ δ1).bind fun y δ2 => if rpOk y && same x y then .ok (D.bl (!neg)) δ2 else .no else .no) h fun ρ x δ1 G1 H1 a1 p1 v rv => ?_
  by_cases hx : rpOk x = true
  · rw [if_pos hx] at p1
    refine ⟨G1, x, v, rfl, rv, hx, ?_⟩
    refine ⟨ρ, δ1, G1, a1.sr, a1.dr, (Post.bind p1).mono fun y G2 H2 x2 ⟨δ2, d2, p2⟩ w rw' => ?_⟩
    split at p2
    · rename_i hy
      simp only [Bool.and_eq_true] at hy
      refine ⟨G2, y, w, rfl, rw', hy.1, ?_⟩
      have e : (pd x).shown = (pd y).shown := by rw [same_pd hy.2]
      have z := Post.okN p2 d2 ExtN.refl (V.bl (!neg)) (by simp only [Rel])
      unfold rReprs
      cases neg with
      | true =>
        refine ⟨rfl, ?_⟩
        rw [e]
        simpa using z
      | false =>
        refine ⟨rfl, ?_⟩
        rw [e]
        simpa using z
    · exact p2.elim
  · rw [if_neg hx] at p1; exact p1.elim
section
variable (hc : X.K = c.K) (hgd : X.A.guards = some []) (hu : X.A.units + 64 < cLine) {neg : Bool} {a b : Expr} {p1 p2 p3 p4 p5 : Pos} {fa fb : RX D} (g : Gl X "repr") (m : X.mg "repr" = none) (ha : PE X a (tD c W fa)) (hb : PE X b (tD c W fb)) (s1 : starEach [a] X.env = [(false, eval a X.env)])
  (s2 : starEach [b] X.env = [(false, eval b X.env)])
include hc hgd hu g m ha hb s1 s2
theorem pe_repD : PE X (.Compare (.Call (.Name "repr" p1) [a] [] p2) [if neg then .NotEq else .Eq] [.Call (.Name "repr" p3) [b] [] p4] p5) (tD c W (repF neg fa fb)) :=
  (pe_cmpR op_reprs (pe_callB (call_reprD hc hgd hu) g m PyProof.Rows.boot_repr (pa_cons ha pa_nil s1) (by decide) (by decide) s1 rfl) (pe_callB (call_reprD hc hgd hu) g m PyProof.Rows.boot_repr (pa_cons hb pa_nil s2) (by decide) (by decide) s2 rfl) rfl).imp fun _ _ _ h => rep_read h
theorem pt_repD : PT X (.Compare (.Call (.Name "repr" p1) [a] [] p2) [if neg then .NotEq else .Eq] [.Call (.Name "repr" p3) [b] [] p4] p5) (tT c W (asB (repF neg fa fb))) :=
  (pt_cmpR op_reprs (pe_callB (call_reprD hc hgd hu) g m PyProof.Rows.boot_repr (pa_cons ha pa_nil s1) (by decide) (by decide) s1 rfl) (pe_callB (call_reprD hc hgd hu) g m PyProof.Rows.boot_repr (pa_cons hb pa_nil s2) (by decide) (by decide) s2 rfl) rfl).imp fun σ H Q h => rep_read (tT.val h)
end
end
end Pv
set_option maxRecDepth 100000
set_option maxHeartbeats 1000000
/-! PvE12: min of a list of alike plain data -/
namespace Pv
open PySem PySem.Spec PyProof.Rows L2

def nnP : PyData → Bool
  | .none => false
  | _ => true
def alk (xs : List D) : Bool := xs.all fun x => (xs.all fun y => PySem.W.alike (pd x) (pd y)) && nnP (pd x)
def minT (x : D) (xs : List D) : D := xs.foldl (fun a y => if PySem.W.dataLt (pd y) (pd a) then y else a) x
def dMinT : List D → Option D
  | [d] => match listD d with
    | some (x :: xs) => if okL 39 (x :: xs) && alk (x :: xs) then some (minT x xs) else none
    | _ => none
  | _ => none
theorem pdL_map : ∀ xs : List D, pdL xs = xs.map pd
  | [] => rfl
  | x :: xs => by rw [pdL, pdL_map xs, List.map_cons]
theorem alk_ok {xs : List D} (h : alk xs = true) : PySem.W.AlikeAll (pdL xs) := by
  unfold alk at h
  simp only [List.all_eq_true, Bool.and_eq_true] at h
  rw [pdL_map]
  refine ⟨fun x hx y hy => ?_, fun x hx => ?_⟩
  · obtain ⟨a, ha, rfl⟩ := List.mem_map.mp hx
    obtain ⟨b, hb, rfl⟩ := List.mem_map.mp hy
    exact (h a ha).1 b hb
  · obtain ⟨a, ha, rfl⟩ := List.mem_map.mp hx
    intro e
    have := (h a ha).2
    rw [e] at this
    cases this
open PySem.W in
theorem min_at {prog : Program} {w : World} {A : Around} {s : Shared} {E : Value → Shared → Prop} {l : Addr} {vs : Array Value} {x : PyData} {xs : List PyData} {as : List Addr} {Q : Value → Shared → Prop} (hh : A.handled = none) (hl : s.heap.IsList l vs) (hr : ReadsAll s.heap vs.toList (x :: xs) as) (ha : AlikeAll (x :: xs)) (hu : A.units + 1 + PyData.depthAll (x :: xs) < cLine)
    (h : ∀ v h' tk, vs[argBest (fun i j => dataLt ((x :: xs).getD i .none) ((x :: xs).getD j .none)) xs.length]? = some v → (∀ b o, s.heap.get? b = some o → h'.get? b = some o) → Q v { s with heap := h', toks := tk }) :
    wpAny (model prog w) A (call (.builtin "min") [.ref l]) Q E s := by
  have hn : vs.size = xs.length + 1 := readsAll_len hr
  refine call_min_walkH (iter_listW (A := A.in1) hh hl fun s₂ e W st hfp hw hk => ?_)
  refine ⟨_, _, _, _, _, _, _, s.heap, _, rfl, W, st, hfp, by omega, hw, hk, cmpIn_lt (A := A.in1) hr ha (by show A.units + 1 + _ < _; exact hu), fun v s' hP m => ?_⟩
  obtain ⟨h', tk, rfl, hk'⟩ := moved_old e rfl m
  have e1 : vs.size - 1 = xs.length := by omega
  rw [e1] at hP
  exact h v h' tk hP hk'
theorem argBest_congr {f g : Nat → Nat → Bool} : ∀ k, (∀ i j, i ≤ k → j ≤ k → f i j = g i j) → argBest f k = argBest g k ∧ argBest f k ≤ k
  | 0, _ => ⟨rfl, Nat.le_refl _⟩
  | k + 1, h => by
    obtain ⟨e, le⟩ := argBest_congr k fun i j hi hj => h i j (Nat.le_succ_of_le hi) (Nat.le_succ_of_le hj)
    have e2 : f (k + 1) (argBest f k) = g (k + 1) (argBest g k) := by rw [← e]; exact h _ _ (Nat.le_refl _) (Nat.le_succ_of_le le)
    unfold argBest
    rw [e2, ← e]
    cases hb : g (k + 1) (argBest f k)
    · simp only [Bool.false_eq_true, if_false]
      exact ⟨trivial, Nat.le_succ_of_le le⟩
    · simp
section
variable {c : Cn} {X : Cx}
theorem call_minTD (hc : X.K = c.K) (hm : X.calm = true) (hu : X.A.units + 65 < cLine) : CallR X (.builtin "min") (rC c dMinT) := by
  intro pins s σ H vs us Q I r ⟨G, ds, d, ra, e, q⟩
  unfold dMinT at e
  split at e
  rotate_left
  · cases e
  rename_i d1
  obtain ⟨v, rfl, rv⟩ := ra.one
  split at e
  rotate_left
  · cases e
  rename_i x xs hl
  split at e
  rotate_left
  · cases e
  rename_i hh
  cases e
  simp only [Bool.and_eq_true] at hh
  obtain ⟨a, ws, rfl, hp, rl⟩ := rv.list hl
  obtain ⟨its, rvv, hls, hz⟩ := I.list (.inl hp)
  rw [Vals.ref1 r]
  obtain ⟨as, h4⟩ := Dp.readsAll I (pdL (x :: xs)) ws its (by rw [hc]; exact RelL.dp _ _ _ hh.1 rl) rvv
  have lay := (pdL_lay 39 (x :: xs) hh.1)
  have hk := alk_ok hh.2
  rw [pdL] at h4 lay hk
  refine min_at (I.ok.hd hm) hls.isList (by simpa using h4) hk (by have := lay.2; omega) fun u h' tk hu' k => ?_
  have len : (pdL xs).length = xs.length := by rw [pdL_map, List.length_map]
  rw [len] at hu'
  have key := PySem.W.argBest_fold (fun p q => PySem.W.dataLt (pd p) (pd q)) D.non x xs xs.length (Nat.le_refl _)
  rw [List.take_length] at key
  have cg := argBest_congr (f := fun i j => PySem.W.dataLt ((pd x :: pdL xs).getD i .none) ((pd x :: pdL xs).getD j .none)) (g := fun i j => PySem.W.dataLt (pd ((x :: xs).getD i D.non)) (pd ((x :: xs).getD j D.non))) xs.length fun i j hi hj => by
    have gd : ∀ i, i ≤ xs.length → (pd x :: pdL xs).getD i .none = pd ((x :: xs).getD i D.non) := fun i hi => by
      rw [show pd x :: pdL xs = (x :: xs).map pd by rw [pdL_map]; rfl]
      rw [List.getD_eq_getElem?_getD, List.getD_eq_getElem?_getD, List.getElem?_map, List.getElem?_eq_getElem (show i < (x :: xs).length by simp; omega)]
      rfl
    simp only [gd i hi, gd j hj]
  rw [cg.1] at hu'
  generalize argBest (fun i j => PySem.W.dataLt (pd ((x :: xs).getD i D.non)) (pd ((x :: xs).getD j D.non))) xs.length = m at key hu' 
  obtain ⟨km, ke⟩ := key
  have hm' : m < (x :: xs).length := by simp; omega
  obtain ⟨w, e1, _, e3⟩ := rl.get (List.getElem?_eq_getElem hm')
  obtain ⟨u', e4, e5⟩ := rvv.get e1
  rw [List.getElem?_toArray] at hu'
  rw [e4] at hu'
  cases hu'
  have ed : (x :: xs)[m] = minT x xs := by
    unfold minT
    rw [← ke, List.getD_eq_getElem?_getD, List.getElem?_eq_getElem hm']
    rfl
  rw [ed] at e3
  exact ⟨w, H, I.kept k, e5, q _ _ ExtN.refl e3⟩
end
end Pv
set_option maxRecDepth 100000
set_option maxHeartbeats 1000000
/-! PvD3: the order that sorts plain data -/
namespace Pv
open PySem PySem.Spec PyProof.Rows L2

/-- what is sorted: ints, texts, tuples of one kind, tuples of so many of these kinds -/
inductive Ty where
  | i | s | l (t : Ty) | p (a b : Ty)
mutual
def hasTy : Ty → D → Bool
  | .i, .int _ => true
  | .s, .str _ => true
  | .l t, .tup xs => hasTyL t xs
  | .p a b, .tup [x, y] => hasTy a x && hasTy b y
  | _, _ => false
def hasTyL : Ty → List D → Bool
  | _, [] => true
  | t, x :: xs => hasTy t x && hasTyL t xs
end
mutual
def enc : D → List Int
  | .int i => [i]
  | .str x => x.cps.toList.map (fun n : Nat => (n : Int) + 1) ++ [0]
  | .tup xs => encL xs
  | _ => []
def encL : List D → List Int
  | [] => [0]
  | x :: xs => 1 :: (enc x ++ encL xs)
end
theorem lt_cons {a b : Int} {x y : List Int} : a :: x < b :: y ↔ a < b ∨ a = b ∧ x < y := by
  constructor
  · intro h
    cases h with
    | rel h => exact .inl h
    | cons h => exact .inr ⟨rfl, h⟩
  · rintro (h | ⟨rfl, h⟩)
    · exact .rel h
    · exact .cons h
theorem lt_app {x y : List Int} : ∀ {p : List Int}, p ++ x < p ++ y ↔ x < y
  | [] => Iff.rfl
  | a :: p => by
    rw [List.cons_append, List.cons_append, lt_cons]
    constructor
    · rintro (h | ⟨_, h⟩)
      · exact absurd h (Int.lt_irrefl _)
      · exact lt_app.mp h
    · exact fun h => .inr ⟨rfl, lt_app.mpr h⟩
/-- the claim for one pair -/
def Ord1 (eq : Bool) (a : Bool) (x y : List Int) : Prop := if eq then x = y else ∀ A B, (x ++ A < y ++ B ↔ a = true) ∧ x ++ A ≠ y ++ B
theorem str_ord : ∀ (x y : List Nat), Ord1 (x == y) (decide (x < y)) (x.map (fun n : Nat => (n : Int) + 1) ++ [0]) (y.map (fun n : Nat => (n : Int) + 1) ++ [0])
  | [], [] => by simp [Ord1]
  | [], b :: y => by
    unfold Ord1
    rw [if_neg (by simp)]
    intro A B
    refine ⟨?_, ?_⟩
    · simp only [List.map_nil, List.nil_append, List.map_cons, List.cons_append, lt_cons]
      constructor
      · intro _; simp
      · intro _; left; omega
    · simp only [List.map_nil, List.nil_append, List.map_cons, List.cons_append]
      intro h
      injection h with h _
      omega
  | a :: x, [] => by
    unfold Ord1
    rw [if_neg (by simp)]
    intro A B
    refine ⟨?_, ?_⟩
    · simp only [List.map_nil, List.nil_append, List.map_cons, List.cons_append, lt_cons]
      constructor
      · rintro (h | ⟨h, _⟩) <;> omega
      · intro h; simp at h
    · simp only [List.map_nil, List.nil_append, List.map_cons, List.cons_append]
      intro h
      injection h with h _
      omega
  | a :: x, b :: y => by
    have ih := str_ord x y
    unfold Ord1 at ih ⊢
    by_cases hab : a = b
    · subst hab
      by_cases hxy : x = y
      · subst hxy; rw [if_pos (by simp)]
      · rw [if_neg (by simpa using hxy)] at ih
        rw [if_neg (by simpa using hxy)]
        intro A B
        obtain ⟨h1, h2⟩ := ih A B
        refine ⟨?_, ?_⟩
        · simp only [List.map_cons, List.cons_append, lt_cons]
          simp only [decide_eq_true_eq, List.cons_lt_cons_iff] at h1 ⊢
          constructor
          · rintro (h | ⟨_, h⟩)
            · exact absurd h (Int.lt_irrefl _)
            · exact .inr ⟨trivial, h1.mp h⟩
          · rintro (h | ⟨_, h⟩)
            · exact absurd h (Nat.lt_irrefl _)
            · exact .inr ⟨trivial, h1.mpr h⟩
        · simp only [List.map_cons, List.cons_append]
          intro h
          injection h with _ h
          exact h2 h
    · rw [if_neg (by simp [hab])]
      intro A B
      refine ⟨?_, ?_⟩
      · simp only [List.map_cons, List.cons_append, lt_cons, decide_eq_true_eq, List.cons_lt_cons_iff]
        constructor
        · rintro (h | ⟨h, _⟩)
          · left; omega
          · exact absurd (by omega) hab
        · rintro (h | ⟨h, _⟩)
          · left; omega
          · exact absurd h hab
      · simp only [List.map_cons, List.cons_append]
        intro h
        injection h with h _
        exact hab (by omega)
theorem ord_cons {e1 e2 a b : Bool} {x y xs ys : List Int} (h1 : Ord1 e1 a x y) (h2 : Ord1 e2 b xs ys) : Ord1 (e1 && e2) (if e1 then b else a) (1 :: (x ++ xs)) (1 :: (y ++ ys)) := by
  unfold Ord1 at *
  cases e1 with
  | true =>
    rw [if_pos rfl] at h1
    subst h1
    cases e2 with
    | true =>
      rw [if_pos rfl] at h2
      subst h2
      rfl
    | false =>
      rw [if_neg (by simp)] at h2
      rw [if_neg (by simp)]
      intro A B
      obtain ⟨q1, q2⟩ := h2 A B
      refine ⟨?_, ?_⟩
      · rw [List.cons_append, List.cons_append, List.append_assoc, List.append_assoc, lt_cons]
        constructor
        · rintro (h | ⟨_, h⟩)
          · exact absurd h (Int.lt_irrefl _)
          · exact q1.mp (lt_app.mp h)
        · exact fun h => .inr ⟨rfl, lt_app.mpr (q1.mpr h)⟩
      · rw [List.cons_append, List.cons_append, List.append_assoc, List.append_assoc]
        intro h
        injection h with _ h
        exact q2 (List.append_cancel_left h)
  | false =>
    rw [if_neg (by simp)] at h1
    rw [if_neg (by simp)]
    intro A B
    obtain ⟨q1, q2⟩ := h1 (xs ++ A) (ys ++ B)
    refine ⟨?_, ?_⟩
    · rw [List.cons_append, List.cons_append, List.append_assoc, List.append_assoc, lt_cons]
      constructor
      · rintro (h | ⟨_, h⟩)
        · exact absurd h (Int.lt_irrefl _)
        · exact q1.mp h
      · exact fun h => .inr ⟨rfl, q1.mpr h⟩
    · rw [List.cons_append, List.cons_append, List.append_assoc, List.append_assoc]
      intro h
      injection h with _ h
      exact q2 h
theorem str_beq {x y : Str} : (x == y) = (x.cps.toList == y.cps.toList) := by
  by_cases h : x = y
  · subst h; simp
  · have : x.cps.toList ≠ y.cps.toList := fun z => h (by
      cases x; cases y
      congr 1
      exact Array.toList_inj.mp z)
    rw [beq_eq_false_iff_ne.mpr h, beq_eq_false_iff_ne.mpr this]
mutual
theorem ord_D : ∀ (t : Ty) (x y : D), hasTy t x = true → hasTy t y = true → ∃ a, ltD x y = some a ∧ Ord1 (eqD x y) a (enc x) (enc y)
  | .i, .int i, .int j, _, _ => by
    refine ⟨_, rfl, ?_⟩
    simp only [eqD, enc]
    unfold Ord1
    by_cases h : i = j
    · subst h; rw [if_pos (by simp)]
    · rw [if_neg (by simpa using h)]
      intro A B
      refine ⟨?_, ?_⟩
      · rw [List.cons_append, List.cons_append, lt_cons, decide_eq_true_eq]
        exact ⟨fun q => q.elim id fun ⟨z, _⟩ => absurd z h, .inl⟩
      · rw [List.cons_append, List.cons_append]
        intro q
        injection q with q _
        exact h q
  | .s, .str x, .str y, _, _ => by
    refine ⟨_, rfl, ?_⟩
    simp only [eqD, enc, str_beq]
    exact str_ord _ _
  | .l t, .tup xs, .tup ys, h1, h2 => by
    simp only [hasTy] at h1 h2
    obtain ⟨a, e, o⟩ := ord_L t xs ys h1 h2
    exact ⟨a, by simpa only [ltD] using e, by simpa only [eqD, enc] using o⟩
  | .p a b, .tup xs, .tup ys, h1, h2 => by
    match xs, ys, h1, h2 with
    | [x, x2], [y, y2], h1, h2 =>
      simp only [hasTy, Bool.and_eq_true] at h1 h2
      obtain ⟨k1, e1, o1⟩ := ord_D a x y h1.1 h2.1
      obtain ⟨k2, e2, o2⟩ := ord_D b x2 y2 h1.2 h2.2
      have z : Ord1 true false [0] [0] := rfl
      have q := ord_cons o1 (ord_cons o2 z)
      refine ⟨if eqD x y then (if eqD x2 y2 then false else k2) else k1, ?_, ?_⟩
      · simp only [ltD, ltL, e1, e2]
      · simpa only [eqD, eqL, enc, encL] using q
theorem ord_L : ∀ (t : Ty) (xs ys : List D), hasTyL t xs = true → hasTyL t ys = true → ∃ a, ltL xs ys = some a ∧ Ord1 (eqL xs ys) a (encL xs) (encL ys)
  | t, [], [], _, _ => ⟨false, rfl, rfl⟩
  | t, [], y :: ys, _, _ => by
    refine ⟨true, rfl, ?_⟩
    simp only [eqL, encL]
    unfold Ord1
    rw [if_neg (by simp)]
    intro A B
    refine ⟨?_, ?_⟩
    · simp only [List.cons_append, lt_cons]
      exact ⟨fun _ => trivial, fun _ => .inl (by decide)⟩
    · intro h
      simp only [List.cons_append] at h
      injection h with h _
      exact absurd h (by decide)
  | t, x :: xs, [], _, _ => by
    refine ⟨false, rfl, ?_⟩
    simp only [eqL, encL]
    unfold Ord1
    rw [if_neg (by simp)]
    intro A B
    refine ⟨?_, ?_⟩
    · simp only [List.cons_append, lt_cons]
      constructor
      · rintro (h | ⟨h, _⟩)
        · exact absurd h (by decide)
        · exact absurd h (by decide)
      · intro h; cases h
    · intro h
      simp only [List.cons_append] at h
      injection h with h _
      exact absurd h (by decide)
  | t, x :: xs, y :: ys, h1, h2 => by
    simp only [hasTyL, Bool.and_eq_true] at h1 h2
    obtain ⟨k1, e1, o1⟩ := ord_D t x y h1.1 h2.1
    obtain ⟨k2, e2, o2⟩ := ord_L t xs ys h1.2 h2.2
    refine ⟨if eqD x y then k2 else k1, ?_, ?_⟩
    · simp only [ltL, e1, e2]
    · simpa only [eqL, encL] using ord_cons o1 o2
end
mutual
theorem eqD_eq : ∀ (t : Ty) (x y : D), hasTy t x = true → hasTy t y = true → eqD x y = true → x = y
  | .i, .int i, .int j, _, _, h => by simp only [eqD, beq_iff_eq] at h; rw [h]
  | .s, .str x, .str y, _, _, h => by simp only [eqD, beq_iff_eq] at h; rw [h]
  | .l t, .tup xs, .tup ys, h1, h2, h => by
    simp only [hasTy] at h1 h2
    simp only [eqD] at h
    rw [eqL_eq t xs ys h1 h2 h]
  | .p a b, .tup xs, .tup ys, h1, h2, h => by
    match xs, ys, h1, h2, h with
    | [x, x2], [y, y2], h1, h2, h =>
      simp only [hasTy, Bool.and_eq_true] at h1 h2
      simp only [eqD, eqL, Bool.and_eq_true] at h
      rw [eqD_eq a x y h1.1 h2.1 h.1, eqD_eq b x2 y2 h1.2 h2.2 h.2.1]
theorem eqL_eq : ∀ (t : Ty) (xs ys : List D), hasTyL t xs = true → hasTyL t ys = true → eqL xs ys = true → xs = ys
  | _, [], [], _, _, _ => rfl
  | _, [], _ :: _, _, _, h => by simp [eqL] at h
  | _, _ :: _, [], _, _, h => by simp [eqL] at h
  | t, x :: xs, y :: ys, h1, h2, h => by
    simp only [hasTyL, Bool.and_eq_true] at h1 h2
    simp only [eqL, Bool.and_eq_true] at h
    rw [eqD_eq t x y h1.1 h2.1 h.1, eqL_eq t xs ys h1.2 h2.2 h.2]
end
mutual
theorem ltD_irr : ∀ (t : Ty) (x : D), hasTy t x = true → ltD x x = some false
  | .i, .int i, _ => by simp [ltD]
  | .s, .str x, _ => by simp [ltD, List.lt_irrefl]
  | .l t, .tup xs, h => by
    simp only [hasTy] at h
    simpa only [ltD] using ltL_irr t xs h
  | .p a b, .tup xs, h => by
    match xs, h with
    | [x, x2], h =>
      simp only [hasTy, Bool.and_eq_true] at h
      simp only [ltD, ltL, ltD_irr a x h.1, ltD_irr b x2 h.2]
      cases eqD x x <;> cases eqD x2 x2 <;> rfl
theorem ltL_irr : ∀ (t : Ty) (xs : List D), hasTyL t xs = true → ltL xs xs = some false
  | _, [], _ => rfl
  | t, x :: xs, h => by
    simp only [hasTyL, Bool.and_eq_true] at h
    simp only [ltL, ltD_irr t x h.1, ltL_irr t xs h.2]
    cases eqD x x <;> rfl
end
theorem lt_enc {t : Ty} {x y : D} (h1 : hasTy t x = true) (h2 : hasTy t y = true) : ltD x y = some (decide (enc x < enc y)) := by
  obtain ⟨a, e, o⟩ := ord_D t x y h1 h2
  unfold Ord1 at o
  rw [e]
  congr 1
  split at o
  · rename_i h
    have := eqD_eq t x y h1 h2 h
    subst this
    obtain ⟨a', e', o'⟩ := ord_D t x x h1 h1
    rw [e] at e'
    cases e'
    have hir : ∀ (t : Ty) (x : D), hasTy t x = true → ltD x x = some false := fun t x hx => by
      clear e o o'
      revert hx
      exact (ltD_irr t x)
    rw [hir t x h1] at e
    cases e
    simp [List.lt_irrefl]
  · have := (o [] []).1
    simp only [List.append_nil] at this
    cases a
    · simp only [Bool.false_eq_true, iff_false] at this
      simp [this]
    · simp [this.mpr rfl]
theorem enc_inj {t : Ty} {x y : D} (h1 : hasTy t x = true) (h2 : hasTy t y = true) (h : enc x = enc y) : x = y := by
  obtain ⟨a, e, o⟩ := ord_D t x y h1 h2
  unfold Ord1 at o
  split at o
  · rename_i q; exact eqD_eq t x y h1 h2 q
  · exact absurd (by rw [h]) (o [] []).2
def insD (x : D) : List D → List D
  | [] => [x]
  | y :: ys => if enc y < enc x then y :: insD x ys else x :: y :: ys
/-- sorted(..) -/
def srtD : List D → List D
  | [] => []
  | x :: xs => insD x (srtD xs)
theorem insD_perm (x : D) : ∀ ys, (insD x ys).Perm (x :: ys)
  | [] => List.Perm.refl _
  | y :: ys => by
    unfold insD
    split
    · exact ((insD_perm x ys).cons y).trans (List.Perm.swap x y ys)
    · exact List.Perm.refl _
theorem srtD_perm : ∀ xs, (srtD xs).Perm xs
  | [] => List.Perm.refl _
  | x :: xs => (insD_perm x _).trans ((srtD_perm xs).cons x)
theorem insD_srt (x : D) : ∀ {ys : List D}, ys.Pairwise (fun a b => ¬ enc b < enc a) → (insD x ys).Pairwise (fun a b => ¬ enc b < enc a)
  | [], _ => List.pairwise_singleton _ _
  | y :: ys, h => by
    obtain ⟨h1, h2⟩ := List.pairwise_cons.mp h
    unfold insD
    split
    · rename_i hlt
      refine List.pairwise_cons.mpr ⟨fun z hz => ?_, insD_srt x h2⟩
      rcases List.mem_cons.mp ((insD_perm x ys).mem_iff.mp hz) with rfl | hz
      · exact fun q => List.lt_irrefl _ (List.lt_trans q hlt)
      · exact h1 z hz
    · rename_i hlt
      refine List.pairwise_cons.mpr ⟨fun z hz => ?_, h⟩
      rcases List.mem_cons.mp hz with rfl | hz
      · exact hlt
      · intro q
        have h3 := h1 z hz
        exact hlt (List.lt_of_le_of_lt (List.not_lt.mp h3) q)
theorem srtD_srt : ∀ xs : List D, (srtD xs).Pairwise (fun a b => ¬ enc b < enc a)
  | [] => List.Pairwise.nil
  | x :: xs => insD_srt x (srtD_srt xs)
theorem srt_uniq {t : Ty} : ∀ {l m : List D}, l.Perm m → (∀ x ∈ l, hasTy t x = true) → l.Pairwise (fun a b => ¬ enc b < enc a) → m.Pairwise (fun a b => ¬ enc b < enc a) → l = m
  | [], m, p, _, _, _ => p.nil_eq
  | x :: l, [], p, _, _, _ => absurd p.symm.nil_eq (by simp)
  | x :: l, y :: m, p, ht, h1, h2 => by
    obtain ⟨a1, a2⟩ := List.pairwise_cons.mp h1
    obtain ⟨b1, b2⟩ := List.pairwise_cons.mp h2
    have key : x = y := by
      rcases List.mem_cons.mp (p.mem_iff.mp (List.mem_cons_self ..)) with e | hx
      · exact e
      · rcases List.mem_cons.mp (p.mem_iff.mpr (List.mem_cons_self ..)) with e | hy
        · exact e.symm
        · have q1 := b1 x hx
          have q2 := a1 y hy
          exact enc_inj (ht x (List.mem_cons_self ..)) (ht y (List.mem_cons_of_mem _ hy)) (List.le_antisymm (List.not_lt.mp q2) (List.not_lt.mp q1))
    subst key
    rw [srt_uniq p.cons_inv (fun z hz => ht z (List.mem_cons_of_mem _ hz)) a2 b2]
end Pv
set_option maxRecDepth 100000
set_option maxHeartbeats 2000000
/-! PvD4: sorted, as the sort compares -/
namespace Pv
open PySem PySem.Spec PyProof.Rows L2

/-- two tuples, ready to be compared -/
structure TupCmp (A : Around) (s : Shared) (v u : Value) (b : Bool) (l l2 : Addr) (its its2 : Array Value) (e r : Nat → Bool) : Prop where
  hv : v = .ref l
  hu : u = .ref l2
  h1 : s.heap.IsTuple l its
  h2 : s.heap.IsTuple l2 its2
  he : ∀ j (h1 : j < its.size) (h2 : j < its2.size), SeqAt.EqAt A.in1 s its[j] its2[j] (e j)
  hr : ∀ j (h1 : j < its.size) (h2 : j < its2.size), e j = false → _root_.Ob.RcOp .Lt A.in1 s its[j] its2[j] (r j)
  hb : _root_.Ob.lexAt e r (decide (its.size < its2.size)) 0 (min its.size its2.size) = b
theorem tup_parts {c : Cn} {X : Cx} {pins : List (Addr × Obj)} {σ : L2.St} {H : Hp} {s : Shared} (hc : X.K = c.K) (I : Inv X pins σ H s) {G : List Addr} {A : Around} {xs ys : List D} {x y : V} {v u : Value} {b : Bool} (hu : A.units + 82 < cLine)
    (o1 : okd (.tup xs) = true) (o2 : okd (.tup ys) = true) (r1 : Rel c G H (.tup xs) x) (r2 : Rel c G H (.tup ys) y) (rx : RelV x v) (ry : RelV y u) (h : ltL xs ys = some b) : ∃ (l l2 : Addr) (its its2 : Array Value), its.size = xs.length ∧ its2.size = ys.length ∧ TupCmp A s v u b l l2 its its2 (eqAtL xs ys) (ltAtL xs ys) ∧
      (∀ j (h1 : j < its.size), ∃ z, Rel c G H (xs.getD j .non) z ∧ RelV z its[j]) ∧ (∀ j (h1 : j < its2.size), ∃ z, Rel c G H (ys.getD j .non) z ∧ RelV z its2[j]) := by
  have o1 : okL 39 xs = true := by simpa [okd, okD] using o1
  have o2 : okL 39 ys = true := by simpa [okd, okD] using o2
  obtain ⟨a, vs, rfl, ha, ra⟩ := r1.tup
  obtain ⟨a', ws, rfl, hb, rb⟩ := r2.tup
  cases rx
  cases ry
  obtain ⟨its, rv, p1, _⟩ := I.tuple (by rw [hc]; exact ha)
  obtain ⟨its2, rw', p2, _⟩ := I.tuple (by rw [hc]; exact hb)
  have n1 : its.length = xs.length := by rw [← rv.length, ra.length]
  have n2 : its2.length = ys.length := by rw [← rw'.length, rb.length]
  have at1 : ∀ j (h1 : j < its.toArray.size), ∃ z, Rel c G H (xs.getD j .non) z ∧ RelV z its.toArray[j] ∧ j < xs.length := fun j h1 => by
    have hj : j < xs.length := by rw [← n1]; simpa using h1
    obtain ⟨z, e1, _, e2⟩ := ra.get (List.getElem?_eq_getElem hj)
    obtain ⟨u', e3, e4⟩ := rv.get e1
    refine ⟨z, ?_, ?_, hj⟩
    · rw [List.getD_eq_getElem?_getD, List.getElem?_eq_getElem hj]; exact e2
    · have : its.toArray[j] = u' := by
        have := (List.getElem?_eq_some_iff.mp e3).2
        simpa using this
      rw [this]; exact e4
  have at2 : ∀ j (h1 : j < its2.toArray.size), ∃ z, Rel c G H (ys.getD j .non) z ∧ RelV z its2.toArray[j] ∧ j < ys.length := fun j h1 => by
    have hj : j < ys.length := by rw [← n2]; simpa using h1
    obtain ⟨z, e1, _, e2⟩ := rb.get (List.getElem?_eq_getElem hj)
    obtain ⟨u', e3, e4⟩ := rw'.get e1
    refine ⟨z, ?_, ?_, hj⟩
    · rw [List.getD_eq_getElem?_getD, List.getElem?_eq_getElem hj]; exact e2
    · have : its2.toArray[j] = u' := by
        have := (List.getElem?_eq_some_iff.mp e3).2
        simpa using this
      rw [this]; exact e4
  have s1 : its.toArray.size = xs.length := by simpa using n1
  have s2 : its2.toArray.size = ys.length := by simpa using n2
  refine ⟨a, a', its.toArray, its2.toArray, s1, s2, ⟨rfl, rfl, p1, p2, fun j h1 h2 => ?_, fun j h1 h2 _ => ?_, ?_⟩, fun j h1 => let ⟨z, q, q2, _⟩ := at1 j h1; ⟨z, q, q2⟩, fun j h1 => let ⟨z, q, q2, _⟩ := at2 j h1; ⟨z, q, q2⟩⟩
  · obtain ⟨z, q1, q2, q3⟩ := at1 j h1
    obtain ⟨z', q1', q2', q3'⟩ := at2 j h2
    exact eqAt_D hc I (by show A.units + 1 + 41 < cLine; omega) (by omega) (okL_get o1 j q3) (okL_get o2 j q3') q1 q1' q2 q2'
  · obtain ⟨z, q1, q2, q3⟩ := at1 j h1
    obtain ⟨z', q1', q2', q3'⟩ := at2 j h2
    obtain ⟨b', hb'⟩ := ltL_all xs ys b h j q3 q3'
    have : ltAtL xs ys j = b' := by unfold ltAtL; rw [hb']; rfl
    rw [this]
    exact rcLt hc I 39 A.in1 _ _ _ _ _ _ b' (by omega) (by show A.units + 1 + 41 + 39 < cLine; omega) (okL_get o1 j q3) (okL_get o2 j q3') q1 q1' q2 q2' hb'
  · rw [s1, s2, lexAt_ltL xs ys b h]
section
variable {prog : Program} {w : World} {A : Around} {E : Value → Shared → Prop} {s : Shared}
theorem oneLt_rc {v u : Value} {b : Bool} {Q : Bool → Shared → Prop} (h : _root_.Ob.RcOp .Lt A s v u b) (q : Q b s) : wpAny (model prog w) A (oneLt' false v u) Q E s := by
  rw [oneLt'_eq]
  simp only [Bool.false_eq_true, if_false]
  exact wpAny_bind (h prog w E _ (wpAny_truthy_bool q))
theorem oneLt_tup {v u : Value} {b : Bool} {l l2 : Addr} {its its2 : Array Value} {e r : Nat → Bool} {Q : Bool → Shared → Prop} (hu : A.units < cLine) (t : TupCmp A s v u b l l2 its its2 e r) (q : Q b s) : wpAny (model prog w) A (oneLt' true v u) Q E s := by
  obtain ⟨rfl, rfl, hl, hb, he, hr, rfl⟩ := t
  obtain ⟨⟨cls, dd, data, sl⟩, ho, hc, n, hd⟩ := id hl
  obtain ⟨⟨cls2, dd2, data2, sl2⟩, ho2, hc2, n2, hd2⟩ := id hb
  simp only at hc hd hc2 hd2
  subst hc hd hc2 hd2
  rw [oneLt'_eq]
  simp only [if_true]
  refine wpAny_bind (wpAny_cRoomFor hu ?_)
  refine wpAny_bind (wpAny_callSpecialIfBound?_slot (T := "tuple") ⟨_, ho, rfl⟩ F.slot_tuple_lt (call_meets F.slot_tuple_lt ⟨_, ho, rfl⟩ F.entry_tuple_lt (F.args_tuple_lt_2 _ _) (_root_.Ob.tuple_ltAt l l2 its its2 n n2 dd dd2 sl sl2 e r) ⟨ho, ho2, he, hr, ?_⟩))
  exact wpAny_truthy_bool q
end
/-! ### the kind -/
section
variable {M : Model} {A : Around} {E : Value → Shared → Prop} {s : Shared}
/-- a tuple value's first item -/
def FirstIs (h : Heap) (v : Value) (f : Option Value) : Prop := ∃ a o xs n, v = .ref a ∧ h.get? a = some o ∧ o.cls = .type "tuple" ∧ o.data = .seq xs n ∧ xs[0]? = f
theorem firsts_run : ∀ (vs : List Value) (g : Value → Option Value) {Q : List (Option Value) → Shared → Prop}, (∀ v ∈ vs, FirstIs s.heap v (g v)) → Q (vs.map g) s → wpAny M A (vs.mapM firstOfTuple') Q E s
  | [], _, _, _, h => by rw [List.mapM_nil]; exact wpAny_pure h
  | v :: vs, g, Q, t, h => by
    obtain ⟨a, o, xs, n, rfl, ho, hc, hd, hf⟩ := t v (List.mem_cons_self ..)
    rw [List.mapM_cons]
    refine wpAny_bind ?_
    rw [PySem.W.kas_first_eq]
    refine wpAny_bind (PySem.W.Looks.here (show PySem.W.Looks M s.heap (typeOf (.ref a)) o.cls from (PySem.W.Looks.ld ho).andThen .now) ?_)
    rw [hc, if_neg (by first | decide | simp)]
    refine wpAny_bind (listItems_at ho hd (wpAny_pure ?_))
    rw [hf]
    exact wpAny_bind (firsts_run vs g (Q := fun bs s' => wpAny M A (pure (g (.ref a) :: bs)) Q E s') (fun v hv => t v (List.mem_cons_of_mem _ hv)) (wpAny_pure h))
theorem kind_general {vs : List Value} {g : Value → Option Value} {Q : SortKind → Shared → Prop} (h2 : 2 ≤ vs.length) (t : ∀ v ∈ vs, FirstIs s.heap v (g v)) (hx : ∃ v ∈ vs, g v = none) (hf : ((vs.map g).toArray[0]?.bind id).isSome = true) (h1 : Q general' s) : wpAny M A (keyKind' vs.toArray) Q E s := by
  rw [kat_kind_eq, List.mapM_toArray, map_eq_pure_bind]
  refine wpAny_bind (wpAny_bind (firsts_run vs g t (wpAny_pure ?_)))
  rw [if_neg (by
    obtain ⟨v, hv, e⟩ := hx
    simp only [List.all_toArray, List.all_map, List.all_eq_true, Function.comp_apply]
    intro hh
    have := hh v hv
    rw [e] at this
    cases this), if_pos hf]
  exact wpAny_pure h1
theorem kind_one {vs : List Value} {g : Value → Option Value} {Q : SortKind → Shared → Prop} (h2 : 2 ≤ vs.length) (t : ∀ v ∈ vs, FirstIs s.heap v (g v)) (hx : ∃ v ∈ vs, g v = none) (hf : ¬ ((vs.map g).toArray[0]?.bind id).isSome = true) (h3 : Q oneType' s) : wpAny M A (keyKind' vs.toArray) Q E s := by
  rw [kat_kind_eq, List.mapM_toArray, map_eq_pure_bind]
  refine wpAny_bind (wpAny_bind (firsts_run vs g t (wpAny_pure ?_)))
  rw [if_neg (by
    obtain ⟨v, hv, e⟩ := hx
    simp only [List.all_toArray, List.all_map, List.all_eq_true, Function.comp_apply]
    intro hh
    have := hh v hv
    rw [e] at this
    cases this)]
  rw [if_neg hf, oneTypeOnly'_eq, List.mapM_toArray, map_eq_pure_bind]
  obtain ⟨v₁, rest, rfl⟩ : ∃ v₁ rest, vs = v₁ :: rest := by
    match vs, h2 with
    | v₁ :: rest, _ => exact ⟨v₁, rest, rfl⟩
  refine wpAny_bind (wpAny_bind (wpAny_bind (PySem.W.kas_mapM (r := Value.type "tuple") _ (fun v hv Q' hq => ?_) (wpAny_pure ?_))))
  · obtain ⟨a, o, xs, n, rfl, ho, hc, hd, hf⟩ := t v hv
    refine PySem.W.Looks.here (show PySem.W.Looks M s.heap (typeOf (.ref a)) (.type "tuple") from ?_) hq
    rw [← hc]
    exact (PySem.W.Looks.ld ho).andThen .now
  · have hall : ((List.map (fun _ => Value.type "tuple") (v₁ :: rest)).toArray.all fun x => x == Value.type "tuple") = true := by
      simp only [List.all_toArray, List.all_map, List.all_eq_true]
      intro _ _
      rfl
    have h0 : (List.map (fun _ => Value.type "tuple") (v₁ :: rest)).toArray[0]? = some (Value.type "tuple") := by simp
    rw [h0]
    simp only [hall, if_true]
    exact wpAny_pure (wpAny_pure h3)
end
/-! ### comparing by the kind for tuples -/
section
variable {prog : Program} {w : World} {A : Around} {E : Value → Shared → Prop} {s : Shared}
theorem katLex_run {bb : Bool} {its its2 : Array Value} {e r : Nat → Bool} {Q : Bool → Shared → Prop} (he : ∀ j (h1 : j < its.size) (h2 : j < its2.size), SeqAt.EqAt A s its[j] its2[j] (e j))
    (hr : ∀ j (h1 : j < its.size) (h2 : j < its2.size), e j = false → ∀ (Q : Bool → Shared → Prop), Q (r j) s → wpAny (model prog w) A (oneLt' (bb && j == 0) its[j] its2[j]) Q (fun _ _ => False) s) :
    ∀ (k i : Nat), i + k = min its.size its2.size → Q (_root_.Ob.lexAt e r (decide (its.size < its2.size)) i k) s → PySem.W.KatLex prog w A bb (decide (its.size < its2.size)) Q ((its.toList.zip its2.toList).drop i) i s
  | 0, i, h, q => by
    rw [List.drop_of_length_le (by simp; omega)]
    exact PySem.W.kat_nil q
  | k + 1, i, h, q => by
    have h1 : i < its.size := by omega
    have h2 : i < its2.size := by omega
    have hz : i < (its.toList.zip its2.toList).length := by simp; omega
    rw [List.drop_eq_getElem_cons hz]
    have ez : (its.toList.zip its2.toList)[i] = (its[i], its2[i]) := by simp
    rw [ez]
    refine PySem.W.kat_cons (he i h1 h2 prog w _ _ ?_)
    rw [_root_.Ob.lexAt_succ] at q
    cases hei : e i with
    | true =>
      rw [hei, if_pos rfl] at q
      exact PySem.W.kat_yes (katLex_run he hr k (i + 1) (by omega) q)
    | false =>
      rw [hei, if_neg Bool.false_ne_true] at q
      exact PySem.W.kat_no (hr i h1 h2 hei Q q)
theorem keyLt_tup {bb : Bool} {v u : Value} {b : Bool} {l l2 : Addr} {its its2 : Array Value} {e r : Nat → Bool} {Q : Bool → Shared → Prop} (hv : v = .ref l) (hu : u = .ref l2) (h1 : s.heap.IsTuple l its) (h2 : s.heap.IsTuple l2 its2)
    (he : ∀ j (h1 : j < its.size) (h2 : j < its2.size), SeqAt.EqAt A s its[j] its2[j] (e j))
    (hr : ∀ j (h1 : j < its.size) (h2 : j < its2.size), e j = false → ∀ (Q : Bool → Shared → Prop), Q (r j) s → wpAny (model prog w) A (oneLt' (bb && j == 0) its[j] its2[j]) Q (fun _ _ => False) s)
    (hb : _root_.Ob.lexAt e r (decide (its.size < its2.size)) 0 (min its.size its2.size) = b) (q : Q b s) : wpAny (model prog w) A (keyLt' (tuples' bb) v u) Q E s := by
  subst hv hu
  obtain ⟨o, ho, hc, n, hd⟩ := h1
  obtain ⟨o2, ho2, hc2, n2, hd2⟩ := h2
  refine PySem.W.kat_lt ho hd ho2 hd2 ?_
  have := katLex_run (Q := Q) he hr (min its.size its2.size) 0 (by omega) (by rw [hb]; exact q)
  simpa using this
end
end Pv
set_option maxRecDepth 100000
set_option maxHeartbeats 2000000
/-! PvD5: sorted of plain data -/
namespace Pv
open PySem PySem.Spec PyProof.Rows L2

mutual
theorem okD_succ : ∀ (n : Nat) (x : D), okD n x = true → okD (n + 1) x = true
  | _, .non, _ => rfl
  | _, .bl _, _ => rfl
  | _, .int _, _ => rfl
  | _, .str x, h => by simpa only [okD] using h
  | 0, .tup _, h => by simp [okD] at h
  | n + 1, .tup xs, h => by simp only [okD] at h ⊢; exact okL_succ n xs h
  | 0, .lst _, h => by simp [okD] at h
  | n + 1, .lst xs, h => by simp only [okD] at h ⊢; exact okL_succ n xs h
  | 0, .wk _, h => by simp [okD] at h
  | n + 1, .wk xs, h => by simp only [okD] at h ⊢; exact okL_succ n xs h
  | _, .dct _ _ _, h => by simp [okD] at h
  | _, .wkd _ _ _, h => by simp [okD] at h
  | _, .ref _, h => by simp [okD] at h
  | _, .fn _, h => by simp [okD] at h
  | _, .ty _, h => by simp [okD] at h
  | _, .sc _, h => by simp [okD] at h
  | _, .clo _ _ _ _ _, h => by simp [okD] at h
theorem okL_succ : ∀ (n : Nat) (xs : List D), okL n xs = true → okL (n + 1) xs = true
  | _, [], _ => rfl
  | n, x :: xs, h => by
    simp only [okL, Bool.and_eq_true] at h ⊢
    exact ⟨okD_succ n x h.1, okL_succ n xs h.2⟩
end
theorem hasTyL_get {t : Ty} : ∀ {xs : List D} {j : Nat}, hasTyL t xs = true → j < xs.length → hasTy t (xs.getD j .non) = true
  | [], _, _, h => absurd h (Nat.not_lt_zero _)
  | x :: xs, 0, h, _ => by simp only [hasTyL, Bool.and_eq_true] at h; simpa using h.1
  | x :: xs, j + 1, h, hj => by simp only [hasTyL, Bool.and_eq_true] at h; simpa using hasTyL_get h.2 (by simpa using hj)
/-- the kinds of two tuples' items, place by place -/
def subTy : Ty → Nat → Ty
  | .l t, _ => t
  | .p a _, 0 => a
  | .p _ b, _ => b
  | t, _ => t
theorem sub_has {t : Ty} {xs : List D} {j : Nat} (h : hasTy t (.tup xs) = true) (hj : j < xs.length) : hasTy (subTy t j) (xs.getD j .non) = true := by
  cases t with
  | i => simp [hasTy] at h
  | s => simp [hasTy] at h
  | l t => simp only [hasTy] at h; exact hasTyL_get h hj
  | p a b =>
    match xs, h with
    | [x, y], h =>
      simp only [hasTy, Bool.and_eq_true] at h
      match j, hj with
      | 0, _ => exact h.1
      | 1, _ => exact h.2
section
variable {c : Cn} {X : Cx} {pins : List (Addr × Obj)} {σ : L2.St} {H : Hp} {s : Shared} {G : List Addr} {A : Around} {prog : Program} {w : World}
theorem oneLt_D (hc : X.K = c.K) (I : Inv X pins σ H s) (hu : A.units + 90 < cLine) {t : Ty} {bb : Bool} {d e : D} {x y : V} {v u : Value} {Q : Bool → Shared → Prop} {E : Value → Shared → Prop} (t1 : hasTy t d = true) (t2 : hasTy t e = true) (o1 : okd d = true) (o2 : okd e = true) (r1 : Rel c G H d x) (r2 : Rel c G H e y) (rx : RelV x v) (ry : RelV y u)
    (q : Q (decide (enc d < enc e)) s) : wpAny (model prog w) A (oneLt' bb v u) Q E s := by
  have hlt := lt_enc t1 t2
  cases bb with
  | false => exact oneLt_rc (rcLt hc I 40 A d e x y v u _ (by omega) (by omega) o1 o2 r1 r2 rx ry hlt) q
  | true =>
    have tup : ∀ xs ys, d = .tup xs → e = .tup ys → wpAny (model prog w) A (oneLt' true v u) Q E s := by
      rintro xs ys rfl rfl
      obtain ⟨l, l2, its, its2, _, _, T, _, _⟩ := tup_parts hc I (A := A) (by omega) o1 o2 r1 r2 rx ry (show ltL xs ys = some _ by simpa only [ltD] using hlt)
      exact oneLt_tup (by omega) T q
    cases t with
    | i =>
      cases d <;> simp only [hasTy, Bool.false_eq_true] at t1
      cases e <;> simp only [hasTy, Bool.false_eq_true] at t2
      simp only [Rel] at r1 r2
      subst r1 r2
      obtain ⟨t, rfl⟩ := rx
      obtain ⟨t', rfl⟩ := ry
      simp only [ltD, Option.some.injEq] at hlt
      rw [← hlt] at q
      exact oneLt_int q
    | s =>
      cases d <;> simp only [hasTy, Bool.false_eq_true] at t1
      cases e <;> simp only [hasTy, Bool.false_eq_true] at t2
      simp only [Rel] at r1 r2
      subst r1 r2
      obtain ⟨t, rfl⟩ := rx
      obtain ⟨t', rfl⟩ := ry
      simp only [ltD, Option.some.injEq] at hlt
      rw [← hlt] at q
      exact oneLt_str q
    | l t0 =>
      cases d <;> simp only [hasTy, Bool.false_eq_true] at t1
      cases e <;> simp only [hasTy, Bool.false_eq_true] at t2
      exact tup _ _ rfl rfl
    | p a b =>
      cases d <;> first | (simp [hasTy] at t1; done) | skip
      cases e <;> first | (simp [hasTy] at t2; done) | skip
      exact tup _ _ rfl rfl
/-- two tuples, by the tuples' kind -/
theorem keyLt_D (hc : X.K = c.K) (I : Inv X pins σ H s) (hu : A.units + 91 < cLine) {t : Ty} {bb : Bool} {xs ys : List D} {x y : V} {v u : Value} {Q : Bool → Shared → Prop} {E : Value → Shared → Prop} (t1 : hasTy t (.tup xs) = true) (t2 : hasTy t (.tup ys) = true) (o1 : okd (.tup xs) = true) (o2 : okd (.tup ys) = true)
    (r1 : Rel c G H (.tup xs) x) (r2 : Rel c G H (.tup ys) y) (rx : RelV x v) (ry : RelV y u) (q : Q (decide (enc (.tup xs) < enc (.tup ys))) s) : wpAny (model prog w) A (keyLt' (tuples' bb) v u) Q E s := by
  have hlt : ltL xs ys = some (decide (enc (.tup xs) < enc (.tup ys))) := by have := lt_enc t1 t2; simpa only [ltD] using this
  obtain ⟨l, l2, its, its2, n1, n2, T, a1, a2⟩ := tup_parts hc I (A := A) (by omega) o1 o2 r1 r2 rx ry hlt
  have k1 : okL 39 xs = true := by simpa [okd, okD] using o1
  have k2 : okL 39 ys = true := by simpa [okd, okD] using o2
  refine keyLt_tup T.hv T.hu T.h1 T.h2 (fun j h1 h2 => ?_) (fun j h1 h2 he Q' hq => ?_) T.hb q
  · obtain ⟨z, q1, q2⟩ := a1 j h1
    obtain ⟨z', q1', q2'⟩ := a2 j h2
    exact eqAt_D hc I (by omega) (by omega) (okL_get k1 j (by omega)) (okL_get k2 j (by omega)) q1 q1' q2 q2'
  · obtain ⟨z, q1, q2⟩ := a1 j h1
    obtain ⟨z', q1', q2'⟩ := a2 j h2
    have e1 := sub_has t1 (j := j) (by omega)
    have e2 := sub_has t2 (j := j) (by omega)
    refine oneLt_D hc I (by omega) e1 e2 (okD_succ _ _ (okL_get k1 j (by omega))) (okD_succ _ _ (okL_get k2 j (by omega))) q1 q1' q2 q2' ?_
    have z2 := lt_enc e1 e2
    have z3 : ltAtL xs ys j = decide (enc (xs.getD j .non) < enc (ys.getD j .non)) := by unfold ltAtL; rw [z2]; rfl
    rw [← z3]
    exact hq
end
/-! ### the whole sort -/
open Classical in
noncomputable def dOf (its : List Value) (ds : List D) (v : Value) : D := if h : ∃ i, its[i]? = some v then ds.getD h.choose .non else .non
theorem dOf_spec {c : Cn} {G : List Addr} {H : Hp} {its : List Value} {vs : List V} {ds : List D} (rv : Vals vs its) (rl : RelL c G H ds vs) {v : Value} (hv : v ∈ its) : ∃ w, w ∈ vs ∧ RelV w v ∧ Rel c G H (dOf its ds v) w ∧ dOf its ds v ∈ ds ∧ (dOf its ds v).strong = true := by
  have h : ∃ i, its[i]? = some v := List.mem_iff_getElem?.mp hv
  unfold dOf
  rw [dif_pos h]
  have hc := h.choose_spec
  have hi : h.choose < its.length := (List.getElem?_eq_some_iff.mp hc).1
  have hj : h.choose < ds.length := by rw [← rl.length, rv.length]; exact hi
  obtain ⟨w, e1, e2, e3⟩ := rl.get (List.getElem?_eq_getElem hj)
  obtain ⟨u, e4, e5⟩ := rv.get e1
  rw [hc] at e4
  cases e4
  refine ⟨w, List.mem_of_getElem? e1, e5, ?_, ?_, ?_⟩
  · rw [List.getD_eq_getElem?_getD, List.getElem?_eq_getElem hj]; exact e3
  · rw [List.getD_eq_getElem?_getD, List.getElem?_eq_getElem hj]; exact List.getElem_mem hj
  · rw [List.getD_eq_getElem?_getD, List.getElem?_eq_getElem hj]; exact e2
noncomputable def ltO (its : List Value) (ds : List D) (v u : Value) : Bool := decide (enc (dOf its ds v) < enc (dOf its ds u))
theorem swo_O (its : List Value) (ds : List D) : SrtO.Swo (ltO its ds) := by
  constructor
  · intro x y h
    simp only [ltO, decide_eq_true_eq, decide_eq_false_iff_not] at *
    exact fun q => List.lt_irrefl _ (List.lt_trans q h)
  · intro x y z h1 h2
    simp only [ltO, decide_eq_false_iff_not] at *
    intro q
    exact (List.not_lt.mpr (List.le_trans (List.not_lt.mp h1) (List.not_lt.mp h2))) q
def fstV (h : Heap) : Value → Option Value
  | .ref a => match h.get? a with
    | some o => match o.data with
      | .seq xs _ => xs[0]?
      | _ => none
    | none => none
  | _ => none
theorem fstV_is {h : Heap} {a : Addr} {xs : Array Value} (t : h.IsTuple a xs) : FirstIs h (.ref a) (fstV h (.ref a)) ∧ fstV h (.ref a) = xs[0]? := by
  obtain ⟨o, ho, hc, n, hd⟩ := t
  have e : fstV h (.ref a) = xs[0]? := by
    simp only [fstV, ho, hd]
  exact ⟨⟨a, o, xs, n, rfl, ho, hc, hd, e.symm⟩, e⟩
theorem katTups_of {h : Heap} : ∀ (vs : List Value) (f : Value → Value), (∀ v ∈ vs, FirstIs h v (some (f v))) → PySem.W.KatTups h vs (vs.map f)
  | [], _, _ => PySem.W.KatTups.nil
  | v :: vs, f, t => by
    obtain ⟨a, o, xs, n, e, ho, hc, hd, hf⟩ := t v (List.mem_cons_self ..)
    exact ⟨⟨a, o, xs, n, e, ho, hc, hd, hf⟩, katTups_of vs f fun v hv => t v (List.mem_cons_of_mem _ hv)⟩
def tyName : Ty → String
  | .i => "int"
  | .s => "str"
  | _ => "tuple"
theorem ints_of {c : Cn} {G : List Addr} {H : Hp} {its : List Value} (h : ∀ v ∈ its, ∃ i t, v = Value.int i t) : IntsAre its (its.map SrtO.iv) := SrtO.ints_iv h
section
variable {c : Cn} {X : Cx} {pins : List (Addr × Obj)} {σ : L2.St} {H : Hp} {s : Shared} {G : List Addr} {A : Around} {prog : Program} {w : World}
/-- what is known of each value -/
def Known (c : Cn) (G : List Addr) (H : Hp) (t : Ty) (f : Value → D) (v : Value) : Prop := ∃ x, RelV x v ∧ Rel c G H (f v) x ∧ hasTy t (f v) = true ∧ okd (f v) = true
theorem type_of (hc : X.K = c.K) (I : Inv X pins σ H s) {M : Model} {t : Ty} {d : D} {x : V} {v : Value} (h : hasTy t d = true) (r : Rel c G H d x) (rx : RelV x v) : PySem.W.Looks M s.heap (typeOf v) (Value.type (tyName t)) := by
  have tup : ∀ xs, d = .tup xs → PySem.W.Looks M s.heap (typeOf v) (Value.type "tuple") := by
    rintro xs rfl
    obtain ⟨a, vs, rfl, ha, _⟩ := r.tup
    cases rx
    obtain ⟨its, _, ⟨o, ho, hcl, n, hd⟩, _⟩ := I.tuple (by rw [hc]; exact ha)
    rw [← show o.cls = Value.type "tuple" from hcl]
    exact (PySem.W.Looks.ld ho).andThen .now
  cases t with
  | i =>
    cases d <;> first | (simp [hasTy] at h; done) | skip
    simp only [Rel] at r
    subst r
    obtain ⟨t, rfl⟩ := rx
    exact PySem.W.Looks.of_pure rfl
  | s =>
    cases d <;> first | (simp [hasTy] at h; done) | skip
    simp only [Rel] at r
    subst r
    obtain ⟨t, rfl⟩ := rx
    exact PySem.W.Looks.of_pure rfl
  | l t0 =>
    cases d <;> first | (simp [hasTy] at h; done) | skip
    exact tup _ rfl
  | p a b =>
    cases d <;> first | (simp [hasTy] at h; done) | skip
    exact tup _ rfl
theorem tup_known (hc : X.K = c.K) (I : Inv X pins σ H s) {xs : List D} {x : V} {v : Value} (r : Rel c G H (.tup xs) x) (rx : RelV x v) : ∃ a its, v = .ref a ∧ s.heap.IsTuple a its ∧ its.size = xs.length ∧ ∀ j (h : j < its.size), ∃ z, Rel c G H (xs.getD j .non) z ∧ RelV z its[j] := by
  obtain ⟨a, vs, rfl, ha, ra⟩ := r.tup
  cases rx
  obtain ⟨its, rv, p1, _⟩ := I.tuple (by rw [hc]; exact ha)
  have n1 : its.length = xs.length := by rw [← rv.length, ra.length]
  refine ⟨a, its.toArray, rfl, p1, by simpa using n1, fun j h1 => ?_⟩
  have hj : j < xs.length := by rw [← n1]; simpa using h1
  obtain ⟨z, e1, _, e2⟩ := ra.get (List.getElem?_eq_getElem hj)
  obtain ⟨u', e3, e4⟩ := rv.get e1
  refine ⟨z, ?_, ?_⟩
  · rw [List.getD_eq_getElem?_getD, List.getElem?_eq_getElem hj]; exact e2
  · have : its.toArray[j] = u' := by
      have := (List.getElem?_eq_some_iff.mp e3).2
      simpa using this
    rw [this]; exact e4
theorem kind_D (hc : X.K = c.K) (I : Inv X pins σ H s) (hu : A.units + 91 < cLine) {t : Ty} {f : Value → D} {its : List Value} (h2 : 2 ≤ its.length) (k : ∀ v ∈ its, Known c G H t f v) : ∃ κ,
    (∀ (Q : SortKind → Shared → Prop) (E : Value → Shared → Prop), Q κ s → wpAny (model prog w) A (keyKind' its.toArray) Q E s) ∧
    ∀ p q : Keyed, p.1 ∈ its → q.1 ∈ its → wpAny (model prog w) A (keyLt' κ p.1 q.1) (fun r s' => s' = s ∧ r = decide (enc (f p.1) < enc (f q.1))) (fun _ _ => False) s := by
  have one : ∀ bb p q, p ∈ its → q ∈ its → wpAny (model prog w) A (oneLt' bb p q) (fun r s' => s' = s ∧ r = decide (enc (f p) < enc (f q))) (fun _ _ => False) s := fun bb p q hp hq => by
    obtain ⟨x, rx, r, t1, o1⟩ := k p hp
    obtain ⟨y, ry, r', t2, o2⟩ := k q hq
    exact oneLt_D hc I (by omega) t1 t2 o1 o2 r r' rx ry ⟨rfl, rfl⟩
  obtain ⟨v₁, v₂, rest, rfl⟩ : ∃ v₁ v₂ rest, its = v₁ :: v₂ :: rest := by
    match its, h2 with
    | v₁ :: v₂ :: rest, _ => exact ⟨v₁, v₂, rest, rfl⟩
  have plain : tyName t ≠ "tuple" → ∃ κ, (∀ (Q : SortKind → Shared → Prop) (E : Value → Shared → Prop), Q κ s → wpAny (model prog w) A (keyKind' (v₁ :: v₂ :: rest).toArray) Q E s) ∧
      ∀ p q : Keyed, p.1 ∈ v₁ :: v₂ :: rest → q.1 ∈ v₁ :: v₂ :: rest → wpAny (model prog w) A (keyLt' κ p.1 q.1) (fun r s' => s' = s ∧ r = decide (enc (f p.1) < enc (f q.1))) (fun _ _ => False) s := fun hn => by
    refine ⟨oneType', fun Q E hq => PySem.W.kas_kind (T := Value.type (tyName t)) (by simp) (fun v hv => ?_) ?_ ?_ hq, fun p q hp hq => one true _ _ hp hq⟩
    · obtain ⟨x, rx, r, t1, _⟩ := k v hv
      exact type_of hc I t1 r rx
    · cases t <;> first | rfl | exact absurd rfl hn
    · cases t <;> rfl
  by_cases hn : tyName t = "tuple"
  · -- tuples
    have tp : ∀ v ∈ v₁ :: v₂ :: rest, ∃ xs, f v = .tup xs := fun v hv => by
      obtain ⟨x, rx, r, t1, _⟩ := k v hv
      cases t with
      | i => exact absurd hn (by decide)
      | s => exact absurd hn (by decide)
      | l t0 => revert t1; cases f v <;> intro t1 <;> first | (simp [hasTy] at t1; done) | exact ⟨_, rfl⟩
      | p a b => revert t1; cases f v <;> intro t1 <;> first | (simp [hasTy] at t1; done) | exact ⟨_, rfl⟩
    have fi : ∀ v ∈ v₁ :: v₂ :: rest, FirstIs s.heap v (fstV s.heap v) := fun v hv => by
      obtain ⟨x, rx, r, t1, _⟩ := k v hv
      obtain ⟨xs, e⟩ := tp v hv
      rw [e] at r
      obtain ⟨a, its, rfl, hi, _, _⟩ := tup_known hc I r rx
      exact (fstV_is hi).1
    by_cases hall : ∀ v ∈ v₁ :: v₂ :: rest, fstV s.heap v ≠ none
    · refine ⟨tuples' (Value.type (tyName (subTy t 0)) != Value.type "tuple"), fun Q E hq => ?_, fun p q hp hq => ?_⟩
      · have hf : ∀ v ∈ v₁ :: v₂ :: rest, FirstIs s.heap v (some ((fstV s.heap v).getD .none)) := fun v hv => by
          have := fi v hv
          cases e : fstV s.heap v with
          | none => exact absurd e (hall v hv)
          | some u => rw [e] at this; exact this
        refine PySem.W.kat_kind (T := Value.type (tyName (subTy t 0))) (katTups_of _ _ hf) (by simp) (fun u hu' => ?_) (by cases subTy t 0 <;> rfl) hq
        obtain ⟨v, hv, rfl⟩ := List.mem_map.mp hu'
        obtain ⟨x, rx, r, t1, _⟩ := k v hv
        obtain ⟨xs, e⟩ := tp v hv
        rw [e] at r t1
        obtain ⟨a, its, rfl, hi, hsz, hat⟩ := tup_known hc I r rx
        have h0 := (fstV_is hi).2
        cases e0 : its[0]? with
        | none => rw [e0] at h0; exact absurd h0 (hall _ hv)
        | some u =>
          have hlt : 0 < its.size := by
            have := (Array.getElem?_eq_some_iff.mp e0).1
            exact this
          obtain ⟨z, q1, q2⟩ := hat 0 hlt
          have hu0 : its[0] = u := (Array.getElem?_eq_some_iff.mp e0).2
          rw [hu0] at q2
          rw [h0, e0]
          exact type_of hc I (sub_has t1 (j := 0) (by omega)) q1 q2
      · obtain ⟨x, rx, r, t1, o1⟩ := k _ hp
        obtain ⟨y, ry, r', t2, o2⟩ := k _ hq
        obtain ⟨xs, e⟩ := tp _ hp
        obtain ⟨ys, e'⟩ := tp _ hq
        rw [e] at r t1 o1
        rw [e'] at r' t2 o2
        rw [e, e']
        exact keyLt_D hc I hu t1 t2 o1 o2 r r' rx ry ⟨rfl, rfl⟩
    · have hx : ∃ v ∈ v₁ :: v₂ :: rest, fstV s.heap v = none := by
        apply Classical.byContradiction
        intro hno
        exact hall fun v hv e => hno ⟨v, hv, e⟩
      by_cases h1 : ((((v₁ :: v₂ :: rest).map (fstV s.heap)).toArray[0]?).bind id).isSome = true
      · refine ⟨general', fun Q E hq => ?_, fun p q hp hq => one false _ _ hp hq⟩
        exact kind_general (by simp) fi hx h1 hq
      · refine ⟨oneType', fun Q E hq => ?_, fun p q hp hq => one true _ _ hp hq⟩
        exact kind_one (by simp) fi hx h1 hq
  · exact plain hn
end
end Pv
set_option maxRecDepth 100000
set_option maxHeartbeats 2000000
/-! PvD6: sorted(list) -/
namespace Pv
open PySem PySem.Spec PyProof.Rows L2

mutual
theorem rel_inj {c : Cn} {G : List Addr} {H : Hp} (inj : ∀ a xs ys, SqT c.K H a xs → SqT c.K H a ys → xs = ys) : ∀ (t : Ty) (d e : D) (w : V), hasTy t d = true → hasTy t e = true → Rel c G H d w → Rel c G H e w → d = e
  | .i, .int i, .int j, w, _, _, r1, r2 => by
    simp only [Rel] at r1 r2
    rw [r1] at r2; cases r2; rfl
  | .s, .str i, .str j, w, _, _, r1, r2 => by
    simp only [Rel] at r1 r2
    rw [r1] at r2; cases r2; rfl
  | .l t, .tup xs, .tup ys, w, h1, h2, r1, r2 => by
    simp only [hasTy] at h1 h2
    obtain ⟨a, vs, rfl, ha, ra⟩ := r1.tup
    obtain ⟨a', vs', e, hb, rb⟩ := r2.tup
    cases e
    have := inj _ _ _ ha hb
    subst this
    rw [rel_injL inj t xs ys vs h1 h2 ra rb]
  | .p a b, .tup xs, .tup ys, w, h1, h2, r1, r2 => by
    match xs, ys, h1, h2, r1, r2 with
    | [x, x2], [y, y2], h1, h2, r1, r2 =>
      simp only [hasTy, Bool.and_eq_true] at h1 h2
      obtain ⟨l, vs, rfl, ha, ra⟩ := r1.tup
      obtain ⟨l', vs', e, hb, rb⟩ := r2.tup
      cases e
      have := inj _ _ _ ha hb
      subst this
      simp only [RelL] at ra rb
      obtain ⟨v1, _, rfl, _, q1, v2, _, rfl, _, q2, rfl⟩ := ra
      obtain ⟨u1, _, e, _, p1, u2, _, e2, _, p2, rfl⟩ := rb
      cases e
      cases e2
      rw [rel_inj inj a x y _ h1.1 h2.1 q1 p1, rel_inj inj b x2 y2 _ h1.2 h2.2 q2 p2]
theorem rel_injL {c : Cn} {G : List Addr} {H : Hp} (inj : ∀ a xs ys, SqT c.K H a xs → SqT c.K H a ys → xs = ys) : ∀ (t : Ty) (xs ys : List D) (vs : List V), hasTyL t xs = true → hasTyL t ys = true → RelL c G H xs vs → RelL c G H ys vs → xs = ys
  | _, [], [], _, _, _, _, _ => rfl
  | _, [], y :: ys, vs, _, _, r1, r2 => by
    simp only [RelL] at r1 r2
    obtain ⟨v, r, e, _⟩ := r2
    rw [r1] at e; cases e
  | _, x :: xs, [], vs, _, _, r1, r2 => by
    simp only [RelL] at r1 r2
    obtain ⟨v, r, e, _⟩ := r1
    rw [r2] at e; cases e
  | t, x :: xs, y :: ys, vs, h1, h2, r1, r2 => by
    simp only [hasTyL, Bool.and_eq_true] at h1 h2
    simp only [RelL] at r1 r2
    obtain ⟨v, r, rfl, _, q1, q2⟩ := r1
    obtain ⟨v', r', e, _, p1, p2⟩ := r2
    cases e
    rw [rel_inj inj t x y v h1.1 h2.1 q1 p1, rel_injL inj t xs ys r h1.2 h2.2 q2 p2]
end
theorem relV_inj {c : Cn} {G : List Addr} {H : Hp} {t : Ty} {d e : D} {w w' : V} {v : Value} (h1 : hasTy t d = true) (h2 : hasTy t e = true) (r1 : Rel c G H d w) (r2 : Rel c G H e w') (v1 : RelV w v) (v2 : RelV w' v) : w = w' := by
  have ref : ∀ (xs : List D) (d : D) (w : V), d = .tup xs → Rel c G H d w → ∃ a, w = .ref a := by
    rintro xs _ _ rfl r
    obtain ⟨a, _, rfl, _⟩ := r.tup
    exact ⟨a, rfl⟩
  have tt : ∀ xs ys, d = .tup xs → e = .tup ys → w = w' := by
    intro xs ys e1 e2
    obtain ⟨a, rfl⟩ := ref xs d w e1 r1
    obtain ⟨a', rfl⟩ := ref ys e w' e2 r2
    cases v1
    cases v2
    rfl
  cases t with
  | i =>
    cases d <;> first | (simp [hasTy] at h1; done) | skip
    cases e <;> first | (simp [hasTy] at h2; done) | skip
    simp only [Rel] at r1 r2
    subst r1 r2
    obtain ⟨t, rfl⟩ := v1
    obtain ⟨t', z⟩ := v2
    cases z
    rfl
  | s =>
    cases d <;> first | (simp [hasTy] at h1; done) | skip
    cases e <;> first | (simp [hasTy] at h2; done) | skip
    simp only [Rel] at r1 r2
    subst r1 r2
    obtain ⟨t, rfl⟩ := v1
    obtain ⟨t', z⟩ := v2
    cases z
    rfl
  | l t0 =>
    cases d <;> first | (simp [hasTy] at h1; done) | skip
    cases e <;> first | (simp [hasTy] at h2; done) | skip
    exact tt _ _ rfl rfl
  | p a b =>
    cases d <;> first | (simp [hasTy] at h1; done) | skip
    cases e <;> first | (simp [hasTy] at h2; done) | skip
    exact tt _ _ rfl rfl
theorem rel_pick {c : Cn} {G : List Addr} {H : Hp} (f : Value → D) : ∀ (out : List Value), (∀ v ∈ out, ∃ w, RelV w v ∧ Rel c G H (f v) w ∧ (f v).strong = true) → ∃ zs, Vals zs out ∧ RelL c G H (out.map f) zs
  | [], _ => ⟨[], .nil, by simp [RelL]⟩
  | v :: out, h => by
    obtain ⟨w, h1, h2, h3⟩ := h v (List.mem_cons_self ..)
    obtain ⟨zs, h4, h5⟩ := rel_pick f out fun u hu => h u (List.mem_cons_of_mem _ hu)
    refine ⟨w :: zs, .cons h1 h4, ?_⟩
    simp only [List.map_cons, RelL]
    exact ⟨w, zs, rfl, h3, h2, h5⟩
def dSorted (t : Ty) : List D → Option D
  | [d] => match listD d with
    | some xs => if xs.all (hasTy t) && xs.all okd then some (.lst (srtD xs)) else none
    | none => none
  | _ => none
/-- the sort's result told of the data -/
theorem sort_out {c : Cn} {G : List Addr} {H : Hp} (inj : ∀ a xs ys, SqT c.K H a xs → SqT c.K H a ys → xs = ys) {t : Ty} {its out : List Value} {vs : List V} {ds : List D} (rv : Vals vs its) (rl : RelL c G H ds vs) (ht : ∀ d ∈ ds, hasTy t d = true) (h1 : SrtO.Srtd (ltO its ds) out) (h2 : out.Perm its) :
    out.map (dOf its ds) = srtD ds := by
  have eqs : its.map (dOf its ds) = ds := by
    have hlen : its.length = ds.length := by rw [← rv.length, rl.length]
    refine List.ext_getElem (by simpa using hlen) fun i q1 q2 => ?_
    rw [List.getElem_map]
    have hi : i < its.length := by simpa using q1
    obtain ⟨w, _, e1, e2, e3, _⟩ := dOf_spec rv rl (List.getElem_mem hi)
    obtain ⟨w', e4, _, e5⟩ := rl.get (List.getElem?_eq_getElem q2)
    obtain ⟨u, e6, e7⟩ := rv.get e4
    have e8 : its[i] = u := (List.getElem?_eq_some_iff.mp e6).2
    rw [← e8] at e7
    have ww := relV_inj (ht _ e3) (ht _ (List.getElem_mem q2)) e2 e5 e1 e7
    subst ww
    exact rel_inj inj t _ _ _ (ht _ e3) (ht _ (List.getElem_mem q2)) e2 e5
  have p1 : (out.map (dOf its ds)).Perm ds := by
    have := h2.map (dOf its ds)
    rwa [eqs] at this
  refine srt_uniq (t := t) (p1.trans (srtD_perm ds).symm) (fun x hx => ht x (p1.mem_iff.mp hx)) ?_ (srtD_srt ds)
  rw [List.pairwise_map]
  exact h1.imp fun {x y} h => by simpa [ltO] using h
section
variable {c : Cn} {X : Cx}
theorem call_sortedD (hc : X.K = c.K) (hu : X.A.units + 100 < cLine) (t : Ty) : CallR X (.builtin "sorted") (rC c (dSorted t)) := by
  intro pins s σ H vs us Q I r ⟨G, ds, d, ra, e, q⟩
  unfold dSorted at e
  split at e
  rotate_left
  · cases e
  rename_i d1
  obtain ⟨v, rfl, rv⟩ := ra.one
  split at e
  rotate_left
  · cases e
  rename_i xs hl
  split at e
  rotate_left
  · cases e
  rename_i hh
  cases e
  simp only [Bool.and_eq_true, List.all_eq_true] at hh
  obtain ⟨a, ws, rfl, hp, rl⟩ := rv.list hl
  obtain ⟨its, rvv, hls, hz⟩ := I.list (.inl hp)
  rw [Vals.ref1 r]
  have inj : ∀ a xs ys, SqT c.K H a xs → SqT c.K H a ys → xs = ys := fun a xs ys h1 h2 => by rw [← hc] at h1 h2; exact I.tuple_inj h1 h2
  refine SrtO.sorted_ord (swo_O its xs) hls.isList (by rw [← rvv.length]; exact hz) (fun h2 h₁ a' _ kk => ?_) fun out h1 h2 => ?_
  · intro h' k'
    have I' : Inv X pins σ H { s with heap := h' } := I.kept (t' := s.toks) fun b o e => k' b o (kk b o e).1 (kk b o e).2
    obtain ⟨κ, k1, k2⟩ := kind_D (prog := X.prog) (w := X.w) (A := X.A.in1.in1) hc I' (by show X.A.units + 1 + 1 + 91 < cLine; omega) (t := t) (f := dOf its xs) h2 fun v hv => by
      obtain ⟨w, _, e1, e2, e3, _⟩ := dOf_spec rvv rl hv
      exact ⟨w, e1, e2, hh.1 _ e3, hh.2 _ e3⟩
    exact ⟨κ, k1, fun p q hp hq => k2 p q hp hq⟩
  · have eo := sort_out inj rvv rl hh.1 h1 h2.perm
    obtain ⟨zs, vz, rz⟩ := rel_pick (c := c) (G := G) (H := H) (dOf its xs) out fun v hv => by
      obtain ⟨w, _, e1, e2, _, e4⟩ := dOf_spec rvv rl (h2.perm.mem_iff.mp hv)
      exact ⟨w, e1, e2, e4⟩
    rw [eo] at rz
    obtain ⟨ep, he'⟩ := PyProof.Rows.sortedAll_at s.heap its out.toArray
    have hlen : zs.length ≤ sizeLine := by
      rw [vz.length, h2.perm.length_eq, ← rvv.length]
      exact hz
    have I1 : Inv X pins σ (upd H (s.heap.objs.size + 1) (.lst zs)) { s with heap := sortedAll s.heap its out.toArray } := I.laid (t' := s.toks) (fun _ _ => PyProof.Rows.sortedAll_old) (Nat.le_succ _) ⟨hlen, out, ep, vz, he'⟩
    obtain ⟨o, I2⟩ := I1.freeze upd_same
    have np : H (s.heap.objs.size + 1) = none := I.hok.fresh (Nat.le_succ _)
    rw [upd_upd] at I2
    exact ⟨.ref _, _, I2, rfl, q _ _ (ExtN.upd np) (Rel.newLst np rz)⟩
end
end Pv
set_option maxRecDepth 100000
set_option maxHeartbeats 2000000
/-! PvD7: sorted(set(..)) of tuples of ints -/
namespace Pv
open PySem PySem.Spec PyProof.Rows L2

def lotD (ns : List Int) : D := .tup (ns.map .int)
theorem relL_ints {c : Cn} {G : List Addr} {H : Hp} : ∀ (ns : List Int), RelL c G H (ns.map .int) (ns.map V.int)
  | [] => by simp [RelL]
  | n :: ns => by
    simp only [List.map_cons, RelL]
    exact ⟨_, _, rfl, rfl, by simp only [Rel], relL_ints ns⟩
theorem hasTy_ints : ∀ (ns : List Int), hasTyL .i (ns.map .int) = true
  | [] => rfl
  | n :: ns => by simp [hasTyL, hasTy, hasTy_ints ns]
theorem ok_ints : ∀ (k : Nat) (ns : List Int), okL k (ns.map .int) = true
  | _, [] => rfl
  | k, n :: ns => by simp [okL, okD, ok_ints k ns]
theorem relL_lots {c : Cn} {G : List Addr} {H : Hp} : ∀ (L : List (Addr × List Int)), (∀ p ∈ L, TupK c H p.1 (p.2.map V.int)) → RelL c G H (L.map fun p => lotD p.2) (L.map fun p => V.ref p.1)
  | [], _ => by simp [RelL]
  | p :: L, h => by
    simp only [List.map_cons, RelL]
    refine ⟨_, _, rfl, rfl, ?_, relL_lots L fun q hq => h q (List.mem_cons_of_mem _ hq)⟩
    unfold lotD
    simp only [Rel]
    exact ⟨_, _, rfl, h p (List.mem_cons_self ..), relL_ints _⟩
section
variable {c : Cn} {X : Cx}
def rSortSet (c : Cn) (P : Program) (w : World) : List V → Hp → VK → Prop := fun vs H Q => ∃ (a : Addr) (L : List (Addr × List Int)) (G : List Addr), vs = [V.ref a] ∧ H a = some (SetTO P w a L) ∧ (∀ p ∈ L, TupK c H p.1 (p.2.map V.int)) ∧
  ∀ v H', ExtN H H' → (L.map (·.2)).Nodup → Rel c G H' (.lst (srtD (L.map fun p => lotD p.2))) v → Q v H'
theorem call_sortSetD (hc : X.K = c.K) (hm : X.calm = true) (hu : X.A.units + 100 < cLine) : CallR X (.builtin "sorted") (rSortSet c X.prog X.w) := by
  intro pins s σ H vs us Q I r ⟨a, L, G, hvs, ha, hk, q⟩
  subst hvs
  have R0 : SetT0 X.prog X.w s.heap a L := (I.hok a _ ha).1
  obtain ⟨es, ep, t, R⟩ := R0.full fun p hp => I.isT (by rw [hc]; exact (hk p hp).1)
  rw [Vals.ref1 r]
  have hh := I.ok.hd hm
  obtain ⟨o, ho, hex, hd⟩ := R.ob
  have hsz := R.size
  have hfew := R.few
  have inj : ∀ a xs ys, SqT c.K H a xs → SqT c.K H a ys → xs = ys := fun a xs ys h1 h2 => by rw [← hc] at h1 h2; exact I.tuple_inj h1 h2
  have rl := relL_lots (c := c) (G := G) (H := H) L hk
  have rvv := vals_of_refs L
  refine Calls.call_function_entry kind_sorted plain_sorted entry_sorted (args_sorted1 _) ?_
  unfold Builtin.«sorted»
  refine wpAny_bind (m := checkCount "sorted" 1 1 _) (wpAny_pure ?_)
  refine wpAny_bind (collect_set (A := X.A.in1) hh ⟨o, ho, hex.1, hd⟩ R.fits (by unfold scanBound; omega) R.tab.ris R.led fun s1 vs k1 hz g1 o1 pm => ?_)
  have hes : es.toList.map (·.2) = L.map fun q => Value.ref q.1 := by
    rw [R.rows]
    unfold rowsOf
    rw [List.map_map] <;> rfl
  rw [hes] at pm
  have hvl : vs.length ≤ sizeLine := by rw [pm.length_eq, List.length_map, sizeLine_eq]; omega
  refine wpAny_bind (wpAny_newList ?_ hvl)
  have hoL : (s1.heap.push (seqObj "list" vs.toArray 0)).get? s1.heap.objs.size = some (seqObj "list" vs.toArray 0) := Heap.get?_push_size _ rfl
  have inv_at : ∀ h' : Heap, (∀ b o, s.heap.get? b = some o → h'.get? b = some o) → Inv X pins σ H { s1 with heap := h' } := fun h' k => by
    have J : Inv X pins σ H { s with heap := h', gens := s1.gens, drawn := s1.drawn, toks := s1.toks } := I.call (ch := []) (Un.kept k) (I.hok.kept k) (by rw [g1]; exact I.bare) (fun _ z => nomatch z)
    have e : ({ s1 with heap := h' } : Shared) = { s with heap := h', gens := s1.gens, drawn := s1.drawn, toks := s1.toks } := by
      cases s1
      cases s
      cases o1
      rfl
    rw [e]
    exact J
  have known : ∀ v ∈ vs, Known c G H (.l .i) (dOf (L.map fun p => Value.ref p.1) (L.map fun p => lotD p.2)) v := fun v hv => by
    obtain ⟨w, _, e1, e2, e3, _⟩ := dOf_spec rvv rl (pm.mem_iff.mp hv)
    obtain ⟨p, _, e4⟩ := List.mem_map.mp e3
    refine ⟨w, e1, e2, ?_, ?_⟩
    · rw [← e4]; unfold lotD; simp only [hasTy]; exact hasTy_ints _
    · rw [← e4]; unfold lotD okd; simp only [okD]; exact ok_ints _ _
  refine wpAny_bind (wpAny_holding (wpAny_call_entry slot_list_sort ⟨_, hoL, rfl⟩ entry_list_sort (SrtO.list_sort_ord (s := { s1 with heap := s1.heap.push (seqObj "list" vs.toArray 0) }) (swo_O (L.map fun p => Value.ref p.1) (L.map fun p => lotD p.2)) hoL hvl (fun h2 => ?_) fun out hs hb => ⟨_, rfl, ?_⟩) (args_list_sort _)))
  · intro h' k'
    have I' := inv_at h' fun b o e => k' b o (Nat.ne_of_lt (Heap.lt_size (k1 b o e))) (Heap.get?_push_of_some _ (k1 b o e))
    obtain ⟨κ, q1, q2⟩ := kind_D (prog := X.prog) (w := X.w) (A := X.A.in1.in1) hc I' (by show X.A.units + 1 + 1 + 91 < cLine; omega) h2 known
    exact ⟨κ, q1, fun p q hp hq => q2 p q hp hq⟩
  · have eo := sort_out inj rvv rl (t := .l .i) (fun d hd => by
      obtain ⟨p, _, rfl⟩ := List.mem_map.mp hd
      unfold lotD; simp only [hasTy]; exact hasTy_ints _) hs (hb.perm.trans pm)
    obtain ⟨zs, vz, rz⟩ := rel_pick (c := c) (G := G) (H := H) (dOf (L.map fun p => Value.ref p.1) (L.map fun p => lotD p.2)) out fun v hv => by
      obtain ⟨w, _, e1, e2, _, e4⟩ := dOf_spec rvv rl (pm.mem_iff.mp (hb.perm.mem_iff.mp hv))
      exact ⟨w, e1, e2, e4⟩
    rw [eo] at rz
    obtain ⟨ep', he'⟩ := sortedHeap_at (vs := vs) (out := out.toArray) hoL
    have hlen : zs.length ≤ sizeLine := by
      rw [vz.length, hb.perm.length_eq]
      exact hvl
    have np : H s1.heap.objs.size = none := I.hok.fresh hz
    have kk : ∀ b u, s.heap.get? b = some u → (sortedHeap (s1.heap.push (seqObj "list" vs.toArray 0)) s1.heap.objs.size vs out.toArray).get? b = some u := fun b u e => by
      have q := k1 b u e
      have hlt := Heap.lt_size q
      rw [sortedHeap_old (Nat.ne_of_lt hlt) (by rw [size_push']; exact Nat.lt_succ_of_lt hlt)]
      exact Heap.get?_push_of_some _ q
    have J0 := inv_at _ kk
    have J : Inv X pins σ (upd H s1.heap.objs.size (.lst zs)) { s1 with heap := sortedHeap (s1.heap.push (seqObj "list" vs.toArray 0)) s1.heap.objs.size vs out.toArray } := by
      have e : ({ s1 with heap := sortedHeap (s1.heap.push (seqObj "list" vs.toArray 0)) s1.heap.objs.size vs out.toArray } : Shared) = { s with heap := sortedHeap (s1.heap.push (seqObj "list" vs.toArray 0)) s1.heap.objs.size vs out.toArray, gens := s1.gens, drawn := s1.drawn, toks := s1.toks } := by
        cases s1
        cases s
        cases o1
        rfl
      rw [e]
      exact I.call (ch := []) (Un.laid kk hz np) (I.hok.laid kk hz ⟨hlen, out, ep', vz, he'⟩) (by rw [g1]; exact I.bare) (fun _ z => nomatch z)
    obtain ⟨oo, J2⟩ := J.freeze upd_same
    rw [upd_upd] at J2
    exact wpAny_pure ⟨_, rfl, .ref _, _, J2, rfl, q _ _ (ExtN.upd np) R.nd (Rel.newLst np rz)⟩
end
end Pv
set_option maxRecDepth 100000
set_option maxHeartbeats 4000000
/-! PvE13: sorted(set(list of ints)) -/
namespace Pv
open PySem PySem.Spec PyProof.Rows L2

section
variable {P : Program} {w : World} {A : Around} {E : Value → Shared → Prop} {s : Shared}
/-- an empty set as it is laid -/
abbrev nwSet (w : World) : Obj := { cls := .type "set", dict := none, data := .set #[] 0 (.fresh 0 0 (!w.params.followText "set-order")) }
theorem call_set_listI {l : Addr} {items : Array Value} (ns : List Int) {Q : Value → Shared → Prop} (hh : A.handled = none) (hl : s.heap.IsList l items) (hit : IntsAre items.toList ns) (hb : ns.length + 1 < scanBound)
    (h : ∀ (h' : Heap) (tk c : Nat), SetR w h' s.heap.objs.size (fun j => decide (j ∈ ns)) c → c ≤ ns.length → (∀ b o, s.heap.get? b = some o → h'.get? b = some o) → Q (.ref s.heap.objs.size) { s with heap := h', toks := tk }) :
    wpAny (model P w) A (call (.type "set") [.ref l]) Q E s := by
  have hisz : items.size = ns.length := by
    have q := IntsAre.length hit
    rw [Array.length_toList] at q
    exact q
  have hmro := F.called_set.mro
  obtain ⟨c, tl, hmro⟩ := hmro
  have hmade := F.called_set.made
  have hsub := F.called_set.sub
  refine wpAny_call (codeAny_of_tree ?_)
  show wpAny _ _ (callAny (.type "set") _) _ _ _
  refine wpAny_pure ⟨Code.quiet_builtin _ (by decide +kernel), codeAny_builtin F.entry_type_call ?_⟩
  rw [Around.under_plain (weight_type_call_type "set" [.ref l] []) rfl]
  have h1 := F.called_set.notType
  have h2 := F.called_set.canCreate
  have hct := F.typeCall_set_1 (.ref l)
  repeat (any_goals (first | assumption | wp_step))
  refine codeAny_mono (code_set_led1 (.ref l) (E := E) (Q₁ := fun obj s₁ => obj = .ref s.heap.objs.size ∧ s₁ = { s with heap := s.heap.push (nwSet w) }) ⟨rfl, rfl⟩) fun r s₁ hr => ?_
  match r, hr with
  | .error e, hr => exact hr
  | .ok (.ret obj), hr =>
    obtain ⟨rfl, rfl⟩ := hr
    have hS : (s.heap.push (nwSet w)).get? s.heap.objs.size = some (nwSet w) := Heap.get?_push_size _ rfl
    have hT : Shared.TypeIs { s with heap := s.heap.push (nwSet w) } (.ref s.heap.objs.size) "set" := ⟨_, hS, rfl⟩
    have hli := F.called_set.init.lookup
    have hbi := F.called_set.init.bind (.ref s.heap.objs.size)
    repeat (any_goals (first | assumption | wp_step))
    refine codeAny_mono (codeAny_call_builtin (R := wants (fun r s₂ => r = .none ∧ ∃ h' tk c, s₂ = { s with heap := h', toks := tk } ∧ SetR w h' s.heap.objs.size (fun j => decide (j ∈ ns)) c ∧ c ≤ ns.length ∧
        (∀ b o, s.heap.get? b = some o → h'.get? b = some o)) E) F.called_set.init.plain F.entry_set_init (check_set_init_1 hT ?_)) fun r₂ s₂ hr₂ => ?_
    · obtain ⟨⟨ocls, odict, odata, oslots⟩, hol, hcl, nl, hdl⟩ := hl
      simp only at hcl hdl
      subst hcl; subst hdl
      have hlS : l < s.heap.objs.size := Heap.lt_size hol
      have hol' : (s.heap.push (nwSet w)).get? l = some { cls := .type "list", dict := odict, data := .seq items nl, slots := oslots } := Heap.get?_push_of_some _ hol
      have hsls := F.sub_list_set
      have hslf := F.sub_list_frozenset
      have hne : (Value.type "list" == Value.type "dict") = false := by decide
      have hl1 : (s.heap.push (nwSet w)).IsList l items := ⟨_, hol', rfl, nl, rfl⟩
      unfold Builtin.«set.__init__» noKeywords Builtin.Frozenset.updateFrom
      generalize hPI : pyIter = PI
      wp_walk
      subst hPI
      refine wpAny_pyIter_list hl1 (wpAny_bind (wpAny_runValue ?_))
      have hz1 : (s.heap.push (nwSet w)).objs.size = s.heap.objs.size + 1 := Heap.size_push ..
      have hneI : l ≠ (s.heap.push (nwSet w)).objs.size := by rw [hz1]; exact Nat.ne_of_lt (Nat.lt_succ_of_lt hlS)
      have hSf : s.heap.objs.size ∉ [(s.heap.push (nwSet w)).objs.size, l] := by
        rw [hz1]
        simp only [List.mem_cons, List.not_mem_nil, or_false, not_or]
        exact ⟨Nat.ne_of_lt (Nat.lt_succ_self _), Nat.ne_of_gt hlS⟩
      refine set_update_ints ((Walks.list (show A.in1.in1.in1.handled = none by simp [hh]) _ l hneI items).toS) s.heap.objs.size
        hSf ns hisz hb (fun i v hv => ?_) (items.size - 0) 0 _ (by omega) (Nat.zero_le _) ⟨⟨_, Heap.get?_push_size _ rfl, rfl, rfl⟩, (hl1.push _)⟩ ⟨0, Nat.le_refl 0, setR_new_at (Heap.get?_push_of_some _ hS)⟩ fun s' c' hm hc' hS' => ?_
      · have hi : i < ns.length := by rw [← hisz]; exact (Array.getElem?_eq_some_iff.mp hv).1
        obtain ⟨t, e⟩ := IntsAre.int_at hit i v (by rw [Array.getElem?_toList]; exact hv)
        refine ⟨ns[i], t, List.getElem?_eq_getElem hi, ?_⟩
        rw [e, List.getD_eq_getElem?_getD, List.getElem?_eq_getElem hi] <;> rfl
      · obtain ⟨h', g2, d', tk', os'⟩ := s'
        have eg : g2 = s.gens := hm.gens
        have ed : d' = s.drawn := hm.drawn
        have eo : os' = s.os := hm.os
        subst eg ed eo
        rw [hisz] at hc'
        refine wpAny_pure (wpAny_pure ⟨rfl, h', tk', c', rfl, hS', hc', fun b o e => ?_⟩)
        have hb0 : b < s.heap.objs.size := Heap.lt_size e
        refine hm.heap b o ?_ (Heap.get?_push_of_some _ (Heap.get?_push_of_some _ e))
        rw [hz1]
        simp only [List.mem_cons, List.not_mem_nil, or_false, not_or]
        exact ⟨Nat.ne_of_lt hb0, Nat.ne_of_lt (Nat.lt_succ_of_lt hb0)⟩
    · match r₂, hr₂ with
      | .error e, hr₂ => exact hr₂
      | .ok (.ret r), hr₂ =>
        obtain ⟨rfl, h', tk, c', rfl, hS', hc', hk'⟩ := hr₂
        repeat (any_goals (first | assumption | wp_step))
        exact h _ _ _ hS' hc' hk'
end
/-- laid into an ascending list, each once -/
def insU (x : Int) : List Int → List Int
  | [] => [x]
  | y :: ys => if x < y then x :: y :: ys else if x = y then y :: ys else y :: insU x ys
def ascU : List Int → List Int
  | [] => []
  | x :: xs => insU x (ascU xs)
theorem mem_insU {x z : Int} : ∀ {ys : List Int}, z ∈ insU x ys ↔ z = x ∨ z ∈ ys
  | [] => by simp [insU]
  | y :: ys => by
    unfold insU
    split
    · simp
    · split
      · rename_i h; subst h; simp
      · simp only [List.mem_cons, mem_insU (ys := ys)]
        constructor
        · rintro (h | h | h) <;> simp [h]
        · rintro (h | h | h) <;> simp [h]
theorem insU_asc {x : Int} : ∀ {ys : List Int}, ys.Pairwise (· < ·) → (insU x ys).Pairwise (· < ·)
  | [], _ => by simp [insU]
  | y :: ys, h => by
    obtain ⟨h1, h2⟩ := List.pairwise_cons.mp h
    unfold insU
    split
    · rename_i hx
      refine List.pairwise_cons.mpr ⟨fun z hz => ?_, h⟩
      rcases List.mem_cons.mp hz with rfl | hz
      · exact hx
      · exact Int.lt_trans hx (h1 z hz)
    · split
      · exact h
      · refine List.pairwise_cons.mpr ⟨fun z hz => ?_, insU_asc h2⟩
        rcases mem_insU.mp hz with rfl | hz
        · omega
        · exact h1 z hz
theorem mem_ascU {z : Int} : ∀ {xs : List Int}, z ∈ ascU xs ↔ z ∈ xs
  | [] => by simp [ascU]
  | x :: xs => by simp only [ascU, mem_insU, mem_ascU (xs := xs), List.mem_cons]
theorem ascU_asc : ∀ xs : List Int, (ascU xs).Pairwise (· < ·)
  | [] => .nil
  | x :: xs => insU_asc (ascU_asc xs)
theorem asc_uniq : ∀ {a b : List Int}, a.Pairwise (· < ·) → b.Pairwise (· < ·) → (∀ x, x ∈ a ↔ x ∈ b) → a = b := by
  intro a b ha hb h
  have na : a.Nodup := ha.imp fun h e => by omega
  have nb : b.Nodup := hb.imp fun h e => by omega
  have p := (List.perm_ext_iff_of_nodup na nb).mpr h
  exact p.eq_of_pairwise (fun x y _ _ h1 h2 => by omega) ha hb
def dSortSetI : List D → Option D
  | [d] => match listD d with
    | some xs => match intsD xs with
      | some ns => if ns.length < 64 then some (.lst ((ascU ns).map .int)) else none
      | none => none
    | none => none
  | _ => none
section
variable {c : Cn} {X : Cx} {W : L2.St → WE}
def rSetI (c : Cn) (w : World) : List V → Hp → VK → Prop := fun vs H Q => ∃ (l : Addr) (ns : List Int), vs = [V.ref l] ∧ Rd H l (.lst (ns.map V.int)) ∧ ns.length < 64 ∧ ∀ a n, H a = none → n ≤ ns.length → Q (.ref a) (upd H a (SetO w a (fun j => decide (j ∈ ns)) n))
theorem cr_setI (hm : X.calm = true) : CallR X (.type "set") (rSetI c X.w) := by
  intro pins s σ H xs us Q I r h
  obtain ⟨l, ns, rfl, hl, hf, q⟩ := h
  rw [Vals.ref1 r]
  obtain ⟨its, rv, pl, hz⟩ := I.list (.inl hl)
  have hn : H s.heap.objs.size = none := I.hok.fresh (Nat.le_refl _)
  refine call_set_listI ns (I.ok.hd hm) pl.isList (by simpa using rv.ints) (by unfold scanBound; omega) fun h' tk n R hc k => ?_
  exact ⟨.ref s.heap.objs.size, _, I.laid (t' := tk) k (Nat.le_refl _) (setO_new R), rfl, q _ _ hn hc⟩
def rSortI (w : World) : List V → Hp → VK → Prop := fun vs H Q => ∃ (a : Addr) (S : Int → Bool) (n : Nat), vs = [V.ref a] ∧ H a = some (SetO w a S n) ∧ n < 64 ∧
  ∀ (ns : List Int) (p : Addr) (o : Obj), ns.Pairwise (· < ·) → (∀ k : Int, k ∈ ns ↔ S k = true) → ns.length = n → H p = none → Q (.ref p) (upd H p (.frz o (.lst (ns.map V.int))))
theorem cr_sortI (hm : X.calm = true) : CallR X (.builtin "sorted") (rSortI X.w) := by
  intro pins s σ H vs us Q I r ⟨a, S, n, e, ha, h64, q⟩
  refine thn (cr_sortedSet hm pins s σ H vs us (fun x H' => ∃ (ns : List Int) (p : Addr), x = .ref p ∧ H' = upd H p (.lst (ns.map V.int)) ∧ ns.Pairwise (· < ·) ∧ (∀ k : Int, k ∈ ns ↔ S k = true) ∧ ns.length = n ∧ H p = none) I r ⟨a, S, n, e, ha, h64, fun ns p h1 h2 h3 h4 => ⟨ns, p, rfl, rfl, h1, h2, h3, h4⟩⟩) fun v s' ⟨x, H', I', rx, ns, p, ex, eH, h1, h2, h3, h4⟩ => ?_
  subst ex eH
  obtain ⟨o, I2⟩ := I'.freeze upd_same
  rw [upd_upd] at I2
  exact ⟨.ref p, _, I2, rx, q ns p o h1 h2 h3 h4⟩
theorem srtSetI_read {f : RX (List D)} {σ : L2.St} {H : Hp} {Q : VK} (h : tD c W (callF dSortSetI f) σ H Q) : tCB (rSortI X.w) (tCons (tCB (rSetI c X.w) (tA c W f)) tNil) σ H Q := by
  have h1 := tA.call h
  refine tA.mono h1 fun vs H1 ⟨G, ds, d, ra, e, q⟩ => ?_
  unfold dSortSetI at e
  split at e
  rotate_left
  · cases e
  rename_i d1
  obtain ⟨v, rfl, rv⟩ := ra.one
  split at e
  rotate_left
  · cases e
  rename_i xs hl
  split at e
  rotate_left
  · cases e
  rename_i ns hi
  split at e
  rotate_left
  · cases e
  rename_i hlt
  cases e
  obtain ⟨l, ws, rfl, hp, rl⟩ := rv.list hl
  have := rl.ints hi
  subst this
  refine ⟨l, ns, rfl, hp, hlt, fun a n na hn => ?_⟩
  refine ⟨a, _, n, rfl, upd_same, by omega, fun ms p o hs hm' hlen hp' => ?_⟩
  have em : ms = ascU ns := asc_uniq hs (ascU_asc ns) fun x => by rw [hm', mem_ascU]; simp
  subst em
  have x1 : ExtN H1 (upd H1 a (SetO X.w a (fun j => decide (j ∈ ns)) n)) := ExtN.upd na
  exact q _ _ (x1.trans (ExtN.upd hp')) (Rel.newLst (G := G) hp' (relL_ints _))
theorem pe_sortSetI (hm : X.calm = true) {e : Expr} {f : RX (List D)} {p1 p2 p3 p4 : Pos} (g1 : Gl X "sorted") (m1 : X.mg "sorted" = none) (g2 : Gl X "set") (m2 : X.mg "set" = none) (ha : PA X [e] (tA c W f)) (hs : starEach [e] X.env = [(false, eval e X.env)]) :
    PE X (.Call (.Name "sorted" p1) [.Call (.Name "set" p2) [e] [] p3] [] p4) (tD c W (callF dSortSetI f)) := by
  refine (pe_callB (cr_sortI hm) g1 m1 rfl (pa_cons (pe_callTy (cr_setI (c := c) hm) g2 m2 rfl ha (by decide) (by decide) hs rfl) pa_nil rfl) (by decide) (by decide) rfl rfl).imp fun σ H Q h => ?_
  exact srtSetI_read h
end
end Pv
set_option maxRecDepth 100000
set_option maxHeartbeats 1000000
/-! PvHd: dicts by plain data -/
namespace Pv
open PySem PySem.Spec PyProof.Rows L2

def dctD : D → Option (Bool × List D × List D)
  | .dct t ks vs => some (t, ks, vs)
  | .wkd t ks vs => some (t, ks, vs)
  | _ => none
def eqK (t : Bool) (x y : D) : Bool := match t with
  | false => decide (keyD x = keyD y)
  | true => decide (tkeyD x = tkeyD y)
def okK (t : Bool) (x : D) : Bool := match t with
  | false => (keyD x).isSome
  | true => (tkeyD x).isSome
def memK (t : Bool) (x : D) (ks : List D) : Bool := ks.any fun k => eqK t x k
def putL (t : Bool) (ks vs : List D) (x v : D) : List D × List D := if memK t x ks then (ks, (ks.zip vs).map fun p => if eqK t x p.1 then v else p.2) else (ks ++ [x], vs ++ [v])
theorem Rel.dict {c : Cn} {G : List Addr} {H : Hp} {d : D} {t : Bool} {ks vs : List D} {v : V} (e : dctD d = some (t, ks, vs)) (r : Rel c G H d v) : ∃ a u ws, v = .ref a ∧ Rd H a u ∧ DcK c.st t ks ws u ∧ RelL c G H vs ws := by
  cases d <;> simp only [dctD, reduceCtorEq, Option.some.injEq, Prod.mk.injEq] at e
  · obtain ⟨rfl, rfl, rfl⟩ := e
    simp only [Rel] at r
    obtain ⟨a, o, u, ws, e, h1, h2, h3⟩ := r
    exact ⟨a, u, ws, e, .inr ⟨o, h1⟩, h2, h3⟩
  · obtain ⟨rfl, rfl, rfl⟩ := e
    simp only [Rel] at r
    obtain ⟨a, u, ws, e, h1, _, h2, h3⟩ := r
    exact ⟨a, u, ws, e, .inl h1, h2, h3⟩
theorem keyD_rel {c : Cn} {G : List Addr} {H : Hp} {x : D} {k : Key} {v : V} (e : keyD x = some k) (r : Rel c G H x v) : v = kV k := by
  cases x <;> simp only [keyD, reduceCtorEq, Option.some.injEq] at e
  · subst e; simp only [Rel] at r; exact r
  · subst e; simp only [Rel] at r; exact r
theorem keysD_rel {c : Cn} {G : List Addr} {H : Hp} : ∀ {xs : List D} {k : List Key} {vs : List V}, xs.mapM keyD = some k → RelL c G H xs vs → vs = k.map kV
  | [], k, vs, e, r => by
    simp only [List.mapM_nil, Option.pure_def, Option.some.injEq] at e
    subst e
    simpa only [RelL, List.map_nil] using r
  | x :: xs, k, vs, e, r => by
    rw [List.mapM_cons] at e
    cases e1 : keyD x with
    | none => rw [e1] at e; cases e
    | some k1 =>
      rw [e1] at e
      cases e2 : xs.mapM keyD with
      | none => rw [e2] at e; cases e
      | some k2 =>
        rw [e2] at e
        cases e
        simp only [RelL] at r
        obtain ⟨v, r', rfl, _, r1, r2⟩ := r
        rw [keyD_rel e1 r1, keysD_rel e2 r2]; rfl
theorem tkeyD_rel {c : Cn} {G : List Addr} {H : Hp} {x : D} {k : List Key} {v : V} (st : c.st = true) (e : tkeyD x = some k) (r : Rel c G H x v) : ∃ b, v = .ref b ∧ H b = some (.tup (k.map kV)) := by
  cases x <;> simp only [tkeyD, reduceCtorEq] at e
  obtain ⟨a, vs, rfl, h1, h2⟩ := Rel.tupK r
  rw [keysD_rel e h2] at h1
  exact ⟨a, rfl, h1.2 st⟩
section
variable {κ : Type} [DecidableEq κ]
theorem mapM_any {f : D → Option κ} {x : D} {k : κ} (e : f x = some k) : ∀ {ks : List D} {kk : List κ} (ws : List V), ks.mapM f = some kk → kk.length = ws.length → ((kk.zip ws).any fun kv => decide (kv.1 = k)) = ks.any fun y => decide (f x = f y)
  | [], kk, ws, h, _ => by
    simp only [List.mapM_nil, Option.pure_def, Option.some.injEq] at h
    subst h; rfl
  | y :: ks, kk, ws, h, hl => by
    rw [List.mapM_cons] at h
    cases e1 : f y with
    | none => rw [e1] at h; cases h
    | some k1 =>
      rw [e1] at h
      cases e2 : ks.mapM f with
      | none => rw [e2] at h; cases h
      | some k2 =>
        rw [e2] at h
        cases h
        cases ws with
        | nil => simp at hl
        | cons w ws =>
          have ih := mapM_any e ws e2 (by simpa using hl)
          rw [List.zip_cons_cons, List.any_cons, List.any_cons, ih, e, e1]
          congr 1
          simp only [Option.some.injEq]
          exact decide_eq_decide.mpr eq_comm
theorem mapM_map {f : D → Option κ} {x : D} {k : κ} (e : f x = some k) (v : V) : ∀ {ks : List D} {kk : List κ} (ws : List V), ks.mapM f = some kk → kk.length = ws.length → (kk.zip ws).map (fun kv => if kv.1 = k then (kv.1, v) else kv) = kk.zip ((ks.zip ws).map fun p => if decide (f x = f p.1) then v else p.2)
  | [], kk, ws, h, _ => by
    simp only [List.mapM_nil, Option.pure_def, Option.some.injEq] at h
    subst h; rfl
  | y :: ks, kk, ws, h, hl => by
    rw [List.mapM_cons] at h
    cases e1 : f y with
    | none => rw [e1] at h; cases h
    | some k1 =>
      rw [e1] at h
      cases e2 : ks.mapM f with
      | none => rw [e2] at h; cases h
      | some k2 =>
        rw [e2] at h
        cases h
        cases ws with
        | nil => simp at hl
        | cons w ws =>
          have ih := mapM_map e v ws e2 (by simpa using hl)
          simp only [List.zip_cons_cons, List.map_cons, ih, e, e1]
          congr 1
          by_cases hk : k1 = k
          · subst hk; simp
          · have : ¬ (k = k1) := fun z => hk z.symm
            simp [hk, this]
theorem mapM_snoc {f : D → Option κ} {x : D} {k : κ} (e : f x = some k) : ∀ {ks : List D} {kk : List κ}, ks.mapM f = some kk → (ks ++ [x]).mapM f = some (kk ++ [k])
  | [], kk, h => by
    simp only [List.mapM_nil, Option.pure_def, Option.some.injEq] at h
    subst h
    simp [List.mapM_cons, e]
  | y :: ks, kk, h => by
    rw [List.mapM_cons] at h
    cases e1 : f y with
    | none => rw [e1] at h; cases h
    | some k1 =>
      rw [e1] at h
      cases e2 : ks.mapM f with
      | none => rw [e2] at h; cases h
      | some k2 =>
        rw [e2] at h
        cases h
        rw [List.cons_append, List.mapM_cons, e1, mapM_snoc e e2]; rfl
theorem mapM_len {f : D → Option κ} : ∀ {ks : List D} {kk : List κ}, ks.mapM f = some kk → kk.length = ks.length
  | [], kk, h => by
    simp only [List.mapM_nil, Option.pure_def, Option.some.injEq] at h
    subst h; rfl
  | y :: ks, kk, h => by
    rw [List.mapM_cons] at h
    cases e1 : f y with
    | none => rw [e1] at h; cases h
    | some k1 =>
      rw [e1] at h
      cases e2 : ks.mapM f with
      | none => rw [e2] at h; cases h
      | some k2 =>
        rw [e2] at h
        cases h
        simp [mapM_len e2]
end
/-- what is looked up -/
theorem dct_get {c : Cn} {G : List Addr} {H : Hp} {t : Bool} {ks : List D} {ws : List V} {u : HO} {a : Addr} {x : D} {y : V} (h : Rd H a u) (dk : DcK c.st t ks ws u) (ok : okK t x = true) (r : Rel c G H x y) : ∃ o, DGet H a y o ∧ o.isSome = memK t x ks := by
  cases t with
  | false =>
    obtain ⟨kk, h1, h2, rfl⟩ := dk
    obtain ⟨k, hk⟩ := Option.isSome_iff_exists.mp (show (keyD x).isSome = true from ok)
    refine ⟨_, .inl ⟨_, k, h, keyD_rel hk r, rfl⟩, ?_⟩
    rw [← valV_any, mapM_any hk ws h1 h2]; rfl
  | true =>
    obtain ⟨kk, h1, h2, rfl, st⟩ := dk
    obtain ⟨k, hk⟩ := Option.isSome_iff_exists.mp (show (tkeyD x).isSome = true from ok)
    obtain ⟨b, e1, e2⟩ := tkeyD_rel st hk r
    refine ⟨_, .inr ⟨_, k, b, h, e1, e2, rfl⟩, ?_⟩
    rw [← valV_any, mapM_any hk ws h1 h2]; rfl
theorem relL_zip {c : Cn} {G : List Addr} {H : Hp} (f : D → Bool) {v : D} {w : V} (st : v.strong = true) (rv : Rel c G H v w) : ∀ {ks vs : List D} {ws : List V}, ks.length = vs.length → RelL c G H vs ws → RelL c G H ((ks.zip vs).map fun p => if f p.1 then v else p.2) ((ks.zip ws).map fun p => if f p.1 then w else p.2)
  | [], vs, ws, hl, r => by simp [RelL]
  | k :: ks, [], ws, hl, r => by simp at hl
  | k :: ks, d :: vs, ws, hl, r => by
    simp only [RelL] at r
    obtain ⟨u, us, rfl, s1, r1, r2⟩ := r
    have ih := relL_zip f st rv (ks := ks) (by simpa using hl) r2
    simp only [List.zip_cons_cons, List.map_cons, RelL]
    refine ⟨_, _, rfl, ?_, ?_, ih⟩
    · cases f k <;> simp [s1, st]
    · cases f k <;> simp [r1, rv]
theorem dct_put {c : Cn} {G : List Addr} {H : Hp} {t : Bool} {ks vs : List D} {ws : List V} {u : HO} {a : Addr} {x v : D} {y w : V} (h : H a = some u) (dk : DcK c.st t ks ws u) (rl : RelL c G H vs ws) (ok : okK t x = true) (r : Rel c G H x y) (st : v.strong = true) (rv : Rel c G H v w) (hz : ks.length < cap) :
    ∃ u' ws', DPut H a y w (upd H a u') ∧ DcK c.st t (putL t ks vs x v).1 ws' u' ∧ RelL c G H (putL t ks vs x v).2 ws' := by
  cases t with
  | false =>
    obtain ⟨kk, h1, h2, rfl⟩ := dk
    obtain ⟨k, hk⟩ := Option.isSome_iff_exists.mp (show (keyD x).isSome = true from ok)
    have hl := mapM_len h1
    have hc : (kk.zip ws).length < sizeLine := by rw [List.length_zip, cap_eq]; omega
    have hm : ((kk.zip ws).any fun kv => decide (kv.1 = k)) = memK false x ks := by rw [mapM_any hk ws h1 h2]; rfl
    refine ⟨_, (if memK false x ks then (ks.zip ws).map (fun p => if eqK false x p.1 then w else p.2) else ws ++ [w]), .inl ⟨_, k, h, keyD_rel hk r, hc, rfl⟩, ?_, ?_⟩
    · unfold putL
      by_cases hmem : memK false x ks = true
      · rw [if_pos hmem, if_pos hmem]
        refine ⟨kk, h1, by simp; omega, ?_⟩
        unfold putK
        rw [hm, if_pos hmem, mapM_map hk w ws h1 h2]; rfl
      · rw [if_neg hmem, if_neg hmem]
        refine ⟨kk ++ [k], mapM_snoc hk h1, by simp; omega, ?_⟩
        unfold putK
        rw [hm, if_neg hmem, List.zip_append h2]; rfl
    · unfold putL
      by_cases hmem : memK false x ks = true
      · rw [if_pos hmem, if_pos hmem]
        exact relL_zip _ st rv (by have := rl.length; omega) rl
      · rw [if_neg hmem, if_neg hmem]
        exact rl.append (by simp only [RelL]; exact ⟨w, [], rfl, st, rv, rfl⟩)
  | true =>
    obtain ⟨kk, h1, h2, rfl, sq⟩ := dk
    obtain ⟨k, hk⟩ := Option.isSome_iff_exists.mp (show (tkeyD x).isSome = true from ok)
    obtain ⟨b, e1, e2⟩ := tkeyD_rel sq hk r
    have hl := mapM_len h1
    have hc : (kk.zip ws).length < sizeLine := by rw [List.length_zip, cap_eq]; omega
    have hm : ((kk.zip ws).any fun kv => decide (kv.1 = k)) = memK true x ks := by rw [mapM_any hk ws h1 h2]; rfl
    refine ⟨_, (if memK true x ks then (ks.zip ws).map (fun p => if eqK true x p.1 then w else p.2) else ws ++ [w]), .inr ⟨_, k, b, h, e1, e2, hc, rfl⟩, ?_, ?_⟩
    · unfold putL
      by_cases hmem : memK true x ks = true
      · rw [if_pos hmem, if_pos hmem]
        refine ⟨kk, h1, by simp; omega, ?_, sq⟩
        unfold putK
        rw [hm, if_pos hmem, mapM_map hk w ws h1 h2]; rfl
      · rw [if_neg hmem, if_neg hmem]
        refine ⟨kk ++ [k], mapM_snoc hk h1, by simp; omega, ?_, sq⟩
        unfold putK
        rw [hm, if_neg hmem, List.zip_append h2]; rfl
    · unfold putL
      by_cases hmem : memK true x ks = true
      · rw [if_pos hmem, if_pos hmem]
        exact relL_zip _ st rv (by have := rl.length; omega) rl
      · rw [if_neg hmem, if_neg hmem]
        exact rl.append (by simp only [RelL]; exact ⟨w, [], rfl, st, rv, rfl⟩)
/-! ### k in d -/
def dInK : D → D → Option D := fun x y => match dctD y with
  | some (t, ks, _) => if okK t x then some (.bl (memK t x ks)) else none
  | none => none
def dNinK : D → D → Option D := fun x y => match dctD y with
  | some (t, ks, _) => if okK t x then some (.bl (!memK t x ks)) else none
  | none => none
section
variable {X : Cx} {c : Cn}
theorem op_inK (hu : X.A.units + 65 < cLine) : OpR X (compareOp .In) (rD2 c dInK) := by
  intro pins s σ H x y v u Q I rx ry ⟨G, d1, d2, d, r1, r2, e, q⟩
  unfold dInK at e
  split at e
  · rename_i t ks vs hd
    split at e
    · rename_i ok
      cases e
      obtain ⟨a, o, ws, rfl, h1, h2, h3⟩ := Rel.dict hd r2
      cases ry
      obtain ⟨o, g, eo⟩ := dct_get h1 h2 ok r1
      refine d_in (by omega) I g rx fun s' I' => ⟨.bl o.isSome, H, I', rfl, q _ _ ExtN.refl ?_⟩
      rw [eo]
      simp only [Rel]
    · cases e
  · cases e
theorem op_ninK (hu : X.A.units + 65 < cLine) : OpR X (compareOp .NotIn) (rD2 c dNinK) := by
  intro pins s σ H x y v u Q I rx ry ⟨G, d1, d2, d, r1, r2, e, q⟩
  unfold dNinK at e
  split at e
  · rename_i t ks vs hd
    split at e
    · rename_i ok
      cases e
      obtain ⟨a, o, ws, rfl, h1, h2, h3⟩ := Rel.dict hd r2
      cases ry
      obtain ⟨o, g, eo⟩ := dct_get h1 h2 ok r1
      refine d_notIn (by omega) I g rx fun s' I' => ⟨.bl (!o.isSome), H, I', rfl, q _ _ ExtN.refl ?_⟩
      rw [eo]
      simp only [Rel]
    · cases e
  · cases e
/-! ### in: of a dict or of a sequence -/
def dInX : D → D → Option D := fun x y => match dctD y with
  | some _ => dInK x y
  | none => dIn x y
def dNinX : D → D → Option D := fun x y => match dctD y with
  | some _ => dNinK x y
  | none => dNin x y
theorem op_inX (hc : X.K = c.K) (hu : X.A.units + 65 < cLine) : OpR X (compareOp .In) (rD2 c dInX) := by
  intro pins s σ H x y v u Q I rx ry ⟨G, d1, d2, d, r1, r2, e, q⟩
  unfold dInX at e
  split at e
  · exact op_inK hu pins s σ H x y v u Q I rx ry ⟨G, d1, d2, d, r1, r2, e, q⟩
  · exact op_inDD hc hu pins s σ H x y v u Q I rx ry ⟨G, d1, d2, d, r1, r2, e, q⟩
theorem op_ninX (hc : X.K = c.K) (hu : X.A.units + 65 < cLine) : OpR X (compareOp .NotIn) (rD2 c dNinX) := by
  intro pins s σ H x y v u Q I rx ry ⟨G, d1, d2, d, r1, r2, e, q⟩
  unfold dNinX at e
  split at e
  · exact op_ninK hu pins s σ H x y v u Q I rx ry ⟨G, d1, d2, d, r1, r2, e, q⟩
  · exact op_ninDD hc hu pins s σ H x y v u Q I rx ry ⟨G, d1, d2, d, r1, r2, e, q⟩
/-! ### sorted(d), list(d) of a dict by ints -/
def insN (x : Int) : List Int → List Int
  | [] => [x]
  | y :: ys => if y < x then y :: insN x ys else x :: y :: ys
def srtN : List Int → List Int
  | [] => []
  | x :: xs => insN x (srtN xs)
theorem insN_perm (x : Int) : ∀ ys, (insN x ys).Perm (x :: ys)
  | [] => .refl _
  | y :: ys => by
    unfold insN
    split
    · exact ((insN_perm x ys).cons y).trans (.swap x y ys)
    · exact .refl _
theorem srtN_perm : ∀ ys, (srtN ys).Perm ys
  | [] => .refl _
  | y :: ys => (insN_perm y (srtN ys)).trans ((srtN_perm ys).cons y)
theorem insN_asc {x : Int} : ∀ {ys : List Int}, ys.Pairwise (· ≤ ·) → (insN x ys).Pairwise (· ≤ ·)
  | [], _ => by simp [insN]
  | y :: ys, h => by
    obtain ⟨h1, h2⟩ := List.pairwise_cons.mp h
    unfold insN
    split
    · rename_i hx
      refine List.pairwise_cons.mpr ⟨fun z hz => ?_, insN_asc h2⟩
      rcases List.mem_cons.mp ((insN_perm x ys).mem_iff.mp hz) with e | hz
      · omega
      · exact h1 z hz
    · rename_i hx
      refine List.pairwise_cons.mpr ⟨fun z hz => ?_, h⟩
      rcases List.mem_cons.mp hz with e | hz
      · omega
      · have := h1 z hz; omega
theorem srtN_asc : ∀ ys, (srtN ys).Pairwise (· ≤ ·)
  | [] => .nil
  | y :: ys => insN_asc (srtN_asc ys)
theorem srtN_uniq {a b : List Int} (h : b.Perm a) (hb : b.Pairwise (· ≤ ·)) : b = srtN a :=
  (h.trans (srtN_perm a).symm).eq_of_pairwise (fun x y _ _ h1 h2 => Int.le_antisymm h1 h2) hb (srtN_asc a)
def dSortK : List D → Option D
  | [d] => match dctD d with
    | some (false, ks, _) => match intsD ks with
      | some ns => if ns.length < 64 then some (.lst ((srtN ns).map .int)) else none
      | none => none
    | _ => none
  | _ => none
theorem ints_keys : ∀ {ks : List D} {ns : List Int}, intsD ks = some ns → ks.mapM keyD = some (ns.map Sum.inl)
  | [], ns, h => by
    simp only [intsD, Option.some.injEq] at h
    subst h; rfl
  | k :: ks, ns, h => by
    cases k <;> simp only [intsD, reduceCtorEq] at h
    rename_i i
    cases e : intsD ks with
    | none => rw [e] at h; cases h
    | some m =>
      rw [e] at h
      cases h
      rw [List.mapM_cons, ints_keys e]; rfl
def rSortK (c : Cn) : List V → Hp → VK → Prop := rC c dSortK
theorem call_sortK (hm : X.calm = true) : CallR X (.builtin "sorted") (rC c dSortK) := by
  intro pins s σ H vs us Q I r ⟨G, ds, d, ra, e, q⟩
  unfold dSortK at e
  split at e
  rotate_left
  · cases e
  rename_i d1
  obtain ⟨v, rfl, rv⟩ := ra.one
  split at e
  rotate_left
  · cases e
  rename_i ks xs hd
  split at e
  rotate_left
  · cases e
  rename_i ns hi
  split at e
  rotate_left
  · cases e
  rename_i hlt
  cases e
  obtain ⟨a, u, ws, rfl, h1, ⟨kk, k1, k2, rfl⟩, h3⟩ := Rel.dict hd rv
  have k3 := ints_keys hi
  rw [k1] at k3
  cases k3
  refine thn (call_sortedDI hm pins s σ H [.ref a] us (fun x H' => ∃ (ys : List Int) (p : Addr), x = .ref p ∧ H' = upd H p (.lst (ys.map V.int)) ∧ ys.Perm ns ∧ ys.Pairwise (· ≤ ·) ∧ H p = none) I r ⟨a, _, ns, rfl, h1, ?_, hlt, fun ys p g1 g2 g3 => ⟨ys, p, rfl, rfl, g1, g2, g3⟩⟩) fun v s' ⟨x, H', I', rx, ys, p, ex, eH, g1, g2, g3⟩ => ?_
  · exact List.map_fst_zip (by omega)
  · subst ex eH
    obtain ⟨o, I2⟩ := I'.freeze upd_same
    rw [upd_upd] at I2
    have e2 := srtN_uniq g1 g2
    subst e2
    exact ⟨.ref p, _, I2, rx, q _ _ (ExtN.upd g3) (Rel.newLst (G := G) g3 (relL_ints _))⟩
/-- list(d), of a dict by ints -/
def dListK : List D → Option D
  | [d] => match dctD d with
    | some (false, ks, _) => match intsD ks with
      | some ns => some (.lst (ns.map .int))
      | none => none
    | _ => none
  | _ => none
theorem call_listK (hm : X.calm = true) : CallR X (.type "list") (rC c dListK) := by
  intro pins s σ H vs us Q I r ⟨G, ds, d, ra, e, q⟩
  unfold dListK at e
  split at e
  rotate_left
  · cases e
  rename_i d1
  obtain ⟨v, rfl, rv⟩ := ra.one
  split at e
  rotate_left
  · cases e
  rename_i ks xs hd
  split at e
  rotate_left
  · cases e
  rename_i ns hi
  cases e
  obtain ⟨a, u, ws, rfl, h1, ⟨kk, k1, k2, rfl⟩, h3⟩ := Rel.dict hd rv
  have k3 := ints_keys hi
  rw [k1] at k3
  cases k3
  refine thn (L2.call_listD hm pins s σ H [.ref a] us (fun x H' => ∃ (p : Addr), x = .ref p ∧ H' = upd H p (.lst ((((ns.map Sum.inl).zip ws)).map fun kv => kV kv.1)) ∧ H p = none) I r ⟨a, _, rfl, h1, fun p g => ⟨p, rfl, rfl, g⟩⟩) fun v s' ⟨x, H', I', rx, p, ex, eH, g⟩ => ?_
  subst ex eH
  obtain ⟨o, I2⟩ := I'.freeze upd_same
  rw [upd_upd] at I2
  have e2 : ((ns.map Sum.inl).zip ws).map (fun kv => kV kv.1) = ns.map V.int := by
    have : ((ns.map Sum.inl).zip ws).map (fun kv : Key × V => kV kv.1) = (((ns.map Sum.inl).zip ws).map (·.1)).map kV := by rw [List.map_map]; rfl
    rw [this, List.map_fst_zip (by omega), List.map_map]; rfl
  rw [e2] at I2
  exact ⟨.ref p, _, I2, rx, q _ _ (ExtN.upd g) (Rel.newLst (G := G) g (relL_ints _))⟩
/-! ### statements: d = {}, d[k] = v -/
variable {W : L2.St → WE} {G0 : List Addr} {H0 : Hp}
/-- the thing at an own slot's address becomes another -/
theorem SR.chgX {G : List Addr} {H : Hp} {σ : L2.St} {ρ : List Sl} (s : SR c G H σ ρ) {i : Nat} {a : Addr} {l0 l1 : Sl} {u u' : HO} (e : ρ[i]? = some l0) (o0 : l0.isOwn = true) (ea : σ[i]? = some (some (.ref a))) (h : H a = some u) (hm : ¬ Fixed u) (n : a ∉ G) (new : SlotR c G (L2.upd H a u') σ i l1) :
    SR c G (L2.upd H a u') σ (ρ.set i l1) := by
  have hi : i < ρ.length := (List.getElem?_eq_some_iff.mp e).1
  have xs2 : ExtS G H G (L2.upd H a u') := ⟨⟨[], by simp⟩, fun b w hu f => by
    have : b ≠ a := fun z => by subst z; rw [h] at hu; cases hu; exact hm f
    rw [upd_ne this]; exact hu⟩
  refine ⟨by rw [List.length_set, s.len], fun j l hl => ?_, fun j k l l' b h1 o1 h2 o2 e1 e2 => ?_⟩
  · by_cases hj : i = j
    · subst hj
      rw [List.getElem?_set_self hi] at hl
      cases hl
      exact new
    · rw [List.getElem?_set_ne hj] at hl
      have q := s.sl j l hl
      cases l with
      | no => trivial
      | v d' => obtain ⟨st, b, e, z⟩ := q; exact ⟨st, b, e, Rel.extS xs2 st z⟩
      | own zs =>
        obtain ⟨b, us, e1, h1, h2, h3⟩ := q
        have nb : b ≠ a := fun z => by
          subst z
          exact hj (s.sep i j _ _ b e o0 hl rfl ea e1)
        exact ⟨b, us, e1, by rw [upd_ne nb]; exact h1, h2, RelL.extS xs2 h3⟩
      | ownd t ks vs =>
        obtain ⟨b, u2, us, e1, h1, h2, h3, h4⟩ := q
        have nb : b ≠ a := fun z => by
          subst z
          exact hj (s.sep i j _ _ b e o0 hl rfl ea e1)
        exact ⟨b, u2, us, e1, by rw [upd_ne nb]; exact h1, h2, h3, RelL.extS xs2 h4⟩
  · have f : ∀ {k : Nat} {l : Sl}, (ρ.set i l1)[k]? = some l → l.isOwn = true → ∃ l', ρ[k]? = some l' ∧ l'.isOwn = true := fun {k l} hk ho => by
      by_cases hj : i = k
      · subst hj; exact ⟨_, e, o0⟩
      · rw [List.getElem?_set_ne hj] at hk; exact ⟨l, hk, ho⟩
    obtain ⟨m, h1, o1⟩ := f h1 o1
    obtain ⟨m', h2, o2⟩ := f h2 o2
    exact s.sep j k m m' b h1 o1 h2 o2 e1 e2
theorem St4.chgX {G : List Addr} {H : Hp} {σ : L2.St} {ρ : List Sl} {δ : List Bx} (s : St4 c G0 H0 G H σ ρ δ) {i : Nat} {a : Addr} {l0 l1 : Sl} {u u' : HO} (e : ρ[i]? = some l0) (o0 : l0.isOwn = true) (ea : σ[i]? = some (some (.ref a))) (h : H a = some u) (hm : ¬ Fixed u) (n : a ∉ G) (new : SlotR c G (L2.upd H a u') σ i l1) :
    St4 c G0 H0 G (upd H a u') σ (ρ.set i l1) δ ∧ ExtS G H G (upd H a u') := by
  refine ⟨⟨s.sr.chgX e o0 ea h hm n new, s.dr.push n fun b w hu f z => by subst z; rw [h] at hu; cases hu; exact hm f, s.x.push (s.on i _ a e o0 ea), fun j l b h1 o1 h2 => ?_⟩, ⟨⟨[], by simp⟩, fun b w hu f => by
    have : b ≠ a := fun z => by subst z; rw [h] at hu; cases hu; exact hm f
    rw [upd_ne this]; exact hu⟩⟩
  by_cases hj : i = j
  · subst hj; exact s.on i _ b e o0 h2
  · rw [List.getElem?_set_ne hj] at h1
    exact s.on j l b h1 o1 h2
def newdS (i : Nat) (t : Bool) : RS := fun ρ δ => if i < ρ.length then .ok (.nx, ρ.set i (.ownd t [] [])) δ else .no
def tDNew (t : Bool) : TE := match t with
  | false => tDNewK
  | true => tDNewT
theorem SR.ownN {G : List Addr} {H : Hp} {σ : L2.St} {ρ : List Sl} (s : SR c G H σ ρ) {i : Nat} {p : Addr} {l1 : Sl} (hi : i < ρ.length) (no : NoOwn σ ρ p) (new : SlotR c G H (σ.set i (some (.ref p))) i l1) :
    SR c G H (σ.set i (some (.ref p))) (ρ.set i l1) := by
  refine ⟨by rw [List.length_set, List.length_set, s.len], fun j l hl => ?_, fun j k l l' a h1 o1 h2 o2 e1 e2 => ?_⟩
  · by_cases hj : i = j
    · subst hj
      rw [List.getElem?_set_self hi] at hl
      cases hl
      exact new
    · rw [List.getElem?_set_ne hj] at hl
      have q := s.sl j l hl
      cases l with
      | no => trivial
      | v d' => obtain ⟨a, b, e, z⟩ := q; exact ⟨a, b, by rw [List.getElem?_set_ne hj]; exact e, z⟩
      | own xs => obtain ⟨a, b, e, z⟩ := q; exact ⟨a, b, by rw [List.getElem?_set_ne hj]; exact e, z⟩
      | ownd t ks vs => obtain ⟨a, u, ws, e, z⟩ := q; exact ⟨a, u, ws, by rw [List.getElem?_set_ne hj]; exact e, z⟩
  · by_cases n1 : i = j
    · subst n1
      rw [List.getElem?_set_self (by rw [s.len]; exact hi)] at e1
      cases e1
      by_cases n2 : i = k
      · exact n2
      · rw [List.getElem?_set_ne n2] at h2 e2
        exact absurd e2 (no k l' h2 o2)
    · rw [List.getElem?_set_ne n1] at h1 e1
      by_cases n2 : i = k
      · subst n2
        rw [List.getElem?_set_self (by rw [s.len]; exact hi)] at e2
        cases e2
        exact absurd e1 (no j l h1 o1)
      · rw [List.getElem?_set_ne n2] at h2 e2
        exact s.sep j k l l' a h1 o1 h2 o2 e1 e2
theorem tS.newd {i : Nat} {t : Bool} {D' : Ends} {σ : L2.St} {H : Hp} (hst : t = true → c.st = true) (h : tS c W G0 H0 (newdS i t) D' σ H) : tAsg (tDNew t) (gName i) D' σ H := by
  obtain ⟨ρ, δ, G, s, p⟩ := h
  unfold newdS at p
  by_cases hi : i < ρ.length
  · rw [if_pos hi] at p
    have main : ∀ q u, H q = none → DcK c.st t [] [] u → gName i (.ref q) σ (upd H q u) (D'.nx) := fun q u np hk => by
      have xn := ExtN.upd (o := u) np
      have x := Ext.ofN (G := G) xn
      have s1 := s.ext x (s.dr.new xn)
      refine p (σ.set i (some (.ref q))) G _ ⟨s1.sr.ownN hi ?_ ?_, s1.dr, s1.x, s1.on.set s.sr.len (s.fresh np)⟩ x.toS
      · exact NoOwn.new s.sr np
      · exact ⟨q, u, [], by rw [List.getElem?_set_self (by rw [s.sr.len]; exact hi)], upd_same, s.dr.newAt np, hk, by simp [RelL]⟩
    cases t with
    | false => exact fun q np => main q _ np ⟨[], by simp, rfl, rfl⟩
    | true => exact fun q np => main q _ np ⟨[], by simp, rfl, rfl, hst rfl⟩
  · rw [if_neg hi] at p; exact p.elim
/-- x[k] = v, x an own dict -/
def dctAt (ρ : List Sl) (i : Nat) : Option (Bool × List D × List D) := match ρ[i]? with
  | some (.ownd t ks vs) => some (t, ks, vs)
  | _ => none
def putS (i : Nat) (fk fv : RX D) : RS := fun ρ δ => match dctAt ρ i with
  | none => .no
  | some (t, ks, vs) => (fv ρ δ).bind fun v δ1 => if v.strong then (fk ρ δ1).bind fun k δ2 => if okK t k && decide (ks.length < cap) then .ok (.nx, ρ.set i (.ownd t (putL t ks vs k v).1 (putL t ks vs k v).2)) δ2 else .no else .no
theorem tS.put {i : Nat} {fk fv : RX D} {D' : Ends} {σ : L2.St} {H : Hp} (h : tS c W G0 H0 (putS i fk fv) D' σ H) : sDPut (tVar i) (tD c W fk) (tD c W fv) D' σ H := by
  obtain ⟨ρ, δ, G, s, p⟩ := h
  unfold putS at p
  split at p
  · exact p.elim
  · rename_i t ks vs ho
    unfold dctAt at ho
    split at ho
    rotate_left
    · cases ho
    rename_i t' ks' vs' eo
    cases ho
    obtain ⟨a, u, ws, ea, hA, nG, dk, ra⟩ := s.sr.sl i _ eo
    refine ⟨ρ, δ, G, s.sr, s.dr, ?_⟩
    refine s.post (k := fun v ρ δ1 => if v.strong then (fk ρ δ1).bind fun k δ2 => if okK t k && decide (ks.length < cap) then .ok (.nx, ρ.set i (.ownd t (putL t ks vs k v).1 (putL t ks vs k v).2)) δ2 else .no else .no) p fun v δ1 G1 H1 x s1 p1 w rw' => ?_
    by_cases st : v.strong = true
    · rw [if_pos st] at p1
      have hA1 := x.keep _ _ hA nG
      have nG1 := x.notMem hA nG
      refine ⟨.ref a, ea, ρ, δ1, G1, s1.sr, s1.dr, ?_⟩
      refine s1.post (k := fun k ρ δ2 => if okK t k && decide (ks.length < cap) then .ok (.nx, ρ.set i (.ownd t (putL t ks vs k v).1 (putL t ks vs k v).2)) δ2 else .no) p1 fun k δ2 G2 H2 x2 s2 p2 y ry => ?_
      split at p2
      · rename_i hh
        simp only [Bool.and_eq_true, decide_eq_true_eq] at hh
        have hA2 := x2.keep _ _ hA1 nG1
        have nG2 := x2.notMem hA1 nG1
        have rv2 : Rel c G2 H2 v w := Rel.ext x2 rw'
        have ra2 := RelL.extS x2.toS (RelL.extS x.toS ra)
        obtain ⟨u', ws', g, dk', rl'⟩ := dct_put hA2 dk ra2 hh.1 ry st rv2 hh.2
        have hi : i < ρ.length := (List.getElem?_eq_some_iff.mp eo).1
        have xs2 : ExtS G2 H2 G2 (upd H2 a u') := ⟨⟨[], by simp⟩, fun b o hu f => by
          have : b ≠ a := fun z => by subst z; rw [hA2] at hu; cases hu; exact dk.mut f
          rw [upd_ne this]; exact hu⟩
        obtain ⟨s3, xs3⟩ := s2.chgX (l1 := .ownd t (putL t ks vs k v).1 (putL t ks vs k v).2) eo rfl ea hA2 dk.mut nG2 ⟨a, u', ws', ea, upd_same, nG2, dk', RelL.extS xs2 rl'⟩
        exact ⟨a, _, rfl, g, p2 σ G2 _ s3 xs3⟩
      · exact p2.elim
    · rw [if_neg st] at p1; exact p1.elim
end
end Pv
set_option maxRecDepth 100000
set_option maxHeartbeats 1000000
/-! PvFd: dict comprehensions by ints and texts -/
namespace Pv
open PySem PySem.Spec PyProof.Rows L2

def dstep (p : Pat) (vs : List Nat) (ft : RX Bool) (fk fe : RX D) (ρ : List Sl) (d : D) (δ : List Bx) : Res (Option (D × D)) :=
  match bindP p d (wipeR ρ vs) with
  | none => .no
  | some ρ2 => ((ft ρ2 δ).bind fun b δ1 => if b then (fk ρ2 δ1).bind fun k δ2 => (fe ρ2 δ2).bind fun v δ3 => if v.strong && okK false k then .ok (some (k, v)) δ3 else .no else .ok none δ1).noer
def putO (ks vs : List D) (o : Option (D × D)) : List D × List D := match o with
  | none => (ks, vs)
  | some (k, v) => putL false ks vs k v
def dloop (st : D → List Bx → Res (Option (D × D))) : List D → List D → List D → List Bx → Res (List D × List D)
  | [], ks, vs, δ => .ok (ks, vs) δ
  | d :: ds, ks, vs, δ => (st d δ).bind fun o δ1 => dloop st ds (putO ks vs o).1 (putO ks vs o).2 δ1
def dcF (fi : RX (List D)) (p : Pat) (vs : List Nat) (ft : RX Bool) (fk fe : RX D) : RX D := fun ρ δ =>
  (fi ρ δ).bind fun ds δ1 => (dloop (dstep p vs ft fk fe ρ) ds [] [] δ1).bind fun r δ2 => .ok (.wkd false r.1 r.2) δ2
section
variable {X : Cx} {c : Cn} {W : L2.St → WE}
theorem dct_put0 {G : List Addr} {H : Hp} {ks vs : List D} {ws : List V} {u : HO} {a : Addr} {x v : D} {y w : V} (h : H a = some u) (dk : DcK c.st false ks ws u) (rl : RelL c G H vs ws) (ok : okK false x = true) (r : Rel c G H x y) (st : v.strong = true) (rv : Rel c G H v w) (hz : ks.length < cap) :
    ∃ kvs k ws', u = .dK kvs ∧ y = kV k ∧ kvs.length < sizeLine ∧ DcK c.st false (putL false ks vs x v).1 ws' (.dK (putK kvs k w)) ∧ RelL c G H (putL false ks vs x v).2 ws' := by
  obtain ⟨u', ws', g, dk', rl'⟩ := dct_put h dk rl ok r st rv hz
  obtain ⟨kk, _, _, rfl⟩ := dk
  rcases g with ⟨kvs, k, e1, e2, e3, e4⟩ | ⟨kvs, k, b, e1, _⟩
  · rw [h] at e1
    cases e1
    have e5 := congrFun e4 a
    rw [upd_same, upd_same] at e5
    cases e5
    exact ⟨_, k, ws', rfl, e2, e3, dk', rl'⟩
  · rw [h] at e1; cases e1
theorem dturn_read {p : Pat} {vs : List Nat} {ft : RX Bool} {fk fe : RX D} {ρ : List Sl} {σ : L2.St} {d : D} {x : V} {δ δ1 : List Bx} {o : Option (D × D)} {G' : List Addr} {H' : Hp} {A : Addr} {ks es : List D} {ws : List V} {u : HO} {Nx : Hp → Prop}
    (hp : ∀ j ∈ p.slots, j ∈ vs) (s : SR c G' H' σ ρ) (dr : DR c G' H' δ) (hA : H' A = some u) (dk : DcK c.st false ks ws u) (rl : RelL c G' H' es ws) (nG : A ∉ G') (hz : ks.length < cap) (r : Rel c G' H' d x) (e : dstep p vs ft fk fe ρ d δ = .ok o δ1)
    (q0 : o = none → ∀ G2 H2, Ext G' H' G2 H2 → DR c G2 H2 δ1 → Nx H2) (q1 : ∀ k v, o = some (k, v) → ∀ G2 H2 u' ws', Ext G' H' G2 H2 → DR c G2 H2 δ1 → DcK c.st false (putL false ks es k v).1 ws' u' → RelL c G2 H2 (putL false ks es k v).2 ws' → Nx (upd H2 A u')) :
    tP c p x (L2.wipe σ vs) H' fun σ2 H2 => L2.wipe σ2 vs = L2.wipe σ vs ∧ tT c W0 ft σ2 H2 fun b H3 =>
      if b = true then tD c W0 fk σ2 H3 fun y H4 => tD c W0 fe σ2 H4 fun z H5 => ∃ kvs k, y = kV k ∧ H5 A = some (.dK kvs) ∧ kvs.length < sizeLine ∧ Nx (upd H5 A (.dK (putK kvs k z))) else Nx H3 := by
  unfold dstep at e
  split at e
  · cases e
  · rename_i ρ2 hb
    have e := noer_ok e
    refine bindP_tP (s.wipe vs) r hb fun σ2 s2 h1 h2 => ?_
    refine ⟨by rw [wipe_same (fun j hj => h1 j fun z => hj (hp j z)) h2, wipe_idem], ?_⟩
    obtain ⟨b, δa, ea, eb⟩ := bind_okI e
    refine ⟨ρ2, δ, G', s2, dr, ?_⟩
    rw [ea]
    intro G3 H3 x3 d3
    cases b with
    | false =>
      simp only [Bool.false_eq_true, if_false, Res.ok.injEq] at eb ⊢
      obtain ⟨rfl, rfl⟩ := eb
      exact q0 rfl _ _ x3 d3
    | true =>
      simp only [if_true] at eb ⊢
      obtain ⟨k, δb, ek, eb⟩ := bind_okI eb
      obtain ⟨v, δc, ev, ez⟩ := bind_okI eb
      split at ez
      · rename_i st
        simp only [Bool.and_eq_true] at st
        simp only [Res.ok.injEq] at ez
        obtain ⟨rfl, rfl⟩ := ez
        refine ⟨ρ2, δa, G3, s2.ext x3, d3, ?_⟩
        rw [ek]
        intro G4 H4 x4 d4 y ry
        refine ⟨ρ2, δb, G4, (s2.ext x3).ext x4, d4, ?_⟩
        rw [ev]
        intro G5 H5 x5 d5 z rz
        have x35 := (x3.trans x4).trans x5
        have hA5 := x35.keep _ _ hA nG
        have nG5 := x35.notMem hA nG
        obtain ⟨kvs, kk, ws', eu, ey, hl, dk', rl'⟩ := dct_put0 hA5 dk (RelL.extS x35.toS rl) st.2 (Rel.ext x5 ry) st.1 rz hz
        subst eu
        exact ⟨kvs, kk, ey, hA5, hl, q1 k v rfl G5 H5 _ ws' x35 d5 dk' rl'⟩
      · cases ez
theorem putO_len (ks vs : List D) (o : Option (D × D)) : (putO ks vs o).1.length ≤ ks.length + 1 := by
  cases o with
  | none => exact Nat.le_succ _
  | some p =>
    show (putL false ks vs p.1 p.2).1.length ≤ _
    unfold putL
    split
    · exact Nat.le_succ _
    · simp
theorem dc_read {fi : RX (List D)} {p : Pat} {vs : List Nat} {ft : RX Bool} {fk fe : RX D} {σ : L2.St} {H : Hp} {Q : VK} (hp : ∀ j ∈ p.slots, j ∈ vs) (h : tD c W (dcF fi p vs ft fk fe) σ H Q) :
    tDc (tI Ext c W fi) (tP c p) (tT c W0 ft) (tD c W0 fk) (tD c W0 fe) vs σ H Q := by
  refine tG.first (f := fi) (k := fun ds ρ δ1 => (dloop (dstep p vs ft fk fe ρ) ds [] [] δ1).bind fun r δ2 => .ok (D.wkd false r.1 r.2) δ2) h fun ρ ds δ1 G1 H1 a1 p1 J yj => ?_
  intro A nA
  cases ecl : dloop (dstep p vs ft fk fe ρ) ds [] [] δ1 with
  | no => rw [ecl] at p1; exact p1.elim
  | er k d' δ' =>
    exfalso
    have : ∀ (ds ks es : List D) (δ : List Bx), dloop (dstep p vs ft fk fe ρ) ds ks es δ ≠ .er k d' δ' := by
      intro ds
      induction ds with
      | nil => intro ks es δ h; cases h
      | cons d ds ih =>
        intro ks es δ h
        unfold dloop at h
        cases e1 : dstep p vs ft fk fe ρ d δ with
        | ok o δa =>
          rw [e1] at h
          simp only [Res.bind_ok] at h
          exact ih _ _ _ h
        | er _ _ _ =>
          unfold dstep at e1
          split at e1
          · cases e1
          · revert e1
            generalize ((ft _ δ).bind _) = r
            cases r <;> simp [Res.noer]
        | no => rw [e1] at h; cases h
    exact this _ _ _ _ ecl
  | ok rs δ2 =>
    rw [ecl] at p1
    simp only [Res.bind_ok] at p1
    refine ⟨fun i m H' => m = ds.length - i ∧ i ≤ ds.length ∧ ∃ G' δ' ks es ws u, Ext G1 H1 G' H' ∧ DR c G' H' δ' ∧ A ∉ G' ∧ H' A = some u ∧ DcK c.st false ks ws u ∧ RelL c G' H' es ws ∧ ks.length ≤ i ∧ dloop (dstep p vs ft fk fe ρ) (ds.drop i) ks es δ' = .ok rs δ2, ⟨ds.length, by simp, Nat.zero_le _, G1, δ1, [], [], [], .dK [], Ext.refl.push nA, ?_, ?_, upd_same, ⟨[], by simp, rfl, rfl⟩, by simp [RelL], Nat.le_refl _, by simpa using ecl⟩, ?_⟩
    · refine a1.dr.push (fun z => ?_) fun a u hu _ => ne_of_none hu nA
      obtain ⟨x, e, _⟩ := a1.dr.at z
      rw [nA] at e; cases e
    · intro z
      obtain ⟨x, e, _⟩ := a1.dr.at z
      rw [nA] at e; cases e
    · rintro i m H' ⟨rfl, hi, G', δ', ks, es, ws, u, xe, dr, nG, hA, dk, ra, hl, er⟩
      by_cases hlt : i < ds.length
      · have hd : ds[i]? = some ds[i] := List.getElem?_eq_getElem hlt
        obtain ⟨hgo, hy⟩ := yj.go i ds[i] G' H' xe hd
        refine .inr ⟨hgo, fun H'' => ∃ G'' δ'' ks es ws u, Ext G1 H1 G'' H'' ∧ DR c G'' H'' δ'' ∧ A ∉ G'' ∧ H'' A = some u ∧ DcK c.st false ks ws u ∧ RelL c G'' H'' es ws ∧ ks.length ≤ i + 1 ∧ dloop (dstep p vs ft fk fe ρ) (ds.drop (i + 1)) ks es δ'' = .ok rs δ2, fun H'' z => ⟨ds.length - (i + 1), by omega, rfl, hlt, z⟩, fun x H3 hx => ?_⟩
        obtain ⟨xn, rx⟩ := hy x H3 hx
        have x3 : Ext G' H' G' H3 := Ext.ofN xn
        have dr3 := dr.new xn
        have hA3 : H3 A = some u := xn _ _ hA
        rw [List.drop_eq_getElem_cons hlt] at er
        obtain ⟨o, δa, eo, er⟩ := bind_okI er
        have hz : ks.length < cap := by
          have := yj.len
          omega
        refine dturn_read hp ((a1.sr.ext xe).ext x3) dr3 hA3 dk (RelL.extS x3.toS ra) nG hz rx eo (fun ho G2 H2 x2 d2 => ?_) fun k v ho G2 H2 u' ws' x2 d2 dk' rl' => ?_
        · subst ho
          exact ⟨G2, δa, ks, es, ws, u, (xe.trans x3).trans x2, d2, x2.notMem hA3 nG, x2.keep _ _ hA3 nG, dk, RelL.extS ((x3.trans x2).toS) ra, by omega, er⟩
        · subst ho
          have nG2 := x2.notMem hA3 nG
          have hA2 := x2.keep _ _ hA3 nG
          have fx : ∀ a w, H2 a = some w → Fixed w → a ≠ A := fun a w hu f z => by
            subst z; rw [hA2] at hu; cases hu; exact dk.mut f
          have xs2 : ExtS G2 H2 G2 (upd H2 A u') := ⟨⟨[], by simp⟩, fun a w hu f => by rw [upd_ne (fx a w hu f)]; exact hu⟩
          have hlen := putO_len ks es (some (k, v))
          exact ⟨G2, δa, _, _, ws', u', ((xe.trans x3).trans x2).push nA, d2.push nG2 fx, nG2, upd_same, dk', RelL.extS xs2 rl', Nat.le_trans hlen (by omega), er⟩
      · have ei : i = ds.length := by omega
        subst ei
        refine .inl ⟨yj.stop G' H' xe, ?_⟩
        rw [List.drop_length] at er
        simp only [dloop, Res.ok.injEq] at er
        obtain ⟨rfl, rfl⟩ := er
        refine p1 G' _ xe dr _ ?_
        simp only [Rel]
        exact ⟨A, u, ws, rfl, hA, nG, dk, ra⟩
theorem pe_dcD {kx vx tg iter : Expr} {ifs : List Expr} {scope : Scope} {own : List (Str × Nat)} {pos : Pos} {fi : RX (List D)} {p : Pat} {ft : RX Bool} {fk fe : RX D} (hc : X.calm = true) (hN : X.N.Nodup) (hi : PI X tg iter (tI Ext c W fi)) (ok : BlkOk X.N X.env.scope scope own)
    (hg : ∀ (s : Shared) (H : Hp) (C : Addr) (cl : List (Str × Addr)) (fp : List Addr), PG (X.blk s H scope (compEnvC scope cl C X.env) fp) tg (tP c p)) (ht : ∀ (s : Shared) (H : Hp) (C : Addr) (cl : List (Str × Addr)) (fp : List Addr), PTs (X.blk s H scope (compEnvC scope cl C X.env) fp) ifs (tT c W0 ft))
    (hk : ∀ (s : Shared) (H : Hp) (C : Addr) (cl : List (Str × Addr)) (fp : List Addr), PE (X.blk s H scope (compEnvC scope cl C X.env) fp) kx (tD c W0 fk))
    (he : ∀ (s : Shared) (H : Hp) (C : Addr) (cl : List (Str × Addr)) (fp : List Addr), PE (X.blk s H scope (compEnvC scope cl C X.env) fp) vx (tD c W0 fe)) (hp : ∀ j ∈ p.slots, j ∈ own.map (·.2)) (hs : ∀ x, foldedSetIterable iter X.env x = pure x) :
    PE X (.DictComp kx vx [⟨tg, iter, ifs, 0⟩] scope pos) (tD c W (dcF fi p (own.map (·.2)) ft fk fe)) :=
  (pe_dc hc hN hi ok hg ht hk he hs).imp fun σ H Q h => dc_read hp h
end
end Pv
set_option maxRecDepth 100000
set_option maxHeartbeats 2000000
/-! PvD8: sorted(set(..)), told of plain data -/
namespace Pv
open PySem PySem.Spec PyProof.Rows L2

def dedD : List D → List D
  | [] => []
  | x :: xs => if xs.any (fun y => enc y == enc x) then dedD xs else x :: dedD xs
theorem dedD_spec {t : Ty} : ∀ {xs : List D}, (∀ x ∈ xs, hasTy t x = true) → (∀ y, y ∈ dedD xs ↔ y ∈ xs) ∧ (dedD xs).Nodup
  | [], _ => ⟨fun y => Iff.rfl, List.nodup_nil⟩
  | x :: xs, h => by
    obtain ⟨i1, i2⟩ := dedD_spec (xs := xs) fun y hy => h y (List.mem_cons_of_mem _ hy)
    unfold dedD
    split
    · rename_i q
      obtain ⟨z, hz, e⟩ := List.any_eq_true.mp q
      have ez : z = x := enc_inj (h z (List.mem_cons_of_mem _ hz)) (h x (List.mem_cons_self ..)) (by simpa using e)
      refine ⟨fun y => ⟨fun hy => List.mem_cons_of_mem _ ((i1 y).mp hy), fun hy => ?_⟩, i2⟩
      rcases List.mem_cons.mp hy with rfl | hy
      · exact (i1 _).mpr (ez ▸ hz)
      · exact (i1 y).mpr hy
    · rename_i q
      refine ⟨fun y => ?_, List.nodup_cons.mpr ⟨fun hx => ?_, i2⟩⟩
      · rw [List.mem_cons, List.mem_cons, i1]
      · exact q (List.any_eq_true.mpr ⟨x, (i1 x).mp hx, by simp⟩)
theorem srtD_congr {t : Ty} {xs ys : List D} (h : ∀ x ∈ xs, hasTy t x = true) (p : xs.Perm ys) : srtD xs = srtD ys :=
  srt_uniq (t := t) ((srtD_perm xs).trans (p.trans (srtD_perm ys).symm)) (fun x hx => h x ((srtD_perm xs).mem_iff.mp hx)) (srtD_srt xs) (srtD_srt ys)
theorem map_int_inj : ∀ {a b : List Int}, a.map D.int = b.map D.int → a = b
  | [], [], _ => rfl
  | [], _ :: _, h => by cases h
  | _ :: _, [], h => by cases h
  | x :: a, y :: b, h => by
    simp only [List.map_cons] at h
    injection h with h1 h2
    injection h1 with h1
    rw [h1, map_int_inj h2]
theorem lotD_inj {a b : List Int} (h : lotD a = lotD b) : a = b := by
  unfold lotD at h
  injection h with h
  exact map_int_inj h
theorem ints_split {c : Cn} {G : List Addr} {H : Hp} : ∀ {zs : List D} {ws : List V}, hasTyL .i zs = true → RelL c G H zs ws → ∃ ns : List Int, zs = ns.map .int ∧ ws = ns.map V.int
  | [], ws, _, r => by simp only [RelL] at r; exact ⟨[], rfl, r⟩
  | z :: zs, ws, h, r => by
    simp only [hasTyL, Bool.and_eq_true] at h
    simp only [RelL] at r
    obtain ⟨v, w, rfl, _, q1, q2⟩ := r
    obtain ⟨ns, rfl, rfl⟩ := ints_split h.2 q2
    cases z <;> first | (simp [hasTy] at h; done) | skip
    rename_i i _
    simp only [Rel] at q1
    exact ⟨i :: ns, rfl, by rw [q1]; rfl⟩
theorem lots_split {c : Cn} {G : List Addr} {H : Hp} : ∀ {xs : List D} {vs : List V}, (∀ x ∈ xs, hasTy (.l .i) x = true) → RelL c G H xs vs → ∃ ks : List (Addr × List Int), vs = ks.map (fun p => V.ref p.1) ∧ xs = ks.map (fun p => lotD p.2) ∧ ∀ p ∈ ks, TupK c H p.1 (p.2.map V.int)
  | [], vs, _, r => by simp only [RelL] at r; exact ⟨[], r, rfl, fun p hp => by cases hp⟩
  | x :: xs, vs, h, r => by
    simp only [RelL] at r
    obtain ⟨v, w, rfl, _, q1, q2⟩ := r
    obtain ⟨ks, rfl, rfl, h3⟩ := lots_split (fun y hy => h y (List.mem_cons_of_mem _ hy)) q2
    have hx := h x (List.mem_cons_self ..)
    cases x <;> first | (simp [hasTy] at hx; done) | skip
    rename_i zs
    simp only [hasTy] at hx
    obtain ⟨a, ws, rfl, ha, ra⟩ := q1.tupK
    obtain ⟨ns, rfl, rfl⟩ := ints_split hx ra
    refine ⟨(a, ns) :: ks, rfl, rfl, fun p hp => ?_⟩
    rcases List.mem_cons.mp hp with rfl | hp
    · exact ha
    · exact h3 p hp
def dSortSet : List D → Option D
  | [d] => match listD d with
    | some xs => if xs.all (hasTy (.l .i)) && decide (xs.length < 64) then some (.lst (srtD (dedD xs))) else none
    | none => none
  | _ => none
section
variable {c : Cn} {X : Cx} {W : L2.St → WE}
theorem srtSet_read (hc : X.K = c.K) {f : RX (List D)} {σ : L2.St} {H : Hp} {Q : VK} (h : tD c W (callF dSortSet f) σ H Q) : tCB (rSortSet c X.prog X.w) (tCons (tCB (rSetOfT X.K X.prog X.w) (tA c W f)) tNil) σ H Q := by
  have h1 := tA.call h
  refine tA.mono h1 fun vs H1 ⟨G, ds, d, ra, e, q⟩ => ?_
  unfold dSortSet at e
  split at e
  rotate_left
  · cases e
  rename_i d1
  obtain ⟨v, rfl, rv⟩ := ra.one
  split at e
  rotate_left
  · cases e
  rename_i xs hl
  split at e
  rotate_left
  · cases e
  rename_i hh
  cases e
  simp only [Bool.and_eq_true, List.all_eq_true, decide_eq_true_eq] at hh
  obtain ⟨l, ws, rfl, hp, rl⟩ := rv.list hl
  obtain ⟨ks, rfl, rfl, hk⟩ := lots_split hh.1 rl
  refine ⟨l, ks, rfl, .inl hp, fun p hp => by rw [hc]; exact (hk p hp).1, by simpa using hh.2, fun a L na hs hcov => ?_⟩
  have xn : ExtN H1 (upd H1 a (SetTO X.prog X.w a L)) := ExtN.upd na
  refine ⟨a, L, G, rfl, upd_same, fun p hp => TupK.extS (hk p (hs p hp)) (Ext.ofN (G := G) xn).toS, fun v H' x nd rr => ?_⟩
  refine q v H' (xn.trans x) ?_
  have key : srtD (L.map fun p => lotD p.2) = srtD (dedD (ks.map fun p => lotD p.2)) := by
    obtain ⟨m1, m2⟩ := dedD_spec hh.1
    refine srtD_congr (t := .l .i) (fun x hx => ?_) ?_
    · obtain ⟨p, _, rfl⟩ := List.mem_map.mp hx
      unfold lotD; simp only [hasTy]; exact hasTy_ints _
    · have n1 : (L.map fun p => lotD p.2).Nodup := by
        have : (L.map (·.2)).Pairwise (· ≠ ·) := nd
        rw [List.pairwise_map] at this
        exact List.pairwise_map.mpr (this.imp fun h e => h (lotD_inj e))
      refine (List.perm_ext_iff_of_nodup n1 m2).mpr fun y => ?_
      rw [m1]
      constructor
      · intro hy
        obtain ⟨p, hp, rfl⟩ := List.mem_map.mp hy
        exact List.mem_map.mpr ⟨p, hs p hp, rfl⟩
      · intro hy
        obtain ⟨p, hp, rfl⟩ := List.mem_map.mp hy
        obtain ⟨p', hp', e⟩ := List.mem_map.mp (hcov p hp)
        exact List.mem_map.mpr ⟨p', hp', by rw [e]⟩
  rw [← key]
  exact rr
theorem pe_sortSetD (hc : X.K = c.K) (hm : X.calm = true) (hu : X.A.units + 100 < cLine) {e : Expr} {f : RX (List D)} {p1 p2 p3 p4 : Pos} (g1 : Gl X "sorted") (m1 : X.mg "sorted" = none) (g2 : Gl X "set") (m2 : X.mg "set" = none) (ha : PA X [e] (tA c W f)) (hs : starEach [e] X.env = [(false, eval e X.env)]) :
    PE X (.Call (.Name "sorted" p1) [.Call (.Name "set" p2) [e] [] p3] [] p4) (tD c W (callF dSortSet f)) := by
  refine (pe_callB (call_sortSetD (c := c) hc hm hu) g1 m1 rfl (pa_cons (pe_callTy (cr_setOfT hm (by omega)) g2 m2 rfl ha (by decide) (by decide) hs rfl) pa_nil rfl) (by decide) (by decide) rfl rfl).imp fun σ H Q h => ?_
  exact srtSet_read hc h
end
end Pv
set_option maxRecDepth 100000
set_option maxHeartbeats 1000000
/-! PvD9: min, max of a list of ints, default=None -/
namespace Pv
open PySem PySem.Spec PyProof.Rows L2
def dBest (mx : Bool) : List D → Option D
  | [d] => match listD d with
    | some xs => match intsD xs with
      | some [] => some .non
      | some (i :: is) => some (.int (if mx then is.foldl max i else is.foldl min i))
      | none => none
    | none => none
  | _ => none
theorem reads_ints {h : Heap} : ∀ {vs : List Value} {ns : List Int}, IntsAre vs ns → ∃ as, ReadsAll h vs (ns.map .int) as
  | _, _, .nil => ⟨_, .nil⟩
  | _, _, .cons _ _ r => by
    obtain ⟨as, q⟩ := reads_ints r
    exact ⟨_, .cons (.int _ _) q⟩
theorem depth_ints : ∀ ns : List Int, PyData.depthAll (ns.map .int) ≤ 1
  | [] => by simp [PyData.depthAll]
  | n :: ns => by
    have := depth_ints ns
    simp only [List.map_cons, PyData.depthAll, PyData.depth]
    omega
theorem alike_ints (ns : List Int) : PySem.W.AlikeAll (ns.map .int) := by
  refine ⟨fun x hx y hy => ?_, fun x hx => ?_⟩
  · obtain ⟨i, _, rfl⟩ := List.mem_map.mp hx
    obtain ⟨j, _, rfl⟩ := List.mem_map.mp hy
    rfl
  · obtain ⟨i, _, rfl⟩ := List.mem_map.mp hx
    exact fun z => by cases z
section
variable {c : Cn} {X : Cx} {W : L2.St → WE}
def rBest (c : Cn) (mx : Bool) : List V → List V → Hp → VK → Prop := fun vs zs H Q => zs = [.non] ∧ rC c (dBest mx) vs H Q
theorem best_parts {pins : List (Addr × Obj)} {s : Shared} {σ : L2.St} {H : Hp} {vs : List V} {us : List Value} {Q : VK} {mx : Bool} (hc : X.K = c.K) (I : Inv X pins σ H s) (r : Vals vs us) (h : rC c (dBest mx) vs H Q) :
    ∃ (a : Addr) (ns : List Int) (its : List Value), us = [.ref a] ∧ s.heap.IsList a its.toArray ∧ IntsAre its ns ∧ (ns = [] → Q .non H) ∧ ∀ i is, ns = i :: is → Q (.int (if mx then is.foldl max i else is.foldl min i)) H := by
  obtain ⟨G, ds, d, ra, e, q⟩ := h
  unfold dBest at e
  split at e
  rotate_left
  · cases e
  rename_i d1
  obtain ⟨v, rfl, rv⟩ := ra.one
  split at e
  rotate_left
  · cases e
  rename_i xs hl
  obtain ⟨a, ws, rfl, hp, rl⟩ := rv.list hl
  obtain ⟨its, rvv, hls, hz⟩ := I.list (.inl hp)
  rw [Vals.ref1 r]
  split at e
  · rename_i hn
    cases e
    have := rl.ints hn
    rw [this] at rvv
    exact ⟨a, [], its, rfl, hls.isList, rvv.ints, (fun _ => q _ _ ExtN.refl (by simp only [Rel])), fun i is z => by cases z⟩
  · rename_i i is hn
    cases e
    have := rl.ints hn
    rw [this] at rvv
    exact ⟨a, i :: is, its, rfl, hls.isList, rvv.ints, (fun z => by cases z), fun i' is' z => by cases z; exact q _ _ ExtN.refl (by simp only [Rel])⟩
  · cases e
theorem call_minDef (hc : X.K = c.K) (hm : X.calm = true) (hu : X.A.units + 10 < cLine) : CallRK X (.builtin "min") ["default"] (rBest c false) := by
  intro pins s σ H xs zs us ws Q I r r2 ⟨hz, h⟩
  subst hz
  obtain ⟨w, rfl, rw'⟩ := Vals.one r2
  obtain rfl : w = Value.none := rw'
  obtain ⟨a, ns, its, rfl, hl, hi, q0, q1⟩ := best_parts hc I r h
  obtain ⟨as, hr⟩ := reads_ints (h := s.heap) hi
  refine PySem.W.min_list_default (I.ok.hd hm) hl (by simpa using hr) (alike_ints ns) (by have := depth_ints ns; omega) (fun e h' tk k => ?_) fun y ys i v h' tk bs e hv rd k => ?_
  · have e : ns = [] := List.map_eq_nil_iff.mp e
    exact ⟨.non, H, I.kept k, rfl, q0 e⟩
  · cases ns with
    | nil => cases e
    | cons n ns =>
      simp only [List.map_cons] at e
      injection e with e1 e2
      subst e1
      subst e2
      rw [PySem.W.minD_ints] at rd
      cases rd
      exact ⟨.int (ns.foldl min n), H, I.kept k, ⟨_, rfl⟩, q1 n ns rfl⟩
theorem call_maxDef (hc : X.K = c.K) (hm : X.calm = true) (hu : X.A.units + 10 < cLine) : CallRK X (.builtin "max") ["default"] (rBest c true) := by
  intro pins s σ H xs zs us ws Q I r r2 ⟨hz, h⟩
  subst hz
  obtain ⟨w, rfl, rw'⟩ := Vals.one r2
  obtain rfl : w = Value.none := rw'
  obtain ⟨a, ns, its, rfl, hl, hi, q0, q1⟩ := best_parts hc I r h
  obtain ⟨as, hr⟩ := reads_ints (h := s.heap) hi
  refine PySem.W.max_list_default (I.ok.hd hm) hl (by simpa using hr) (alike_ints ns) (by have := depth_ints ns; omega) (fun e h' tk k => ?_) fun y ys i v h' tk bs e hv rd k => ?_
  · have e : ns = [] := List.map_eq_nil_iff.mp e
    exact ⟨.non, H, I.kept k, rfl, q0 e⟩
  · cases ns with
    | nil => cases e
    | cons n ns =>
      simp only [List.map_cons] at e
      injection e with e1 e2
      subst e1
      subst e2
      rw [PySem.W.maxD_ints] at rd
      cases rd
      exact ⟨.int (ns.foldl max n), H, I.kept k, ⟨_, rfl⟩, q1 n ns rfl⟩
theorem pe_bestD (hc : X.K = c.K) (hm : X.calm = true) (hu : X.A.units + 10 < cLine) {mx : Bool} {e : Expr} {f : RX (List D)} {p1 p2 p3 p4 : Pos} {k : Nat} (g : Gl X (if mx then "max" else "min")) (m : X.mg (if mx then "max" else "min") = none) (ha : PA X [e] (tA c W f)) (hs : starEach [e] X.env = [(false, eval e X.env)]) :
    PE X (.Call (.Name (if mx then "max" else "min") p1) [e] [⟨some "default", .Constant .none k p2, p3⟩] p4) (tD c W (callF (dBest mx) f)) := by
  have rd : ∀ σ H Q, tD c W (callF (dBest mx) f) σ H Q → tCKw (rBest c mx) (tA c W f) (tCons (tC .non) tNil) σ H Q := fun σ H Q h => tA.mono (tA.call h) fun vs H1 q => ⟨rfl, q⟩
  cases mx with
  | false => exact (pe_callBK (call_minDef hc hm hu) g m rfl ha (pk_cons pe_non pk_nil) (by decide) (by decide) (by rw [hs]; rfl) (by rw [hs]; rfl) rfl rfl rfl).imp rd
  | true => exact (pe_callBK (call_maxDef hc hm hu) g m rfl ha (pk_cons pe_non pk_nil) (by decide) (by decide) (by rw [hs]; rfl) (by rw [hs]; rfl) rfl rfl rfl).imp rd
end
end Pv
set_option maxRecDepth 100000
set_option maxHeartbeats 1000000
/-! PvJ: a small syntax of expressions, what it reckons -/
namespace Pv
open PySem PySem.Spec PyProof.Rows L2

/-- built-ins that are called by values -/
inductive Bi where
  | len | abs | int | all | any | sum | max | min | tuple | list | gcd | divmod | isi | minT | srtK | listK
  deriving DecidableEq
inductive Ex where
  | non | bl (b : Bool) | int (i : Int) | str (x : Str) | tyn (n : String)
  | glo (x : Str) (d : D) | fnv (x : Str)
  | var (i : Nat)
  | bin (op : Operator) (a b : Ex) | neg (a : Ex) | not (a : Ex)
  | cmp (op : CmpOp) (a b : Ex) | cmp2 (o1 o2 : CmpOp) (a b c : Ex)
  | and (a b : Ex) | or (a b : Ex) | ite (t a b : Ex)
  | tup (es : Ex) | lst (es : Ex) | bag (es : Ex)
  | idx (a b : Ex) | slc (a lo hi : Ex)
  | call (f : Nat) (es : Ex) | bi (b : Bi) (es : Ex)
  | lc (p : Pat) (vs : List Nat) (it cond elt : Ex)
  | lc2 (p : Pat) (vs : List Nat) (it cond : Ex) (p1 : Pat) (vs1 : List Nat) (it1 cond1 elt : Ex)
  | nil | cons (a r : Ex)
  | dcE (p : Pat) (vs : List Nat) (it cond key elt : Ex)
  | rng1 (es : Ex) | rng2 (es : Ex)
  | callv (i : Nat) (es : Ex)
  | enumE (es : Ex) | zipE (es : Ex)
  | srt (t : Ty) (es : Ex) | srtSet (es : Ex) | srtSetI (es : Ex)
  | lrng (e : Ex) | combE (es : Ex) | best (mx : Bool) (es : Ex)
  | star (a r : Ex) | tupS (es : Ex) | lstS (es : Ex) | cnt (a b : Ex) | rep (neg : Bool) (a b : Ex)
  | callK (k n m : Nat) (pm : List Nat) (es ks : Ex)
def dBin : Operator → D → D → Option D
  | .Add => dAdd
  | .Sub => dSub
  | .Mult => dMul
  | .FloorDiv => dDiv
  | .Mod => dMod
  | .Pow => dPow
  | .LShift => dShl
  | .BitOr => dOr
  | .BitXor => dXor
  | .BitAnd => dAnd
  | _ => fun _ _ => none
def dCmp : CmpOp → D → D → Option D
  | .Eq => dEq
  | .NotEq => dNe
  | .Lt => dLt
  | .LtE => dLe
  | .Gt => dGt
  | .GtE => dGe
  | .In => dInX
  | .NotIn => dNinX
  | .Is => dIs
  | .IsNot => dIsn
def biG : Bi → List D → Option D
  | .len => dLen
  | .abs => dAbs
  | .int => dInt
  | .all => dAll
  | .any => dAny
  | .sum => dSum
  | .max => dMax
  | .min => dMin
  | .tuple => dTuple
  | .list => dList
  | .gcd => dGcd
  | .divmod => dDivmod
  | .isi => dIsi
  | .minT => dMinT
  | .srtK => dSortK
  | .listK => dListK
def noX {α : Type} : RX α := fun _ _ => .no
def yesT : RX Bool := fun _ δ => .ok true δ
/-- the callees: how many parameters, what they reckon; a def by its name; a lambda by its object -/
structure Phi where
  fns : List (Nat × Fn)
  named : Str → Option (Nat × Fn) := fun _ => none
  clo : Addr → Addr → Str → List D → List V → Option (Nat × Fn) := fun _ _ _ _ _ => none
def Phi.bare (Φ : Phi) : Phi := { Φ with clo := fun _ _ _ _ _ => none }
def callP (Φ : Phi) (k : Nat) (f : RX (List D)) : RX D := match Φ.fns[k]? with
  | some (np, F) => callO F np f
  | none => noX
/-- a call by position and by name: the arguments put in order -/
def callKO (F : Fn) (n m : Nat) (pm : List Nat) (f g : RX (List D)) : RX D := fun ρ δ => (f ρ δ).bind fun ds δ1 => (g ρ δ1).bind fun es δ2 => if ds.length = n ∧ es.length = m ∧ ds.all D.strong = true ∧ es.all D.strong = true then F (pm.map fun i => (ds ++ es).getD i .non) δ2 else .no
def callKP (Φ : Phi) (k n m : Nat) (pm : List Nat) (f g : RX (List D)) : RX D := match Φ.fns[k]? with
  | some (_, F) => callKO F n m pm f g
  | none => noX
def callV (Φ : Phi) (i : Nat) (f : RX (List D)) : RX D := fun ρ δ => match ρ[i]? with
  | some (.v (.clo a k q ws us)) => (match Φ.clo a k q ws us with
    | some (np, F) => callO F np f ρ δ
    | none => .no)
  | some (.v (.fn x)) => (match Φ.named x with
    | some (np, F) => callO F np f ρ δ
    | none => .no)
  | _ => .no
/-- what an expression reckons: as a value, a test, arguments, a walk in a comprehension, in a loop, a slice's part -/
structure Sem6 where
  d : RX D
  t : RX Bool
  a : RX (List D)
  i : RX (List D)
  j : RX (List D)
  o : RX (Option Int)
def noS : Sem6 := ⟨noX, noX, noX, noX, noX, noX⟩
def valS (d : RX D) : Sem6 := ⟨d, asB d, noX, itF seqD d, itF seqS d, optA (some d)⟩
def sem : Phi → Ex → Sem6
  | Φ, .non => valS fun _ δ => .ok .non δ
  | Φ, .bl b => valS fun _ δ => .ok (.bl b) δ
  | Φ, .int i => valS fun _ δ => .ok (.int i) δ
  | Φ, .str x => valS fun _ δ => .ok (.str x) δ
  | Φ, .tyn n => valS fun _ δ => .ok (.ty n) δ
  | Φ, .glo _ d => valS fun _ δ => .ok d δ
  | Φ, .fnv x => valS fun _ δ => .ok (.fn x) δ
  | Φ, .var i => valS fun ρ δ => ofO (rdSl ρ[i]?) δ
  | Φ, .bin op a b => valS (bin2 (dBin op) (sem Φ a).d (sem Φ b).d)
  | Φ, .neg a => valS (un1 dNeg (sem Φ a).d)
  | Φ, .not a => { valS (notD (sem Φ a).d) with t := notT (sem Φ a).t }
  | Φ, .cmp op a b => valS (bin2 (dCmp op) (sem Φ a).d (sem Φ b).d)
  | Φ, .cmp2 o1 o2 a b c => valS (chain2 (dCmp o1) (dCmp o2) (sem Φ a).d (sem Φ b).d (sem Φ c).d)
  | Φ, .and a b => { valS (andD (sem Φ a).d (sem Φ b).d) with t := andT (sem Φ a).t (sem Φ b).t }
  | Φ, .or a b => { valS (orD (sem Φ a).d (sem Φ b).d) with t := orT (sem Φ a).t (sem Φ b).t }
  | Φ, .ite t a b => { valS (iteD (sem Φ t).t (sem Φ a).d (sem Φ b).d) with t := noX }
  | Φ, .tup es => valS (tupF (sem Φ es).a)
  | Φ, .lst es => valS (lstF (sem Φ es).a)
  | Φ, .bag es => valS (bagF (sem Φ es).a)
  | Φ, .idx a b => valS (idxF (sem Φ a).d (sem Φ b).d)
  | Φ, .slc a lo hi => valS (slc (sem Φ a).d (sem Φ lo).o (sem Φ hi).o)
  | Φ, .call k es => valS (callP Φ k (sem Φ es).a)
  | Φ, .bi b es => valS (callF (biG b) (sem Φ es).a)
  | Φ, .lc p vs it cond elt => valS (lcF (sem Φ it).i p vs (sem Φ.bare cond).t (sem Φ.bare elt).d)
  | Φ, .lc2 p vs it cond p1 vs1 it1 cond1 elt => valS (lc2F (sem Φ it).j p vs (sem Φ.bare cond).t (sem Φ.bare it1).j p1 vs1 (sem Φ.bare cond1).t (sem Φ.bare elt).d)
  | Φ, .dcE p vs it cond key elt => valS (dcF (sem Φ it).i p vs (sem Φ.bare cond).t (sem Φ.bare key).d (sem Φ.bare elt).d)
  | Φ, .nil => { noS with t := yesT, a := nilA, o := optA none }
  | Φ, .cons a r => { noS with a := consA (sem Φ a).d (sem Φ r).a }
  | Φ, .rng1 es => { noS with i := itA rng1 (sem Φ es).a, j := itA rng1 (sem Φ es).a }
  | Φ, .rng2 es => { noS with i := itA rng2 (sem Φ es).a, j := itA rng2 (sem Φ es).a }
  | Φ, .srt t es => valS (callF (dSorted t) (sem Φ es).a)
  | Φ, .srtSet es => valS (callF dSortSet (sem Φ es).a)
  | Φ, .srtSetI es => valS (callF dSortSetI (sem Φ es).a)
  | Φ, .lrng e => valS (un1 dLrng (sem Φ e).d)
  | Φ, .combE es => { noS with i := itA combG (sem Φ es).a, j := itA combG (sem Φ es).a }
  | Φ, .star a r => { noS with a := starA (sem Φ a).d (sem Φ r).a }
  | Φ, .tupS es => valS (tupF (sem Φ es).a)
  | Φ, .lstS es => valS (lstF (sem Φ es).a)
  | Φ, .cnt a b => valS (cntF (sem Φ a).d (sem Φ b).d)
  | Φ, .rep neg a b => valS (repF neg (sem Φ a).d (sem Φ b).d)
  | Φ, .callK k n m pm es ks => valS (callKP Φ k n m pm (sem Φ es).a (sem Φ ks).a)
  | Φ, .best mx es => valS (callF (dBest mx) (sem Φ es).a)
  | Φ, .enumE es => { noS with i := itA enumG (sem Φ es).a, j := itA enumG (sem Φ es).a }
  | Φ, .zipE es => { noS with i := itA zipG (sem Φ es).a, j := itA zipG (sem Φ es).a }
  | Φ, .callv i es => valS (callV Φ i (sem Φ es).a)
end Pv
set_option maxRecDepth 100000
set_option maxHeartbeats 1000000
/-! PvK: the small syntax beside the real one -/
namespace Pv
open PySem PySem.Spec PyProof.Rows L2

mutual
def D.beq : D → D → Bool
  | .non, .non => true
  | .bl a, .bl b => a == b
  | .int a, .int b => a == b
  | .str a, .str b => a == b
  | .tup xs, .tup ys => D.beqL xs ys
  | _, _ => false
def D.beqL : List D → List D → Bool
  | [], [] => true
  | x :: xs, y :: ys => D.beq x y && D.beqL xs ys
  | _, _ => false
end
mutual
theorem D.beq_eq : ∀ {a b : D}, D.beq a b = true → a = b
  | .non, b, h => by cases b <;> simp [D.beq] at h; rfl
  | .bl x, b, h => by cases b <;> simp [D.beq] at h; rw [h]
  | .int x, b, h => by cases b <;> simp [D.beq] at h; rw [h]
  | .str x, b, h => by cases b <;> simp [D.beq] at h; rw [h]
  | .tup xs, b, h => by cases b <;> simp [D.beq] at h; rw [D.beqL_eq h]
  | .lst _, b, h => by cases b <;> simp [D.beq] at h
  | .wk _, b, h => by cases b <;> simp [D.beq] at h
  | .dct _ _ _, b, h => by cases b <;> simp [D.beq] at h
  | .wkd _ _ _, b, h => by cases b <;> simp [D.beq] at h
  | .ref _, b, h => by cases b <;> simp [D.beq] at h
  | .fn _, b, h => by cases b <;> simp [D.beq] at h
  | .ty _, b, h => by cases b <;> simp [D.beq] at h
theorem D.beqL_eq : ∀ {a b : List D}, D.beqL a b = true → a = b
  | [], b, h => by cases b <;> simp [D.beqL] at h; rfl
  | x :: xs, b, h => by
    cases b <;> simp [D.beqL] at h
    rw [D.beq_eq h.1, D.beqL_eq h.2]
end

/-- what the text around a def is: its names by slot, its callees by place, built-in names that are free, the module's constants -/
structure Ctx where
  N : List Str
  fns : List Str
  free : List Str
  cons : List (Str × D)
  bims : List Str := []
  fvs : List Str := []
  kcs : List (Nat × Nat × List Str × List Nat) := []
  st : Bool := false
def noStar : Expr → Bool
  | .Starred _ _ => false
  | _ => true
def noStarL (es : List Expr) : Bool := es.all noStar
def noSlice : Expr → Bool
  | .Slice _ _ _ _ => false
  | _ => true
def noSetE : Expr → Bool
  | .Set _ _ _ => false
  | _ => true
def noCompE : Expr → Bool
  | .ListComp _ _ _ _ => false
  | .SetComp _ _ _ _ => false
  | .DictComp _ _ _ _ _ => false
  | _ => true
def isConstI (i : Int) : Expr → Bool
  | .Constant (.int j) _ _ => i == j
  | _ => false
/-- a name that can be read: in slot i -/
def visB (sc : Scope) (x : Str) : Bool := match sc.names.lookup x with
  | some .local => true
  | some .cell => true
  | some .free => true
  | _ => false
def globB (sc : Scope) (x : Str) : Bool := decide (sc.names.lookup x = some .globalImplicit)
/-- a name that can be stored -/
def locB (sc : Scope) (fnl : Str → Bool) (x : Str) : Bool := match sc.names.lookup x with
  | some .local => true
  | some .cell => fnl x
  | _ => false
def special (x : Str) : Bool := x == ("__debug__" : Str) || x == ("__classdict__" : Str) || x == ("__name__" : Str)
def biN : Bi → Str
  | .len => "len" | .abs => "abs" | .int => "int" | .all => "all" | .any => "any" | .sum => "sum" | .max => "max" | .min => "min"
  | .tuple => "tuple" | .list => "list" | .gcd => "gcd" | .divmod => "divmod" | .isi => "isinstance" | .minT => "min" | .srtK => "sorted" | .listK => "list"
def mNames (T : Ctx) (sc : Scope) (fnl : Str → Bool) : List Nat → List Expr → Bool
  | [], [] => true
  | i :: is, .Name x _ :: es => decide (T.N[i]? = some x) && locB sc fnl x && mNames T sc fnl is es
  | _, _ => false
def mPat (T : Ctx) (sc : Scope) (fnl : Str → Bool) : Pat → Expr → Bool
  | .nm i, .Name x _ => decide (T.N[i]? = some x) && locB sc fnl x
  | .tp is, .Tuple es _ _ => mNames T sc fnl is es
  | _, _ => false
def ownOf (N : List Str) (vs : List Nat) : List (Str × Nat) := vs.map fun i => (N.getD i "", i)
def subB (a b : List Nat) : Bool := a.all fun i => b.contains i
def isNil : Ex → Bool
  | .nil => true
  | _ => false
def asK : Expr → Option Const
  | .Constant k _ _ => some k
  | _ => none
theorem asK_of {e : Expr} {k : Const} (h : asK e = some k) : ∃ a p, e = .Constant k a p := by
  unfold asK at h; split at h
  · cases h; exact ⟨_, _, rfl⟩
  · cases h
def asNm : Expr → Option Str
  | .Name x _ => some x
  | _ => none
theorem asNm_of {e : Expr} {k : Str} (h : asNm e = some k) : ∃ p, e = .Name k p := by
  unfold asNm at h; split at h
  · cases h; exact ⟨_, rfl⟩
  · cases h
def asBin : Expr → Option (Expr × Operator × Expr)
  | .BinOp l o r _ => some (l, o, r)
  | _ => none
theorem asBin_of {e l r : Expr} {o : Operator} (h : asBin e = some (l, o, r)) : ∃ p, e = .BinOp l o r p := by
  unfold asBin at h; split at h
  · cases h; exact ⟨_, rfl⟩
  · cases h
def asNeg : Expr → Option Expr
  | .UnaryOp .USub e _ => some e
  | _ => none
theorem asNeg_of {e l : Expr} (h : asNeg e = some l) : ∃ p, e = .UnaryOp .USub l p := by
  unfold asNeg at h; split at h
  · cases h; exact ⟨_, rfl⟩
  · cases h
def asNot : Expr → Option Expr
  | .UnaryOp .Not e _ => some e
  | _ => none
theorem asNot_of {e l : Expr} (h : asNot e = some l) : ∃ p, e = .UnaryOp .Not l p := by
  unfold asNot at h; split at h
  · cases h; exact ⟨_, rfl⟩
  · cases h
def asCmp : Expr → Option (Expr × CmpOp × Expr)
  | .Compare l [o] [r] _ => some (l, o, r)
  | _ => none
theorem asCmp_of {e l r : Expr} {o : CmpOp} (h : asCmp e = some (l, o, r)) : ∃ p, e = .Compare l [o] [r] p := by
  unfold asCmp at h; split at h
  · cases h; exact ⟨_, rfl⟩
  · cases h
def asCmp2 : Expr → Option (Expr × CmpOp × Expr × CmpOp × Expr)
  | .Compare l [o, q] [m, r] _ => some (l, o, m, q, r)
  | _ => none
theorem asCmp2_of {e l m r : Expr} {o q : CmpOp} (h : asCmp2 e = some (l, o, m, q, r)) : ∃ p, e = .Compare l [o, q] [m, r] p := by
  unfold asCmp2 at h; split at h
  · cases h; exact ⟨_, rfl⟩
  · cases h
def asAnd : Expr → Option (Expr × Expr × List Expr × Pos)
  | .BoolOp .And (x :: y :: r) p => some (x, y, r, p)
  | _ => none
theorem asAnd_of {e x y : Expr} {r : List Expr} {p : Pos} (h : asAnd e = some (x, y, r, p)) : e = .BoolOp .And (x :: y :: r) p := by
  unfold asAnd at h; split at h
  · cases h; rfl
  · cases h
def asOr : Expr → Option (Expr × Expr × List Expr × Pos)
  | .BoolOp .Or (x :: y :: r) p => some (x, y, r, p)
  | _ => none
theorem asOr_of {e x y : Expr} {r : List Expr} {p : Pos} (h : asOr e = some (x, y, r, p)) : e = .BoolOp .Or (x :: y :: r) p := by
  unfold asOr at h; split at h
  · cases h; rfl
  · cases h
def asIf : Expr → Option (Expr × Expr × Expr)
  | .IfExp t a b _ => some (t, a, b)
  | _ => none
theorem asIf_of {e t a b : Expr} (h : asIf e = some (t, a, b)) : ∃ p, e = .IfExp t a b p := by
  unfold asIf at h; split at h
  · cases h; exact ⟨_, rfl⟩
  · cases h
def asTup : Expr → Option (List Expr)
  | .Tuple l _ _ => some l
  | _ => none
theorem asTup_of {e : Expr} {l : List Expr} (h : asTup e = some l) : ∃ k p, e = .Tuple l k p := by
  unfold asTup at h; split at h
  · cases h; exact ⟨_, _, rfl⟩
  · cases h
def asLst : Expr → Option (List Expr)
  | .List l _ => some l
  | _ => none
theorem asLst_of {e : Expr} {l : List Expr} (h : asLst e = some l) : ∃ p, e = .List l p := by
  unfold asLst at h; split at h
  · cases h; exact ⟨_, rfl⟩
  · cases h
def asIx : Expr → Option (Expr × Expr)
  | .Subscript l r _ => some (l, r)
  | _ => none
theorem asIx_of {e l r : Expr} (h : asIx e = some (l, r)) : ∃ p, e = .Subscript l r p := by
  unfold asIx at h; split at h
  · cases h; exact ⟨_, rfl⟩
  · cases h
def asSl : Expr → Option (Option Expr × Option Expr)
  | .Slice x y none _ => some (x, y)
  | _ => none
theorem asSl_of {e : Expr} {x y : Option Expr} (h : asSl e = some (x, y)) : ∃ p, e = .Slice x y none p := by
  unfold asSl at h; split at h
  · cases h; exact ⟨_, rfl⟩
  · cases h
def asCall : Expr → Option (Str × Expr × List Expr)
  | .Call (.Name x _) (a :: r) [] _ => some (x, a, r)
  | _ => none
theorem asCall_of {e a : Expr} {x : Str} {r : List Expr} (h : asCall e = some (x, a, r)) : ∃ q p, e = .Call (.Name x q) (a :: r) [] p := by
  unfold asCall at h; split at h
  · cases h; exact ⟨_, _, rfl⟩
  · cases h
def asLc : Expr → Option (Expr × Expr × Expr × List Expr × Scope)
  | .ListComp e [⟨tg, iter, ifs, 0⟩] scope _ => some (e, tg, iter, ifs, scope)
  | _ => none
theorem asLc_of {x e tg iter : Expr} {ifs : List Expr} {sc : Scope} (h : asLc x = some (e, tg, iter, ifs, sc)) : ∃ p, x = .ListComp e [⟨tg, iter, ifs, 0⟩] sc p := by
  unfold asLc at h; split at h
  · cases h; exact ⟨_, rfl⟩
  · cases h
def asDc : Expr → Option (Expr × Expr × Expr × Expr × List Expr × Scope)
  | .DictComp k e [⟨tg, iter, ifs, 0⟩] scope _ => some (k, e, tg, iter, ifs, scope)
  | _ => none
theorem asDc_of {x k e tg iter : Expr} {ifs : List Expr} {sc : Scope} (h : asDc x = some (k, e, tg, iter, ifs, sc)) : ∃ p, x = .DictComp k e [⟨tg, iter, ifs, 0⟩] sc p := by
  unfold asDc at h; split at h
  · cases h; exact ⟨_, rfl⟩
  · cases h
def asLc2 : Expr → Option (Expr × Expr × Expr × List Expr × Expr × Expr × List Expr × Scope)
  | .ListComp e [⟨tg, iter, ifs, 0⟩, ⟨tg1, iter1, ifs1, 0⟩] scope _ => some (e, tg, iter, ifs, tg1, iter1, ifs1, scope)
  | _ => none
theorem asLc2_of {x e tg iter tg1 iter1 : Expr} {ifs ifs1 : List Expr} {sc : Scope} (h : asLc2 x = some (e, tg, iter, ifs, tg1, iter1, ifs1, sc)) : ∃ p, x = .ListComp e [⟨tg, iter, ifs, 0⟩, ⟨tg1, iter1, ifs1, 0⟩] sc p := by
  unfold asLc2 at h; split at h
  · cases h; exact ⟨_, rfl⟩
  · cases h
/-- sorted(set(e)) -/
def asSrtSet : Expr → Option Expr
  | .Call (.Name x _) [.Call (.Name y _) [e] [] _] [] _ => if x == "sorted" && y == "set" then some e else none
  | _ => none
theorem asSrtSet_of {e a : Expr} (h : asSrtSet e = some a) : ∃ p q r s, e = .Call (.Name "sorted" p) [.Call (.Name "set" q) [a] [] r] [] s := by
  unfold asSrtSet at h; split at h
  · split at h
    · rename_i hh; simp only [Bool.and_eq_true, beq_iff_eq] at hh; obtain ⟨rfl, rfl⟩ := hh; cases h; exact ⟨_, _, _, _, rfl⟩
    · cases h
  · cases h
/-- list(range(e)) -/
def asLrng : Expr → Option Expr
  | .Call (.Name x _) [.Call (.Name y _) [e] [] _] [] _ => if x == "list" && y == "range" then some e else none
  | _ => none
theorem asLrng_of {e a : Expr} (h : asLrng e = some a) : ∃ p q r s, e = .Call (.Name "list" p) [.Call (.Name "range" q) [a] [] r] [] s := by
  unfold asLrng at h; split at h
  · split at h
    · rename_i hh; simp only [Bool.and_eq_true, beq_iff_eq] at hh; obtain ⟨rfl, rfl⟩ := hh; cases h; exact ⟨_, _, _, _, rfl⟩
    · cases h
  · cases h
/-- min(e, default=None), max(..) -/
def asBest : Expr → Option (Str × Expr)
  | .Call (.Name x _) [e] [⟨some d, .Constant .none _ _, _⟩] _ => if d == "default" then some (x, e) else none
  | _ => none
theorem asBest_of {e a : Expr} {x : Str} (h : asBest e = some (x, a)) : ∃ p k q r s, e = .Call (.Name x p) [a] [⟨some "default", .Constant .none k q, r⟩] s := by
  unfold asBest at h; split at h
  · split at h
    · rename_i hh; simp only [beq_iff_eq] at hh; subst hh; cases h; exact ⟨_, _, _, _, _, rfl⟩
    · cases h
  · cases h
/-- a.count(b), within one line -/
def asCnt : Expr → Option (Expr × Expr)
  | .Call (.Attribute o m ap) [e] [] p => if ap.endLine == p.line && m == "count" then some (o, e) else none
  | _ => none
theorem asCnt_of {c o e : Expr} (h : asCnt c = some (o, e)) : ∃ ap p, c = .Call (.Attribute o "count" ap) [e] [] p ∧ (ap.endLine == p.line) = true := by
  unfold asCnt at h; split at h
  · split at h
    · rename_i hh; simp only [Bool.and_eq_true, beq_iff_eq] at hh; obtain ⟨h1, rfl⟩ := hh; cases h; exact ⟨_, _, rfl, by simpa using h1⟩
    · cases h
  · cases h
/-- repr(a) == repr(b), repr(a) != repr(b) -/
def asRep : Expr → Option (Bool × Expr × Expr)
  | .Compare (.Call (.Name x _) [a] [] _) [o] [.Call (.Name y _) [b] [] _] _ => if x == "repr" && y == "repr" then (match o with
    | .Eq => some (false, a, b)
    | .NotEq => some (true, a, b)
    | _ => none) else none
  | _ => none
theorem asRep_of {c a b : Expr} {neg : Bool} (h : asRep c = some (neg, a, b)) : ∃ p1 p2 p3 p4 p5, c = .Compare (.Call (.Name "repr" p1) [a] [] p2) [if neg then .NotEq else .Eq] [.Call (.Name "repr" p3) [b] [] p4] p5 := by
  unfold asRep at h; split at h
  · split at h
    · rename_i hh; simp only [Bool.and_eq_true, beq_iff_eq] at hh; obtain ⟨rfl, rfl⟩ := hh
      split at h
      · cases h; exact ⟨_, _, _, _, _, rfl⟩
      · cases h; exact ⟨_, _, _, _, _, rfl⟩
      · cases h
    · cases h
  · cases h
/-- f(.., k = v, ..) -/
def kwNames (kws : List Keyword) : List (Option Str) := kws.map fun | ⟨n, _, _⟩ => n
def kwVals (kws : List Keyword) : List Expr := kws.map fun | ⟨_, v, _⟩ => v
def asCallK : Expr → Option (Str × List Expr × List Keyword × Pos)
  | .Call (.Name x _) es kws p => some (x, es, kws, p)
  | _ => none
theorem asCallK_of {c : Expr} {x : Str} {es : List Expr} {kws : List Keyword} {p : Pos} (h : asCallK c = some (x, es, kws, p)) : ∃ q, c = .Call (.Name x q) es kws p := by
  unfold asCallK at h; split at h
  · cases h; exact ⟨_, rfl⟩
  · cases h
/-- a matcher used under a block -/
abbrev ME := Scope → (Str → Bool) → Expr → Bool
def inFn (scope : Scope) : Str → Bool := fun x => scope.names.lookup x == some .cell
def mIfs (nil : Bool) (m : Expr → Bool) : List Expr → Bool
  | [] => nil
  | [t] => !nil && m t
  | _ => false
def mOpt (nil : Bool) (m : Expr → Bool) : Option Expr → Bool
  | none => nil
  | some e => !nil && m e
def mTail (pos : Pos) (op : BoolOp) (m : Expr → Bool) (y : Expr) : List Expr → Bool
  | [] => m y
  | z :: r => m (.BoolOp op (y :: z :: r) pos)
def isTg : Expr → Bool
  | .Tuple _ _ _ => true
  | _ => false
/-- targets that a walk allows -/
def itOk : Ex → Expr → Bool
  | .enumE _, tg => isTg tg
  | .zipE _, tg => isTg tg
  | _, _ => true
/-- a receiver whose method is looked up as a method -/
def noBase : Expr → Bool
  | .Name _ _ => true
  | .Subscript _ _ _ => true
  | _ => false
mutual
def mE (T : Ctx) (sc : Scope) (fnl : Str → Bool) : Ex → Expr → Bool
  | .non, e => (match asK e with | some .none => true | _ => false)
  | .bl b, e => (match asK e with | some (.bool b') => b == b' | _ => false)
  | .int i, e => (match asK e with | some (.int j) => i == j | _ => false)
  | .str x, e => (match asK e with | some (.str y) => x == y | _ => false)
  | .tyn n, e => (match asNm e with | some x => x == Str.ofString n && tyKnown n && globB sc x && T.free.contains x | none => false)
  | .glo x d, e => (match asNm e with | some y => x == y && globB sc x && !special x && T.cons.any (fun p => p.1 == x && D.beq p.2 d) | none => false)
  | .var i, e => (match asNm e with | some x => decide (T.N[i]? = some x) && visB sc x && !special x | none => false)
  | .bin op a b, e => (match asBin e with | some (l, o, r) => decide (op = o) && mE T sc fnl a l && mE T sc fnl b r | none => false)
  | .neg a, e => (match asNeg e with | some x => mE T sc fnl a x | none => false)
  | .not a, e => (match asNot e with | some x => mE T sc fnl a x | none => false)
  | .cmp op a b, e => (match asCmp e with | some (l, o, r) => decide (op = o) && noSetE r && mE T sc fnl a l && mE T sc fnl b r | none => false)
  | .cmp2 o1 o2 a b c, e => (match asCmp2 e with | some (l, p1, m, p2, r) => decide (o1 = p1) && decide (o2 = p2) && noSetE m && noSetE r && mE T sc fnl a l && mE T sc fnl b m && mE T sc fnl c r | none => false)
  | .and a b, e => (match asAnd e with | some (x, y, r, p) => mE T sc fnl a x && mTail p .And (mE T sc fnl b) y r | none => false)
  | .or a b, e => (match asOr e with | some (x, y, r, p) => mE T sc fnl a x && mTail p .Or (mE T sc fnl b) y r | none => false)
  | .ite t a b, e => (match asIf e with | some (t', a', b') => mE T sc fnl t t' && mE T sc fnl a a' && mE T sc fnl b b' | none => false)
  | .tup es, e => (match asTup e with | some l => mA T sc fnl es l | none => false)
  | .lst es, e => (match asLst e with | some l => mA T sc fnl es l | none => false)
  | .bag es, e => (match asLst e with | some l => mA T sc fnl es l | none => false)
  | .idx a b, e => (match asIx e with | some (l, r) => noSlice r && mE T sc fnl a l && mE T sc fnl b r | none => false)
  | .slc a lo hi, e => (match asIx e with | some (l, q) => mE T sc fnl a l && (match asSl q with | some (x, y) => mOpt (isNil lo) (mE T sc fnl lo) x && mOpt (isNil hi) (mE T sc fnl hi) y | none => false) | none => false)
  | .call k es, e => (match asCall e with | some (x, a, r) => decide (T.fns[k]? = some x) && globB sc x && !special x && mA T sc fnl es (a :: r) | none => false)
  | .bi b es, e => (match asCall e with | some (x, a, r) => x == biN b && globB sc x && (if b = .gcd then T.bims.contains x else T.free.contains x) && mA T sc fnl es (a :: r) | none => false)
  | .lc p vs it cond elt, e => (match asLc e with
    | some (e, tg, iter, ifs, scope) => blkC T.N sc scope (ownOf T.N vs) && subB p.slots vs && noSetE iter && itOk it tg && mE T sc fnl it iter && mPat T (relS scope sc) (inFn scope) p tg && mIfs (isNil cond) (mE T (relS scope sc) (inFn scope) cond) ifs && mE T (relS scope sc) (inFn scope) elt e
    | none => false)
  | .dcE p vs it cond key elt, e => (match asDc e with
    | some (k, e, tg, iter, ifs, scope) => blkC T.N sc scope (ownOf T.N vs) && subB p.slots vs && noSetE iter && itOk it tg && mE T sc fnl it iter && mPat T (relS scope sc) (inFn scope) p tg && mIfs (isNil cond) (mE T (relS scope sc) (inFn scope) cond) ifs && mE T (relS scope sc) (inFn scope) key k && mE T (relS scope sc) (inFn scope) elt e
    | none => false)
  | .lc2 p vs it cond p1 vs1 it1 cond1 elt, e => (match asLc2 e with
    | some (e, tg, iter, ifs, tg1, iter1, ifs1, scope) => blkC T.N sc scope (ownOf T.N vs) && subB p.slots vs && subB p1.slots vs1 && subB vs1 vs && noSetE iter && noSetE iter1 && itOk it tg && itOk it1 tg1 && mE T sc fnl it iter && mPat T (relS scope sc) (inFn scope) p tg && mIfs (isNil cond) (mE T (relS scope sc) (inFn scope) cond) ifs && mE T (relS scope sc) (inFn scope) it1 iter1 && mPat T (relS scope sc) (inFn scope) p1 tg1 && mIfs (isNil cond1) (mE T (relS scope sc) (inFn scope) cond1) ifs1 && mE T (relS scope sc) (inFn scope) elt e
    | none => false)
  | .rng1 es, e => (match asCall e with | some (x, a, []) => x == "range" && globB sc x && T.free.contains x && mA T sc fnl es [a] | _ => false)
  | .rng2 es, e => (match asCall e with | some (x, a, [b]) => x == "range" && globB sc x && T.free.contains x && mA T sc fnl es [a, b] | _ => false)
  | .srt t es, e => (match asCall e with | some (x, a, []) => x == "sorted" && globB sc x && T.free.contains x && mA T sc fnl es [a] | _ => false)
  | .srtSet es, e => (match asSrtSet e with | some a => globB sc "sorted" && globB sc "set" && T.free.contains "sorted" && T.free.contains "set" && mA T sc fnl es [a] | none => false)
  | .srtSetI es, e => (match asSrtSet e with | some a => globB sc "sorted" && globB sc "set" && T.free.contains "sorted" && T.free.contains "set" && mA T sc fnl es [a] | none => false)
  | .lrng x, e => (match asLrng e with | some a => globB sc "list" && globB sc "range" && T.free.contains "list" && T.free.contains "range" && noStar a && mE T sc fnl x a | none => false)
  | .combE es, e => (match asCall e with | some (x, a, [b]) => x == "combinations" && globB sc x && T.bims.contains "combinations" && mA T sc fnl es [a, b] | _ => false)
  | .tupS es, e => (match asTup e with | some l => mAS T sc fnl es l | none => false)
  | .lstS es, e => (match asLst e with | some l => mAS T sc fnl es l | none => false)
  | .star _ _, _ => false
  | .cnt a b, e => (match asCnt e with | some (o, x) => noBase o && noStar x && mE T sc fnl a o && mE T sc fnl b x | none => false)
  | .rep neg a b, e => (match asRep e with | some (n', x, y) => neg == n' && globB sc "repr" && T.free.contains "repr" && noStar x && noStar y && mE T sc fnl a x && mE T sc fnl b y | none => false)
  | .callK k n m pm es ks, e => (match asCallK e with
    | some (x, l, kws, _) => decide (T.fns[k]? = some x) && globB sc x && !special x && T.kcs.any (fun q => q.1 == k && q.2.1 == n && q.2.2.1.length == m && decide (q.2.2.1.map some = kwNames kws) && decide (q.2.2.2 = pm)) && decide (l.length = n) && mA T sc fnl es l && mA T sc fnl ks (kwVals kws)
    | none => false)
  | .best mx es, e => (match asBest e with | some (x, a) => x == (if mx then "max" else "min" : Str) && globB sc x && T.free.contains x && mA T sc fnl es [a] | none => false)
  | .enumE es, e => (match asCall e with | some (x, a, []) => x == "enumerate" && globB sc x && T.free.contains x && mA T sc fnl es [a] | _ => false)
  | .zipE es, e => (match asCall e with | some (x, a, [b]) => x == "zip" && globB sc x && T.free.contains x && mA T sc fnl es [a, b] | _ => false)
  | .fnv x, e => (match asNm e with | some y => x == y && globB sc x && !special x && T.fvs.contains x | none => false)
  | .callv i es, e => (match asCall e with | some (x, a, r) => decide (T.N[i]? = some x) && visB sc x && !special x && mA T sc fnl es (a :: r) | none => false)
  | .nil, _ => false
  | .cons _ _, _ => false
def mA (T : Ctx) (sc : Scope) (fnl : Str → Bool) : Ex → List Expr → Bool
  | .cons a r, es => (match es with | e :: es => noStar e && mE T sc fnl a e && mA T sc fnl r es | [] => false)
  | .nil, es => es.isEmpty
  | _, _ => false
/-- displays, stars too -/
def mAS (T : Ctx) (sc : Scope) (fnl : Str → Bool) : Ex → List Expr → Bool
  | .cons a r, es => (match es with | e :: es => noStar e && mE T sc fnl a e && mAS T sc fnl r es | [] => false)
  | .star a r, es => (match es with | .Starred e _ :: es => mE T sc fnl a e && mAS T sc fnl r es | _ => false)
  | .nil, es => es.isEmpty
  | _, _ => false
end
end Pv
set_option maxRecDepth 100000
set_option maxHeartbeats 4000000
/-! PvL: expressions of the small syntax are what they say -/
namespace Pv
open PySem PySem.Spec PyProof.Rows L2

theorem star_of {e : Expr} {es : List Expr} {env : Env} (h : noStar e = true) : starEach (e :: es) env = (false, eval e env) :: starEach es env := by
  cases e <;> first | rfl | (simp [noStar] at h)
theorem folded_of {e : Expr} {env : Env} (h : noSetE e = true) (x : Value) : foldedSetIterable e env x = pure x := by
  cases e <;> first | rfl | (simp [noSetE] at h)
theorem plainIx_of {b : Expr} (h : noSlice b = true) : PlainIx b := by
  intro o i
  cases b <;> first | rfl | (simp [noSlice] at h)
theorem mark_of {op : CmpOp} {b : Expr} (h : noSetE b = true) : behindInMarks op b = false := by
  cases b <;> first | rfl | (simp [noSetE] at h)
theorem swap_of {e : Expr} {t : Option Expr} {l : Nat} {env : Env} (h : noCompE e = true) : swapsWith e t l env = pure false := by
  cases e <;> first | rfl | (simp [noCompE] at h)
theorem mA_cons {T : Ctx} {sc : Scope} {fnl : Str → Bool} {ex : Ex} {e : Expr} {es : List Expr} (h : mA T sc fnl ex (e :: es) = true) : ∃ a r, ex = .cons a r ∧ noStar e = true ∧ mE T sc fnl a e = true ∧ mA T sc fnl r es = true := by
  cases ex <;> simp only [mA, Bool.and_eq_true, Bool.false_eq_true, List.isEmpty_cons] at h
  exact ⟨_, _, rfl, h.1.1, h.1.2, h.2⟩
theorem mA_star {T : Ctx} {sc : Scope} {fnl : Str → Bool} {env : Env} {pos : Pos} : ∀ {es : List Expr} {ex : Ex}, mA T sc fnl ex es = true → (backTo pos (starEach es env)).any (·.1) = false
  | [], _, _ => rfl
  | e :: es, ex, h => by
    obtain ⟨a, r, rfl, h1, h2, h3⟩ := mA_cons h
    rw [star_of h1]
    simp only [backTo, List.map_cons, List.any_cons, Bool.false_or]
    exact mA_star (pos := pos) h3

/-- a def's promise, where no repr is under way -/
structure FnOkG (P : Program) (w : World) (K : PySem.W.Frag) (mg : Str → Option Value) (base : Heap) (k : Nat) (f : Addr) (fd : FuncData) (ps : List Str) (sp : Sp) : Prop where
  len : ∀ (vs : List V) (H : Hp) (Q : VK) (E : XK), sp vs H Q E → vs.length = ps.length
  go : ∀ (A : Around) (stk : List Env) (s : Shared) (H : Hp) (as : Args) (us : List Value) (vs : List V) (Q : VK), Room k A → A.guards = some [] → Env0 P w K mg base A stk s H → BindsTo s fd as (ps.zip us) → Vals vs us → sp vs H Q E0 →
    codeAny (model P w) A (.call (.ref f) as) (CR CX0 stk P w H s Q E0) s
theorem run_fnG {X : Cx} {k : Nat} {f : Addr} {fd : FuncData} {ps : List Str} {sp : Sp} {pins : List (Addr × Obj)} {σ : L2.St} {H : Hp} {s : Shared} {Q : VK} {us : List Value} {vs : List V} (F : FnOkG X.prog X.w X.K X.mg X.base k f fd ps sp) (hr : Room k X.A) (hg : X.A.guards = some [])
    (hb : Binds X.K fd ps []) (I : Inv X pins σ H s) (r : Vals vs us) (h : sp vs H Q E0) : wpAny (model X.prog X.w) X.A (call (.ref f) us) (EP X pins σ Q) X.xe s := by
  have hl : us.length = ps.length := r.length.symm.trans (F.len vs H Q E0 h)
  have bt : BindsTo s fd ⟨us, []⟩ (ps.zip us) := by
    have z := hb s us I.kIn (by rw [List.append_nil]; exact hl)
    rwa [List.append_nil] at z
  have z := F.go X.A X.stack s H ⟨us, []⟩ us vs Q hr hg I.env0 bt r h
  exact wpAny_call (codeAny_mono z fun res s' y => by
    cases res with
    | error e => exact y.elim
    | ok fl => cases fl <;> first | exact I.after y | exact y.elim)
/-- a call by position and by name lays the values in order -/
def KwB (K : PySem.W.Frag) (fd : FuncData) (ps : List Str) (n : Nat) (ks : List Str) (pm : List Nat) : Prop :=
  pm.length = ps.length ∧ (∀ i ∈ pm, i < n + ks.length) ∧ ∀ (t : Shared) (us ws : List Value), K.In t.heap → us.length = n → ws.length = ks.length → BindsTo t fd ⟨us, ks.zip ws⟩ (ps.zip (pm.map fun i => (us ++ ws).getD i .none))
/-- a callee stands: what it promises, its place, its parameters -/
def Callee (c : Cn) (X : Cx) (f : Addr) (np : Nat) (F : Fn) : Prop := ∃ (lvl : Nat) (fd : FuncData) (ps : List Str), FnOkG X.prog X.w X.K X.mg X.base lvl f fd ps (spF c np F) ∧ Room lvl X.A ∧ PySem.W.keepIn X.K (.ref f) = true ∧ Binds X.K fd ps []
structure Fit (T : Ctx) (c : Cn) (Φ : Phi) (sc : Scope) (fnl : Str → Bool) (X : Cx) : Prop where
  K : X.K = c.K
  N : X.N = T.N
  nd : X.N.Nodup
  calm : X.calm = true
  sc : X.env.scope = sc
  un : X.A.units + 200 < cLine
  gd : X.A.guards = some []
  fnl : ∀ x, fnl x = true → X.fn x = true
  fn : ∀ (k : Nat) (x : Str) (np : Nat) (F : Fn), T.fns[k]? = some x → Φ.fns[k]? = some (np, F) → ∃ f, Callee c X f np F ∧ X.mg x = some (.ref f)
  fk : ∀ (k : Nat) (x : Str) (np : Nat) (F : Fn) (n : Nat) (ks : List Str) (pm : List Nat), T.fns[k]? = some x → Φ.fns[k]? = some (np, F) → (k, n, ks, pm) ∈ T.kcs → ∃ (f : Addr) (lvl : Nat) (fd : FuncData) (ps : List Str), FnOkG X.prog X.w X.K X.mg X.base lvl f fd ps (spF c np F) ∧ Room lvl X.A ∧ PySem.W.keepIn X.K (.ref f) = true ∧ KwB X.K fd ps n ks pm ∧ pm.length = np ∧ X.mg x = some (.ref f)
  named : ∀ (x : Str) (np : Nat) (F : Fn), Φ.named x = some (np, F) → Callee c X (c.fa x) np F
  fvs : ∀ x, T.fvs.contains x = true → X.mg x = some (.ref (c.fa x))
  clo : ∀ (i : Nat) (x : Str) (a k : Addr) (q : Str) (ws : List D) (us : List V) (np : Nat) (F : Fn), T.N[i]? = some x → Vis X.env.scope x → special x = false → Φ.clo a k q ws us = some (np, F) →
    ∀ (e : Expr) (es : List Expr) (p pos : Pos) (f : RX (List D)), PA X (e :: es) (tA c W0 f) → starEach (e :: es) X.env = (false, eval e X.env) :: starEach es X.env → (backTo pos (starEach es X.env)).any (·.1) = false →
      PE X (.Call (.Name x p) (e :: es) [] pos) (fun σ H Q => ∃ ρ δ G, SR c G H σ ρ ∧ DR c G H δ ∧ ρ[i]? = some (.v (.clo a k q ws us)) ∧ Post c (W0 σ) G H (callO F np f ρ δ) fun d G' H' => ∀ v, Rel c G' H' d v → Q v H')
  free : ∀ x, T.free.contains x = true → X.mg x = none
  gcd : T.bims.contains "gcd" = true → X.mg "gcd" = some (.builtin "math.gcd")
  comb : T.bims.contains "combinations" = true → X.mg "combinations" = some (.type "itertools.combinations")
  cons : ∀ p ∈ T.cons, ∃ u v, X.mg p.1 = some u ∧ RelV v u ∧ ∀ G H, Rel c G H p.2 v
  sq : T.st = true → c.st = true
theorem Fit.blk {T : Ctx} {c : Cn} {Φ : Phi} {sc : Scope} {fnl : Str → Bool} {X : Cx} (f : Fit T c Φ sc fnl X) (scope : Scope) (s : Shared) (H : Hp) (C : Addr) (cl : List (Str × Addr)) (fp : List Addr) :
    Fit T c Φ.bare (relS scope sc) (inFn scope) (X.blk s H scope (compEnvC scope cl C X.env) fp) where
  K := f.K
  N := f.N
  nd := f.nd
  calm := f.calm
  sc := by rw [← f.sc]; rfl
  un := f.un
  gd := f.gd
  fnl := fun x h => h
  fn := f.fn
  fk := f.fk
  named := f.named
  fvs := f.fvs
  clo := fun i x a k q ws us np F _ _ _ h => by cases h
  free := f.free
  gcd := f.gcd
  comb := f.comb
  cons := f.cons
  sq := f.sq
section
variable {T : Ctx} {c : Cn} {Φ : Phi} {sc : Scope} {fnl : Str → Bool} {X : Cx}
theorem Fit.gl (f : Fit T c Φ sc fnl X) {x : Str} (h : globB sc x = true) : Gl X x := by
  simp only [globB, decide_eq_true_eq] at h
  show X.env.scope.names.lookup x = _
  rw [f.sc]; exact h
theorem Fit.vis (f : Fit T c Φ sc fnl X) {x : Str} (h : visB sc x = true) : Vis X.env.scope x := by
  unfold visB at h
  unfold Vis
  rw [f.sc]
  split at h
  · rename_i e; exact .inl e
  · rename_i e; exact .inr (.inl e)
  · rename_i e; exact .inr (.inr e)
  · cases h
theorem special_of {x : Str} (h : special x = false) : (x == ("__debug__" : Str)) = false ∧ (x == ("__classdict__" : Str)) = false ∧ x ≠ ("__name__" : Str) := by
  simp only [special, Bool.or_eq_false_iff] at h
  exact ⟨h.1.1, h.1.2, fun e => by rw [e] at h; simp at h⟩
theorem Fit.loc (f : Fit T c Φ sc fnl X) {x : Str} (h : locB sc fnl x = true) : L2.Loc X.env.scope x ∧ (X.fn x = true ∨ X.env.scope.names.lookup x = some .local) := by
  unfold locB at h
  unfold L2.Loc
  rw [f.sc]
  split at h
  · rename_i e; exact ⟨.inl e, .inr e⟩
  · rename_i e; exact ⟨.inr e, .inl (f.fnl x h)⟩
  · cases h
theorem Fit.name (f : Fit T c Φ sc fnl X) {i : Nat} {x : Str} {pos : Pos} (h : decide (T.N[i]? = some x) = true) (h2 : locB sc fnl x = true) : PG X (.Name x pos) (gName i) := by
  obtain ⟨h3, h4⟩ := f.loc h2
  exact pg_name f.nd (by rw [f.N]; simpa using h) h3 h4
theorem Fit.names (f : Fit T c Φ sc fnl X) : ∀ {is : List Nat} {es : List Expr}, mNames T sc fnl is es = true → PGs X es (gNames is) ∧ (assignEach es X.env).length = is.length ∧ (assignEach es X.env).findIdx? (·.1) = none
  | [], [], _ => ⟨pgs_nil, rfl, rfl⟩
  | [], _ :: _, h => by simp [mNames] at h
  | i :: is, [], h => by simp [mNames] at h
  | i :: is, e :: es, h => by
    cases e <;> simp only [mNames, Bool.and_eq_true, Bool.false_eq_true] at h
    obtain ⟨h1, h2, h3⟩ := f.names h.2
    refine ⟨pgs_cons (f.name h.1.1 h.1.2) h1 rfl, by simp [assignEach, h2], ?_⟩
    simp [assignEach, List.findIdx?_cons, h3]
theorem Fit.pat (f : Fit T c Φ sc fnl X) {p : Pat} {e : Expr} (h : mPat T sc fnl p e = true) : PG X e (tP c p) := by
  cases p with
  | nm i =>
    cases e <;> simp only [mPat, Bool.and_eq_true, Bool.false_eq_true] at h
    exact pg_nmD (f.name h.1 h.2)
  | tp is =>
    cases e <;> simp only [mPat, Bool.false_eq_true] at h
    obtain ⟨h1, h2, h3⟩ := f.names h
    exact pg_tpD f.K (pg_tup f.calm h1 h2 h3)
theorem pt_noX {e : Expr} : PT X e (tT c W0 noX) := ⟨fun _ _ _ _ _ _ ⟨_, _, _, _, _, p⟩ => p.elim⟩
theorem pe_noX {e : Expr} : PE X e (tD c W0 noX) := ⟨fun _ _ _ _ _ _ ⟨_, _, _, _, _, p⟩ => p.elim⟩
theorem pi_noX {R : Per} {tg e : Expr} : PI X tg e (tI R c W0 noX) := ⟨fun _ _ _ _ _ _ ⟨_, _, _, _, _, p⟩ => p.elim⟩
theorem po_noX {e : Option Expr} : PO X e (tO c W0 noX) := ⟨fun _ _ _ _ _ _ ⟨_, _, _, _, _, p⟩ => p.elim⟩
theorem pa_noX {es : List Expr} : PA X es (tA c W0 noX) := ⟨fun _ _ _ _ _ _ _ ⟨_, _, _, _, _, p⟩ => p.elim⟩
def isBO : Expr → Bool
  | .BoolOp _ _ _ => true
  | _ => false
/-- all that is said of an expression -/
structure Good (c : Cn) (X : Cx) (e : Expr) (s : Sem6) (q : Expr → Bool) : Prop where
  d : PE X e (tD c W0 s.d)
  t : PT X e (tT c W0 s.t)
  i : ∀ tg, q tg = true → PI X tg e (tI Ext c W0 s.i)
  j : ∀ tg, q tg = true → PI X tg e (tI ExtS c W0 s.j)
  o : PO X (some e) (tO c W0 s.o)
  w : isBO e = true → PW X e (tT c W0 s.t)
theorem Good.val {q : Expr → Bool} {e : Expr} {d : RX D} (f : Fit T c Φ sc fnl X) (h : PE X e (tD c W0 d)) (he : ∀ whole, isTrue e X.env whole = (do let v ← whole; standAt e.pos; holding [v] (truthy v))) (hb : isBO e = false) : Good c X e (valS d) q :=
  ⟨h, pt_valD h he, fun tg _ => pi_itE f.K h, fun tg _ => pi_itS f.K h, po_someD h, fun h => by rw [hb] at h; cases h⟩
theorem Good.val' {q : Expr → Bool} {e : Expr} {d : RX D} {t : RX Bool} (f : Fit T c Φ sc fnl X) (h : PE X e (tD c W0 d)) (ht : PT X e (tT c W0 t)) (hw : isBO e = true → PW X e (tT c W0 t)) : Good c X e { valS d with t := t } q :=
  ⟨h, ht, fun tg _ => pi_itE f.K h, fun tg _ => pi_itS f.K h, po_someD h, hw⟩

/-! ### rules by name -/
theorem nn_ok {g : Value → Value → Sem Value} : OpR X g (rD2 c fun _ _ => none) := fun _ _ _ _ _ _ _ _ _ _ _ _ ⟨_, _, _, _, _, _, e, _⟩ => by cases e
theorem bin_ok (f : Fit T c Φ sc fnl X) (op : Operator) : OpR X (binaryOp op) (rD2 c (dBin op)) := by
  cases op
  case Add => exact op_addD f.K
  case Sub => exact op_subD
  case Mult => exact op_mulD
  case FloorDiv => exact op_divD
  case Mod => exact op_modD
  case Pow => exact op_powD
  case LShift => exact op_shlD
  case BitOr => exact op_orD
  case BitXor => exact op_xorD
  case BitAnd => exact op_andD
  all_goals exact nn_ok
theorem cmp_ok (f : Fit T c Φ sc fnl X) (op : CmpOp) : OpR X (compareOp op) (rD2 c (dCmp op)) := by
  have u := f.un
  cases op
  · exact op_eqDD f.K (by omega)
  · exact op_neDD f.K (by omega)
  · exact op_ltDD f.K (by omega)
  · exact op_leDD
  · exact op_gtDD
  · exact op_geDD
  · exact op_isDD
  · exact op_isnDD
  · exact op_inX f.K (by omega)
  · exact op_ninX f.K (by omega)
theorem chain_read {g g' : D → D → Option D} {fa fb fc : RX D} {σ : L2.St} {H : Hp} {Q : VK} (h : tD c W0 (chain2 g g' fa fb fc) σ H Q) : tChain (rD2 c g) (rD2 c g') (tD c W0 fa) (tD c W0 fb) (tD c W0 fc) σ H Q := by
  refine tG.first (f := fa) (k := fun x ρ δ1 => (fb ρ δ1).bind fun y δ2 => (ofO ((g x y).bind toB) δ2).bind fun k δ3 => if k then (fc ρ δ3).bind fun z δ4 => ofO (g' y z) δ4 else .ok (.bl false) δ3) h fun ρ x δ1 G1 H1 a1 p1 v rv => ?_
  refine ⟨ρ, δ1, G1, a1.sr, a1.dr, (Post.bind (k := fun y δ2 => (ofO ((g x y).bind toB) δ2).bind fun k δ3 => if k then (fc ρ δ3).bind fun z δ4 => ofO (g' y z) δ4 else .ok (.bl false) δ3) p1).mono fun y G2 H2 x2 ⟨δ2, d2, p2⟩ w rw' => ?_⟩
  cases e : g x y with
  | none => rw [e] at p2; exact p2.elim
  | some z =>
    cases e2 : toB z with
    | none => simp only [e, Option.bind_some, e2] at p2; exact p2.elim
    | some k =>
      simp only [e, Option.bind_some, e2] at p2
      refine ⟨G2, x, y, z, rv.ext x2, rw', e, fun zv H3 xn rz => ?_⟩
      rw [toB_some e2] at rz
      simp only [Rel] at rz
      refine ⟨k, rz, ?_⟩
      cases k with
      | false =>
        have p3 : Post c (W0 σ) G2 H2 (.ok (D.bl false) δ2) _ := p2
        exact Post.okN p3 d2 xn _ (by simp [Rel])
      | true =>
        have p3 : Post c (W0 σ) G2 H2 ((fc ρ δ2).bind fun z δ4 => ofO (g' y z) δ4) _ := p2
        have x3 := Ext.ofN (G := G2) xn
        refine ⟨ρ, δ2, G2, (a1.sr.ext x2).ext x3, d2.new xn, ((Post.bind p3).later x3).mono fun z' G4 H4 x4 ⟨δ4, d4, p4⟩ w' rw'' => ?_⟩
        obtain ⟨d', e4, p5⟩ := Post.ofO p4
        exact ⟨G4, y, z', d', (rw'.ext x3).ext x4, rw'', e4, fun z5 H5 xn5 rz5 => Post.okN p5 d4 xn5 z5 rz5⟩
end
end Pv
set_option maxRecDepth 100000
set_option maxHeartbeats 4000000
/-! PvM: expressions of the small syntax are what they say -/
namespace Pv
open PySem PySem.Spec PyProof.Rows L2
section
variable {T : Ctx} {c : Cn} {Φ : Phi} {sc : Scope} {fnl : Str → Bool} {X : Cx}
theorem _root_.L2.PW.imp {X : Cx} {e : Expr} {t t' : TT} (h : PW X e t) (i : ∀ σ H Q, t' σ H Q → t σ H Q) : PW X e t' := ⟨fun wh pins s σ H Q I hw => h.run wh pins s σ H Q I (i _ _ _ hw)⟩
theorem Fit.mg (f : Fit T c Φ sc fnl X) {x : Str} (h : T.free.contains x = true) : X.mg x = none := f.free x h
theorem list_getD_of {N : List Str} {i : Nat} {x : Str} (h : N[i]? = some x) : N.getD i "" = x := by simp [List.getD, h]
theorem own_ix {N : List Str} {vs : List Nat} : (ownOf N vs).map (·.2) = vs := by
  unfold ownOf
  rw [List.map_map]
  exact List.map_id _
theorem subB_of {a b : List Nat} (h : subB a b = true) : ∀ j ∈ a, j ∈ b := by
  simpa [subB] using h
theorem lastMarks_of {o1 o2 : CmpOp} {m r : Expr} (h1 : noSetE m = true) (h2 : noSetE r = true) : lastMarks [o1, o2] [m, r] = false := by
  unfold lastMarks
  first | exact mark_of h2 | (simp [mark_of h2])
theorem bi_ok (f : Fit T c Φ sc fnl X) {b : Bi} {x : Str} {a : Expr} {r : List Expr} {q p : Pos} {t : RX (List D)} (hx : x = biN b) (hg : globB sc x = true) (hm : (if b = .gcd then T.bims.contains x else T.free.contains x) = true)
    (ha : PA X (a :: r) (tA c W0 t)) (hs : starEach (a :: r) X.env = (false, eval a X.env) :: starEach r X.env) (hp : (backTo p (starEach r X.env)).any (·.1) = false) : PE X (.Call (.Name x q) (a :: r) [] p) (tD c W0 (callF (biG b) t)) := by
  subst hx
  have g := f.gl hg
  cases b
  case gcd => exact (pe_callBfun call_gcdD g (f.gcd hm) ha (by decide) hs hp).imp fun _ _ _ h => tA.call h
  all_goals have m := f.mg (x := _) hm
  case len => exact (pe_callB (call_lenD f.K) g m rfl ha (by decide) (by decide) hs hp).imp fun _ _ _ h => tA.call h
  case abs => exact (pe_callB call_absD g m rfl ha (by decide) (by decide) hs hp).imp fun _ _ _ h => tA.call h
  case int => exact (pe_callTy call_intD g m rfl ha (by decide) (by decide) hs hp).imp fun _ _ _ h => tA.call h
  case all => exact (pe_callB (call_allD f.calm) g m rfl ha (by decide) (by decide) hs hp).imp fun _ _ _ h => tA.call h
  case any => exact (pe_callB (call_anyD f.calm) g m rfl ha (by decide) (by decide) hs hp).imp fun _ _ _ h => tA.call h
  case sum => exact (pe_callB (call_sumD f.calm) g m rfl ha (by decide) (by decide) hs hp).imp fun _ _ _ h => tA.call h
  case max => exact (pe_callB (call_max2D f.calm) g m rfl ha (by decide) (by decide) hs hp).imp fun _ _ _ h => tA.call h
  case min => exact (pe_callB (call_min2D f.calm) g m rfl ha (by decide) (by decide) hs hp).imp fun _ _ _ h => tA.call h
  case tuple => exact (pe_callTy (call_tupleD f.K) g m rfl ha (by decide) (by decide) hs hp).imp fun _ _ _ h => tA.call h
  case list => exact (pe_callTy (call_listD f.K) g m rfl ha (by decide) (by decide) hs hp).imp fun _ _ _ h => tA.call h
  case divmod => exact (pe_callB call_divmodD g m rfl ha (by decide) (by decide) hs hp).imp fun _ _ _ h => tA.call h
  case minT => exact (pe_callB (call_minTD f.K f.calm (by have := f.un; omega)) g m rfl ha (by decide) (by decide) hs hp).imp fun _ _ _ h => tA.call h
  case srtK => exact (pe_callB (call_sortK f.calm) g m rfl ha (by decide) (by decide) hs hp).imp fun _ _ _ h => tA.call h
  case listK => exact (pe_callTy (call_listK f.calm) g m rfl ha (by decide) (by decide) hs hp).imp fun _ _ _ h => tA.call h
  case isi => exact (pe_callB (call_isiD f.K) g m rfl ha (by decide) (by decide) hs hp).imp fun _ _ _ h => tA.call h
theorem ty_ok (f : Fit T c Φ sc fnl X) {n : String} {pos : Pos} (hk : tyKnown n = true) (hg : globB sc (Str.ofString n) = true) (hm : T.free.contains (Str.ofString n) = true) : PE X (.Name (Str.ofString n) pos) (tD c W0 fun _ δ => .ok (.ty n) δ) := by
  have g := f.gl hg
  have m := f.mg hm
  have hn : n = "int" ∨ n = "bool" ∨ n = "str" ∨ n = "tuple" ∨ n = "list" := by
    simp only [tyKnown, Bool.or_eq_true, beq_iff_eq] at hk
    rcases hk with (((k | k) | k) | k) | k <;> simp [k]
  rcases hn with rfl | rfl | rfl | rfl | rfl
  · exact pe_constD (pe_bltn (v := V.ty "int") g m rfl rfl (by decide) (by decide)) (fun G H => by simp only [Rel])
  · exact pe_constD (pe_bltn (v := V.ty "bool") g m rfl rfl (by decide) (by decide)) (fun G H => by simp only [Rel])
  · exact pe_constD (pe_bltn (v := V.ty "str") g m rfl rfl (by decide) (by decide)) (fun G H => by simp only [Rel])
  · exact pe_constD (pe_bltn (v := V.ty "tuple") g m rfl rfl (by decide) (by decide)) (fun G H => by simp only [Rel])
  · exact pe_constD (pe_bltn (v := V.ty "list") g m rfl rfl (by decide) (by decide)) (fun G H => by simp only [Rel])
/-- what stands to be shown of a piece of the small syntax -/
structure LOk (T : Ctx) (c : Cn) (Φ : Phi) (sc : Scope) (fnl : Str → Bool) (X : Cx) (ex : Ex) : Prop where
  a : ∀ es, mA T sc fnl ex es = true → PA X es (tA c W0 (sem Φ ex).a)
  s : ∀ es, mAS T sc fnl ex es = true → PA X es (tA c W0 (sem Φ ex).a)
  k : ∀ kws, mA T sc fnl ex (kwVals kws) = true → PK X kws (tA c W0 (sem Φ ex).a)
def EOk (T : Ctx) (c : Cn) (ex : Ex) : Prop := ∀ (Φ : Phi) (sc : Scope) (fnl : Str → Bool) (X : Cx), Fit T c Φ sc fnl X → (∀ e, mE T sc fnl ex e = true → Good c X e (sem Φ ex) (itOk ex)) ∧ LOk T c Φ sc fnl X ex
theorem nilOf {ex : Ex} (h : isNil ex = true) : ex = .nil := by cases ex <;> simp [isNil] at h; rfl
theorem EOk.ifs {ex : Ex} (h : EOk T c ex) (f : Fit T c Φ sc fnl X) {ifs : List Expr} (hm : mIfs (isNil ex) (mE T sc fnl ex) ifs = true) : PTs X ifs (tT c W0 (sem Φ ex).t) := by
  unfold mIfs at hm
  split at hm
  · rw [nilOf hm]
    exact ⟨fun pins s σ H Q I ⟨ρ, δ, G, sr, dr, p⟩ => pts_nil.run pins s σ H Q I (Post.okIn p dr)⟩
  · simp only [Bool.and_eq_true] at hm
    exact pts_one ((h Φ sc fnl X f).1 _ hm.2).t
  · cases hm
theorem EOk.opt {ex : Ex} (h : EOk T c ex) (f : Fit T c Φ sc fnl X) {e : Option Expr} (hm : mOpt (isNil ex) (mE T sc fnl ex) e = true) : PO X e (tO c W0 (sem Φ ex).o) := by
  unfold mOpt at hm
  split at hm
  · rw [nilOf hm]
    exact po_noneD
  · simp only [Bool.and_eq_true] at hm
    exact ((h Φ sc fnl X f).1 _ hm.2).o
theorem noA {Φ : Phi} {sc : Scope} {fnl : Str → Bool} {X : Cx} {ex : Ex} (h : ∀ es, mA T sc fnl ex es = false ∧ mAS T sc fnl ex es = false) : LOk T c Φ sc fnl X ex :=
  ⟨fun es e => absurd e (by rw [(h es).1]; decide), fun es e => absurd e (by rw [(h es).2]; decide), fun es e => absurd e (by rw [(h _).1]; decide)⟩
theorem pkA_nil : PK X [] (tA c W0 nilA) := ⟨fun pos pins s σ H Q I h => (pk_nil (X := X)).run pos pins s σ H Q I (by
  obtain ⟨ρ, δ, G, sr, dr, p⟩ := h
  exact Post.okIn p dr [] (by simp [RelA]))⟩
theorem pkA_cons {e : Expr} {kws : List Keyword} {nm : Option Str} {kp : Pos} {f : RX D} {g : RX (List D)} (ha : PE X e (tD c W0 f)) (hr : PK X kws (tA c W0 g)) : PK X (⟨nm, e, kp⟩ :: kws) (tA c W0 (consA f g)) :=
  ⟨fun pos pins s σ H Q I h => (pk_cons (nm := nm) (kpos := kp) ha hr).run pos pins s σ H Q I (tA.cons h)⟩
theorem pw_tail {ex : Ex} {pos : Pos} {op : BoolOp} {y : Expr} {r : List Expr} (h : ∀ e, mE T sc fnl ex e = true → Good c X e (sem Φ ex) (itOk ex)) (hm : mTail pos op (mE T sc fnl ex) y r = true) : PW X (.BoolOp op (y :: r) pos) (tT c W0 (sem Φ ex).t) ∧ PE X (.BoolOp op (y :: r) pos) (tD c W0 (sem Φ ex).d) := by
  cases r with
  | nil =>
    have g := h _ hm
    exact ⟨by cases op; exact pw_and1 g.t; exact pw_or1 g.t, pe_one g.d⟩
  | cons z r =>
    have g := h _ hm
    exact ⟨g.w rfl, g.d⟩
theorem pe_callG {lvl : Nat} {fa : Addr} {fd : FuncData} {ps : List Str} {np : Nat} {F : Fn} {x : Str} {a : Expr} {r : List Expr} {q p : Pos} {t : RX (List D)} (F1 : FnOkG X.prog X.w X.K X.mg X.base lvl fa fd ps (spF c np F)) (rm : Room lvl X.A) (gd : X.A.guards = some [])
    (hg : Gl X x) (m : X.mg x = some (.ref fa)) (kp : PySem.W.keepIn X.K (.ref fa) = true) (bd : Binds X.K fd ps []) (ha : PA X (a :: r) (tA c W0 t)) (hd : (x == ("__debug__" : Str)) = false) (hs : starEach (a :: r) X.env = (false, eval a X.env) :: starEach r X.env)
    (hp : (backTo p (starEach r X.env)).any (·.1) = false) : PE X (.Call (.Name x q) (a :: r) [] p) (tD c W0 (callO F np t)) := by
  refine ⟨fun pins s σ H Q I h => wpAny_Call_Name_kw (ld_glob I hg m ?_ hd)⟩
  have h2 : tCall (spF c np F) [] E0 (tA c W0 t) σ H Q := tA.callO (fun _ _ _ _ z => z) h
  refine PySem.W.callWith_K (h₀ := X.base) I.ok.mod.kin kp (thn (ha.run p pins s σ H _ I h2) fun us s2 ⟨vs, H2, I2, rr, qq⟩ => ⟨I2.kIn, ?_⟩) hs hp
  have q2 : spF c np F (vs ++ []) H2 Q E0 := qq
  rw [List.append_nil] at q2
  exact run_fnG F1 rm gd bd I2 rr q2
theorem call_ok (f : Fit T c Φ sc fnl X) {k : Nat} {x : Str} {a : Expr} {r : List Expr} {q p : Pos} {t : RX (List D)} (hk : T.fns[k]? = some x) (hg : globB sc x = true) (hsp : special x = false)
    (ha : PA X (a :: r) (tA c W0 t)) (hs : starEach (a :: r) X.env = (false, eval a X.env) :: starEach r X.env) (hp : (backTo p (starEach r X.env)).any (·.1) = false) : PE X (.Call (.Name x q) (a :: r) [] p) (tD c W0 (callP Φ k t)) := by
  unfold callP
  cases e : Φ.fns[k]? with
  | none => exact pe_noX
  | some nf =>
    obtain ⟨np, F⟩ := nf
    obtain ⟨fa, ⟨lvl, fd, ps, F1, rm, kp, bd⟩, m⟩ := f.fn k x np F hk e
    exact pe_callG F1 rm f.gd (f.gl hg) m kp bd ha (special_of hsp).1 hs hp
/-- a name that holds a def is called -/
theorem pe_callVar {f : Addr} {np : Nat} {F : Fn} {i : Nat} {x : Str} {a : Expr} {r : List Expr} {q p : Pos} {t : RX (List D)} (C : Callee c X f np F) (gd : X.A.guards = some []) (hv : PE X (.Name x q) (tVar i))
    (ha : PA X (a :: r) (tA c W0 t)) (hs : starEach (a :: r) X.env = (false, eval a X.env) :: starEach r X.env) (hp : (backTo p (starEach r X.env)).any (·.1) = false) :
    PE X (.Call (.Name x q) (a :: r) [] p) (fun σ H Q => σ[i]? = some (some (.ref f)) ∧ tD c W0 (callO F np t) σ H Q) := by
  obtain ⟨lvl, fd, ps, F1, rm, kp, bd⟩ := C
  refine ⟨fun pins s σ H Q I ⟨h1, h⟩ => ?_⟩
  refine wpAny_Call_Name_kw (thn (hv.run pins s σ H (fun v H1 => v = .ref f ∧ H1 = H) I ⟨.ref f, h1, rfl, rfl⟩) fun u s1 ⟨v, H1, I1, r1, q1⟩ => ?_)
  obtain ⟨ev, eH⟩ := q1
  subst ev
  subst eH
  obtain rfl : u = Value.ref f := r1
  have h2 : tCall (spF c np F) [] E0 (tA c W0 t) σ H1 Q := tA.callO (fun _ _ _ _ z => z) h
  refine PySem.W.callWith_K (h₀ := X.base) I1.ok.mod.kin kp (thn (ha.run p pins s1 σ H1 _ I1 h2) fun us s2 ⟨vs, H2, I2, r, q⟩ => ⟨I2.kIn, ?_⟩) hs hp
  have q2 : spF c np F (vs ++ []) H2 Q E0 := q
  rw [List.append_nil] at q2
  exact run_fnG F1 rm gd bd I2 r q2
theorem callV_ok (f : Fit T c Φ sc fnl X) {i : Nat} {x : Str} {a : Expr} {r : List Expr} {q p : Pos} {t : RX (List D)} (hi : T.N[i]? = some x) (hv : visB sc x = true) (hsp : special x = false)
    (ha : PA X (a :: r) (tA c W0 t)) (hs : starEach (a :: r) X.env = (false, eval a X.env) :: starEach r X.env) (hp : (backTo p (starEach r X.env)).any (·.1) = false) : PE X (.Call (.Name x q) (a :: r) [] p) (tD c W0 (callV Φ i t)) := by
  refine ⟨fun pins s σ H Q I ⟨ρ, δ, G, sr, dr, po⟩ => ?_⟩
  unfold callV at po
  have vis := f.vis hv
  split at po
  · rename_i A k q0 ws us e
    split at po
    · rename_i np F e2
      refine (f.clo i x A k q0 ws us np F hi vis hsp e2 a r q p t ha hs hp).run pins s σ H Q I ⟨ρ, δ, G, sr, dr, e, po⟩
    · exact po.elim
  · rename_i y e
    split at po
    · rename_i np F e2
      obtain ⟨_, v, e3, rv⟩ := sr.sl i _ e
      simp only [Rel] at rv
      subst rv
      exact (pe_callVar (f.named y np F e2) f.gd (pe_var (by rw [f.N]; exact hi) vis (special_of hsp).1 (special_of hsp).2.1) ha hs hp).run pins s σ H Q I ⟨e3, ρ, δ, G, sr, dr, po⟩
    · exact po.elim
  · exact po.elim
theorem base_of {o : Expr} {m : Str} {env : Env} (h : noBase o = true) : attributeBase o m env (eval o env) = eval o env := by
  cases o <;> first | rfl | (simp [noBase] at h)
theorem kw_back {pos : Pos} {env : Env} : ∀ kws : List Keyword, (backToKw pos (keywordEach kws env)).map (·.1) = kwNames kws
  | [] => rfl
  | ⟨n, v, p⟩ :: kws => by
    have := kw_back (pos := pos) (env := env) kws
    simp only [keywordEach, backToKw, List.map_cons, kwNames] at this ⊢
    rw [this]
theorem relL_picks {G : List Addr} {H : Hp} {ds : List D} {vs : List V} (ra : RelL c G H ds vs) : ∀ {pm : List Nat}, (∀ i ∈ pm, i < ds.length) → RelL c G H (pm.map fun i => ds.getD i .non) (pm.map fun i => vs.getD i .non)
  | [], _ => by simp [RelL]
  | i :: pm, h => by
    have hi := h i (List.mem_cons_self ..)
    obtain ⟨v, e1, e2, e3⟩ := ra.get (List.getElem?_eq_getElem hi)
    have ih := relL_picks ra (pm := pm) fun j hj => h j (List.mem_cons_of_mem _ hj)
    simp only [List.map_cons, RelL]
    refine ⟨v, _, ?_, ?_, ?_, ih⟩
    · rw [List.getD_eq_getElem?_getD, e1]; rfl
    · rw [List.getD_eq_getElem?_getD, List.getElem?_eq_getElem hi]; exact e2
    · rw [List.getD_eq_getElem?_getD, List.getElem?_eq_getElem hi]; exact e3
theorem callK_read {F : Fn} {np n : Nat} {ks : List Str} {pm : List Nat} {f g : RX (List D)} {σ : L2.St} {H : Hp} {Q : VK} (hl : pm.length = np) (hp : ∀ i ∈ pm, i < n + ks.length) (h : tD c W0 (callKO F n ks.length pm f g) σ H Q) :
    tA c W0 f σ H fun vs H1 => tA c W0 g σ H1 fun zs H2 => vs.length = n ∧ zs.length = ks.length ∧ spF c np F (pm.map fun i => (vs ++ zs).getD i .non) H2 Q E0 := by
  refine tG.first (f := f) (k := fun ds ρ δ1 => (g ρ δ1).bind fun es δ2 => if ds.length = n ∧ es.length = ks.length ∧ ds.all D.strong = true ∧ es.all D.strong = true then F (pm.map fun i => (ds ++ es).getD i .non) δ2 else .no) h fun ρ ds δ1 G1 H1 a1 p1 vs rv => ?_
  refine ⟨ρ, δ1, G1, a1.sr, a1.dr, (Post.bind p1).mono fun es G2 H2 x2 ⟨δ2, d2, p2⟩ zs rz => ?_⟩
  split at p2
  · rename_i hh
    obtain ⟨h1, h2, h3, h4⟩ := hh
    have rl := RelA.strong (rv.ext x2) h3
    have rz' := RelA.strong rz h4
    have ra := rl.append rz'
    refine ⟨by rw [rl.length, h1], by rw [rz'.length, h2], G2, pm.map fun i => (ds ++ es).getD i .non, δ2, relL_picks ra fun i hi => by rw [List.length_append, h1, h2]; exact hp i hi, d2, by rw [List.length_map, hl], p2⟩
  · exact p2.elim
theorem vals_picks {vs : List V} {us : List Value} (r : Vals vs us) : ∀ {pm : List Nat}, (∀ i ∈ pm, i < vs.length) → Vals (pm.map fun i => vs.getD i .non) (pm.map fun i => us.getD i .none)
  | [], _ => .nil
  | i :: pm, h => by
    refine .cons ?_ (vals_picks r fun j hj => h j (List.mem_cons_of_mem _ hj))
    have hi := h i (List.mem_cons_self ..)
    clear h
    induction r generalizing i with
    | nil => simp at hi
    | cons r1 r2 ih =>
      cases i with
      | zero => exact r1
      | succ i => exact ih i (by simpa using hi)
theorem callK_ok (f : Fit T c Φ sc fnl X) {k n m : Nat} {ks : List Str} {pm : List Nat} {x : Str} {l : List Expr} {kws : List Keyword} {p q : Pos} {es : Ex} {t g : RX (List D)} (hk : T.fns[k]? = some x) (hg : globB sc x = true) (hsp : special x = false) (hq : (k, n, ks, pm) ∈ T.kcs) (hm : ks.length = m)
    (hks : ks.map some = kwNames kws) (hn : l.length = n) (ha : PA X l (tA c W0 t)) (hma : mA T sc fnl es l = true) (ht : l = [] → t = nilA) (hw : PK X kws (tA c W0 g)) : PE X (.Call (.Name x q) l kws p) (tD c W0 (callKP Φ k n m pm t g)) := by
  subst hm
  unfold callKP
  cases e : Φ.fns[k]? with
  | none => exact pe_noX
  | some nf =>
    obtain ⟨np, F⟩ := nf
    obtain ⟨fa, lvl, fd, ps, F1, rm, kp, ⟨kb1, kb2, kb3⟩, hpl, mg⟩ := f.fk k x np F n ks pm hk e hq
    have hb := kw_back (pos := p) (env := X.env) kws
    rw [← hks] at hb
    have hall : (backToKw p (keywordEach kws X.env)).all (·.1.isSome) = true := by
      have : ((backToKw p (keywordEach kws X.env)).map (·.1)).all (·.isSome) = true := by rw [hb]; simp
      simpa [List.all_map] using this
    have hnone : (backToKw p (keywordEach kws X.env)).any (·.1.isNone) = false := by
      have : ((backToKw p (keywordEach kws X.env)).map (·.1)).any (·.isNone) = false := by rw [hb]; simp
      simpa [List.any_map] using this
    have hfm : (backToKw p (keywordEach kws X.env)).filterMap (·.1) = ks := by
      have : ((backToKw p (keywordEach kws X.env)).map (·.1)).filterMap id = ks := by rw [hb]; simp [List.filterMap_map]
      simpa [List.filterMap_map] using this
    have fin : ∀ {pins : List (Addr × Obj)} {σ : L2.St} {H : Hp} {s : Shared} {Q : VK} {us ws : List Value} {vs zs : List V}, Inv X pins σ H s → Vals vs us → Vals zs ws → vs.length = n → zs.length = ks.length → spF c np F (pm.map fun i => (vs ++ zs).getD i .non) H Q E0 →
        wpAny (model X.prog X.w) X.A (call (.ref fa) us (ks.zip ws)) (EP X pins σ Q) X.xe s := fun {pins σ H s Q us ws vs zs} I r1 r2 l1 l2 hsp => by
      have rr := vals_picks (r1.append r2) (pm := pm) fun i hi => by rw [List.length_append, l1, l2]; exact kb2 i hi
      have z := F1.go X.A X.stack s H ⟨us, ks.zip ws⟩ _ _ Q rm f.gd I.env0 (kb3 s us ws I.kIn (r1.length.symm.trans l1) (r2.length.symm.trans l2)) rr hsp
      exact wpAny_call (codeAny_mono z fun res s' y => by
        cases res with
        | error e => exact y.elim
        | ok fl => cases fl <;> first | exact I.after y | exact y.elim)
    refine ⟨fun pins s σ H Q I h => wpAny_Call_Name_kw (ld_glob I (f.gl hg) mg ?_ (special_of hsp).1)⟩
    have h2 := callK_read (ks := ks) hpl kb2 h
    cases l with
    | nil =>
      refine PySem.W.callWith_KW0 (h₀ := X.base) I.ok.mod.kin kp hall ?_ (by simp [hnone, starEach, backTo])
      rw [ht rfl] at h2
      obtain ⟨ρ, δ, G, sr, dr, po⟩ := h2
      have q1 := Post.okIn po dr [] (by simp [RelA])
      refine thn (hw.run p pins s σ H _ I q1) fun ws s2' ⟨zs, H2, I2, r2, l1, l2, q2⟩ => ⟨I2.kIn, ?_⟩
      rw [hfm]
      exact fin I2 .nil r2 l1 l2 q2
    | cons e l =>
      obtain ⟨a', r', rfl, s1, s2, s3⟩ := mA_cons hma
      refine PySem.W.callWith_KW (h₀ := X.base) I.ok.mod.kin kp hall (thn (ha.run p pins s σ H _ I h2) fun us s1' ⟨vs, H1, I1, r1, q1⟩ => ?_) (by rw [mA_star hma, hnone]; rfl) (star_of s1)
      refine thn (hw.run p pins s1' σ H1 _ I1 q1) fun ws s2' ⟨zs, H2, I2, r2, l1, l2, q2⟩ => ⟨I2.kIn, ?_⟩
      rw [hfm]
      exact fin I2 r1 r2 l1 l2 q2
theorem eOk (T : Ctx) (c : Cn) (ex : Ex) : EOk T c ex := by
  induction ex with
  | non =>
    refine fun Φ sc fnl X f => ⟨fun e h => ?_, noA fun _ => ⟨rfl, rfl⟩⟩
    simp only [mE] at h
    split at h
    · rename_i q; obtain ⟨a, p, rfl⟩ := asK_of q
      exact Good.val f (pe_constD pe_non fun G H => by simp only [Rel]) (fun _ => rfl) rfl
    · cases h
  | bl b =>
    refine fun Φ sc fnl X f => ⟨fun e h => ?_, noA fun _ => ⟨rfl, rfl⟩⟩
    simp only [mE] at h
    split at h
    · rename_i q; obtain ⟨a, p, rfl⟩ := asK_of q
      obtain rfl := eq_of_beq h
      exact Good.val f (pe_constD pe_bl fun G H => by simp only [Rel]) (fun _ => rfl) rfl
    · cases h
  | int b =>
    refine fun Φ sc fnl X f => ⟨fun e h => ?_, noA fun _ => ⟨rfl, rfl⟩⟩
    simp only [mE] at h
    split at h
    · rename_i q; obtain ⟨a, p, rfl⟩ := asK_of q
      obtain rfl := eq_of_beq h
      exact Good.val f (pe_constD pe_int fun G H => by simp only [Rel]) (fun _ => rfl) rfl
    · cases h
  | str b =>
    refine fun Φ sc fnl X f => ⟨fun e h => ?_, noA fun _ => ⟨rfl, rfl⟩⟩
    simp only [mE] at h
    split at h
    · rename_i q; obtain ⟨a, p, rfl⟩ := asK_of q
      obtain rfl := eq_of_beq h
      exact Good.val f (pe_constD pe_str fun G H => by simp only [Rel]) (fun _ => rfl) rfl
    · cases h
  | tyn n =>
    refine fun Φ sc fnl X f => ⟨fun e h => ?_, noA fun _ => ⟨rfl, rfl⟩⟩
    simp only [mE] at h
    split at h
    · rename_i q; obtain ⟨p, rfl⟩ := asNm_of q
      simp only [Bool.and_eq_true, beq_iff_eq] at h
      obtain ⟨⟨⟨rfl, h2⟩, h3⟩, h4⟩ := h
      exact Good.val f (ty_ok f h2 h3 h4) (fun _ => rfl) rfl
    · cases h
  | glo x d =>
    refine fun Φ sc fnl X f => ⟨fun e h => ?_, noA fun _ => ⟨rfl, rfl⟩⟩
    simp only [mE] at h
    split at h
    · rename_i q; obtain ⟨p, rfl⟩ := asNm_of q
      simp only [Bool.and_eq_true, beq_iff_eq, Bool.not_eq_true', List.any_eq_true] at h
      obtain ⟨⟨⟨rfl, h2⟩, h3⟩, pr, h4, h5, h6⟩ := h
      obtain ⟨u, v, m, rv, rl⟩ := f.cons _ h4
      rw [h5] at m
      have := D.beq_eq h6
      exact Good.val f (pe_constD (pe_glob (f.gl h2) m rv (special_of h3).1) fun G H => this ▸ rl G H) (fun _ => rfl) rfl
    · cases h
  | srt t es ih =>
    refine fun Φ sc fnl X f => ⟨fun e h => ?_, noA fun _ => ⟨rfl, rfl⟩⟩
    simp only [mE] at h
    split at h
    · rename_i q; obtain ⟨q, p, rfl⟩ := asCall_of q
      simp only [Bool.and_eq_true, beq_iff_eq] at h
      obtain ⟨⟨⟨rfl, h2⟩, h3⟩, h4⟩ := h
      obtain ⟨_, _, rfl, s1, s2, s3⟩ := mA_cons h4
      have u := f.un
      exact Good.val f ((pe_callB (call_sortedD f.K (by omega) t) (f.gl h2) (f.mg h3) rfl ((ih Φ sc fnl X f).2.a _ h4) (by decide) (by decide) (star_of s1) rfl).imp fun _ _ _ h => tA.call h) (fun _ => rfl) rfl
    · cases h
  | srtSet es ih =>
    refine fun Φ sc fnl X f => ⟨fun e h => ?_, noA fun _ => ⟨rfl, rfl⟩⟩
    simp only [mE] at h
    split at h
    · rename_i q; obtain ⟨p1, p2, p3, p4, rfl⟩ := asSrtSet_of q
      simp only [Bool.and_eq_true] at h
      obtain ⟨⟨⟨⟨h1, h2⟩, h3⟩, h4⟩, h5⟩ := h
      obtain ⟨_, _, rfl, s1, s2, s3⟩ := mA_cons h5
      have u := f.un
      exact Good.val f (pe_sortSetD f.K f.calm (by omega) (f.gl h1) (f.mg h3) (f.gl h2) (f.mg h4) ((ih Φ sc fnl X f).2.a _ h5) (star_of s1)) (fun _ => rfl) rfl
    · cases h
  | srtSetI es ih =>
    refine fun Φ sc fnl X f => ⟨fun e h => ?_, noA fun _ => ⟨rfl, rfl⟩⟩
    simp only [mE] at h
    split at h
    · rename_i q; obtain ⟨p1, p2, p3, p4, rfl⟩ := asSrtSet_of q
      simp only [Bool.and_eq_true] at h
      obtain ⟨⟨⟨⟨h1, h2⟩, h3⟩, h4⟩, h5⟩ := h
      obtain ⟨_, _, rfl, s1, s2, s3⟩ := mA_cons h5
      have u := f.un
      exact Good.val f (pe_sortSetI f.calm (f.gl h1) (f.mg h3) (f.gl h2) (f.mg h4) ((ih Φ sc fnl X f).2.a _ h5) (star_of s1)) (fun _ => rfl) rfl
    · cases h
  | lrng x ih =>
    refine fun Φ sc fnl X f => ⟨fun e h => ?_, noA fun _ => ⟨rfl, rfl⟩⟩
    simp only [mE] at h
    split at h
    · rename_i q; obtain ⟨p1, p2, p3, p4, rfl⟩ := asLrng_of q
      simp only [Bool.and_eq_true] at h
      obtain ⟨⟨⟨⟨⟨h1, h2⟩, h3⟩, h4⟩, h5⟩, h6⟩ := h
      exact Good.val f (pe_lrngD f.calm (f.gl h1) (f.mg h3) (f.gl h2) (f.mg h4) ((ih Φ sc fnl X f).1 _ h6).d (star_of h5)) (fun _ => rfl) rfl
    · cases h
  | combE es ih =>
    refine fun Φ sc fnl X f => ⟨fun e h => ?_, noA fun _ => ⟨rfl, rfl⟩⟩
    simp only [mE] at h
    split at h
    · rename_i q; obtain ⟨q, p, rfl⟩ := asCall_of q
      simp only [Bool.and_eq_true, beq_iff_eq] at h
      obtain ⟨⟨⟨rfl, h2⟩, h3⟩, h4⟩ := h
      obtain ⟨_, _, rfl, s1, s2, s3⟩ := mA_cons h4
      exact ⟨pe_noX, pt_noX, fun tg _ => pi_combD (fun _ _ _ _ x => x.toS) (fun _ _ => Ext.refl) f.K (f.gl h2) (f.comb h3) ((ih Φ sc fnl X f).2.a _ h4) (star_of s1) (mA_star s3), fun tg _ => pi_combD (fun _ _ _ _ x => x) (fun _ _ => ExtS.refl) f.K (f.gl h2) (f.comb h3) ((ih Φ sc fnl X f).2.a _ h4) (star_of s1) (mA_star s3), po_noX, fun h => by cases h⟩
    · cases h
  | best mx es ih =>
    refine fun Φ sc fnl X f => ⟨fun e h => ?_, noA fun _ => ⟨rfl, rfl⟩⟩
    simp only [mE] at h
    split at h
    · rename_i q; obtain ⟨p1, k, p2, p3, p4, rfl⟩ := asBest_of q
      simp only [Bool.and_eq_true, beq_iff_eq] at h
      obtain ⟨⟨⟨rfl, h2⟩, h3⟩, h4⟩ := h
      obtain ⟨_, _, rfl, s1, s2, s3⟩ := mA_cons h4
      have u := f.un
      exact Good.val f (pe_bestD f.K f.calm (by omega) (f.gl h2) (f.mg h3) ((ih Φ sc fnl X f).2.a _ h4) (star_of s1)) (fun _ => rfl) rfl
    · cases h
  | enumE es ih =>
    refine fun Φ sc fnl X f => ⟨fun e h => ?_, noA fun _ => ⟨rfl, rfl⟩⟩
    simp only [mE] at h
    split at h
    · rename_i q; obtain ⟨q, p, rfl⟩ := asCall_of q
      simp only [Bool.and_eq_true, beq_iff_eq] at h
      obtain ⟨⟨⟨rfl, h2⟩, h3⟩, h4⟩ := h
      obtain ⟨_, _, rfl, s1, s2, s3⟩ := mA_cons h4
      refine ⟨pe_noX, pt_noX, fun tg ht => ?_, fun tg ht => ?_, po_noX, fun h => by cases h⟩
      · cases tg <;> simp only [itOk, isTg, Bool.false_eq_true] at ht
        exact pi_enumD (fun _ _ _ _ x => x.toS) (fun _ _ => Ext.refl) f.K (f.gl h2) (f.mg h3) ((ih Φ sc fnl X f).2.a _ h4) (star_of s1)
      · cases tg <;> simp only [itOk, isTg, Bool.false_eq_true] at ht
        exact pi_enumD (fun _ _ _ _ x => x) (fun _ _ => ExtS.refl) f.K (f.gl h2) (f.mg h3) ((ih Φ sc fnl X f).2.a _ h4) (star_of s1)
    · cases h
  | zipE es ih =>
    refine fun Φ sc fnl X f => ⟨fun e h => ?_, noA fun _ => ⟨rfl, rfl⟩⟩
    simp only [mE] at h
    split at h
    · rename_i q; obtain ⟨q, p, rfl⟩ := asCall_of q
      simp only [Bool.and_eq_true, beq_iff_eq] at h
      obtain ⟨⟨⟨rfl, h2⟩, h3⟩, h4⟩ := h
      obtain ⟨_, _, rfl, s1, s2, s3⟩ := mA_cons h4
      refine ⟨pe_noX, pt_noX, fun tg ht => ?_, fun tg ht => ?_, po_noX, fun h => by cases h⟩
      · cases tg <;> simp only [itOk, isTg, Bool.false_eq_true] at ht
        exact pi_zipDD (fun _ _ _ _ x => x.toS) (fun _ _ => Ext.refl) f.K (f.gl h2) (f.mg h3) ((ih Φ sc fnl X f).2.a _ h4) (star_of s1) (mA_star s3)
      · cases tg <;> simp only [itOk, isTg, Bool.false_eq_true] at ht
        exact pi_zipDD (fun _ _ _ _ x => x) (fun _ _ => ExtS.refl) f.K (f.gl h2) (f.mg h3) ((ih Φ sc fnl X f).2.a _ h4) (star_of s1) (mA_star s3)
    · cases h
  | fnv x =>
    refine fun Φ sc fnl X f => ⟨fun e h => ?_, noA fun _ => ⟨rfl, rfl⟩⟩
    simp only [mE] at h
    split at h
    · rename_i q; obtain ⟨p, rfl⟩ := asNm_of q
      simp only [Bool.and_eq_true, beq_iff_eq, Bool.not_eq_true'] at h
      obtain ⟨⟨⟨rfl, h2⟩, h3⟩, h4⟩ := h
      exact Good.val f (pe_constD (pe_glob (v := .ref (c.fa x)) (f.gl h2) (f.fvs x h4) rfl (special_of h3).1) fun G H => by simp only [Rel]) (fun _ => rfl) rfl
    · cases h
  | callv i es ih =>
    refine fun Φ sc fnl X f => ⟨fun e h => ?_, noA fun _ => ⟨rfl, rfl⟩⟩
    simp only [mE] at h
    split at h
    · rename_i q; obtain ⟨q, p, rfl⟩ := asCall_of q
      simp only [Bool.and_eq_true, decide_eq_true_eq, Bool.not_eq_true'] at h
      obtain ⟨⟨⟨h1, h2⟩, h3⟩, h4⟩ := h
      obtain ⟨_, _, rfl, s1, s2, s3⟩ := mA_cons h4
      exact Good.val f (callV_ok f h1 h2 h3 ((ih Φ sc fnl X f).2.a _ h4) (star_of s1) (mA_star s3)) (fun _ => rfl) rfl
    · cases h
  | var i =>
    refine fun Φ sc fnl X f => ⟨fun e h => ?_, noA fun _ => ⟨rfl, rfl⟩⟩
    simp only [mE] at h
    split at h
    · rename_i q; obtain ⟨p, rfl⟩ := asNm_of q
      simp only [Bool.and_eq_true, decide_eq_true_eq, Bool.not_eq_true'] at h
      obtain ⟨⟨h1, h2⟩, h3⟩ := h
      exact Good.val f (pe_varD (pe_var (by rw [f.N]; exact h1) (f.vis h2) (special_of h3).1 (special_of h3).2.1)) (fun _ => rfl) rfl
    · cases h
  | bin op a b iha ihb =>
    refine fun Φ sc fnl X f => ⟨fun e h => ?_, noA fun _ => ⟨rfl, rfl⟩⟩
    simp only [mE] at h
    split at h
    · rename_i q; obtain ⟨p, rfl⟩ := asBin_of q
      simp only [Bool.and_eq_true, decide_eq_true_eq] at h
      obtain ⟨⟨rfl, h2⟩, h3⟩ := h
      exact Good.val f (pe_opD (bin_ok f op) ((iha Φ sc fnl X f).1 _ h2).d ((ihb Φ sc fnl X f).1 _ h3).d) (fun _ => rfl) rfl
    · cases h
  | neg a iha =>
    refine fun Φ sc fnl X f => ⟨fun e h => ?_, noA fun _ => ⟨rfl, rfl⟩⟩
    simp only [mE] at h
    split at h
    · rename_i q; obtain ⟨p, rfl⟩ := asNeg_of q
      exact Good.val f (pe_negD ((iha Φ sc fnl X f).1 _ h).d) (fun _ => rfl) rfl
    · cases h
  | not a iha =>
    refine fun Φ sc fnl X f => ⟨fun e h => ?_, noA fun _ => ⟨rfl, rfl⟩⟩
    simp only [mE] at h
    split at h
    · rename_i q; obtain ⟨p, rfl⟩ := asNot_of q
      have g := (iha Φ sc fnl X f).1 _ h
      exact Good.val' f ((pe_not g.d).imp fun _ _ _ h => tD.not h) ((pt_not g.t).imp fun _ _ _ h => tT.not h) (fun h => by cases h)
    · cases h
  | cmp op a b iha ihb =>
    refine fun Φ sc fnl X f => ⟨fun e h => ?_, noA fun _ => ⟨rfl, rfl⟩⟩
    simp only [mE] at h
    split at h
    · rename_i q; obtain ⟨p, rfl⟩ := asCmp_of q
      simp only [Bool.and_eq_true, decide_eq_true_eq] at h
      obtain ⟨⟨⟨rfl, h1⟩, h2⟩, h3⟩ := h
      have ga := ((iha Φ sc fnl X f).1 _ h2).d
      have gb := ((ihb Φ sc fnl X f).1 _ h3).d
      exact Good.val' f (pe_cmpD (cmp_ok f op) ga gb (mark_of h1)) (pt_cmpD (cmp_ok f op) ga gb (mark_of h1)) (fun h => by cases h)
    · cases h
  | cmp2 o1 o2 a b d iha ihb ihc =>
    refine fun Φ sc fnl X f => ⟨fun e h => ?_, noA fun _ => ⟨rfl, rfl⟩⟩
    simp only [mE] at h
    split at h
    · rename_i q; obtain ⟨p, rfl⟩ := asCmp2_of q
      simp only [Bool.and_eq_true, decide_eq_true_eq] at h
      obtain ⟨⟨⟨⟨⟨⟨rfl, rfl⟩, h1⟩, h2⟩, h3⟩, h4⟩, h5⟩ := h
      have ga := ((iha Φ sc fnl X f).1 _ h3).d
      have gb := ((ihb Φ sc fnl X f).1 _ h4).d
      have gc := ((ihc Φ sc fnl X f).1 _ h5).d
      exact Good.val' f ((pe_chain (cmp_ok f o1) (cmp_ok f o2) ga gb gc (lastMarks_of h1 h2)).imp fun _ _ _ h => chain_read h)
        ((pt_chain (cmp_ok f o1) (cmp_ok f o2) ga gb gc (lastMarks_of h1 h2)).imp fun σ H Q h => by
          have h1 := tT.val h
          exact chain_read h1) (fun h => by cases h)
    · cases h
  | and a b iha ihb =>
    refine fun Φ sc fnl X f => ⟨fun e h => ?_, noA fun _ => ⟨rfl, rfl⟩⟩
    simp only [mE] at h
    split at h
    · rename_i q; obtain rfl := asAnd_of q
      simp only [Bool.and_eq_true] at h
      have ga := (iha Φ sc fnl X f).1 _ h.1
      obtain ⟨w, d⟩ := pw_tail (ihb Φ sc fnl X f).1 h.2
      have pw := (pw_and ga.t w).imp fun _ _ _ h => tT.and h
      exact Good.val' f ((pe_and ga.d d).imp fun _ _ _ h => tD.and h) pw.pt (fun _ => pw)
    · cases h
  | or a b iha ihb =>
    refine fun Φ sc fnl X f => ⟨fun e h => ?_, noA fun _ => ⟨rfl, rfl⟩⟩
    simp only [mE] at h
    split at h
    · rename_i q; obtain rfl := asOr_of q
      simp only [Bool.and_eq_true] at h
      have ga := (iha Φ sc fnl X f).1 _ h.1
      obtain ⟨w, d⟩ := pw_tail (ihb Φ sc fnl X f).1 h.2
      have pw := (pw_or ga.t w).imp fun _ _ _ h => tT.or h
      exact Good.val' f ((pe_or ga.d d).imp fun _ _ _ h => tD.or h) pw.pt (fun _ => pw)
    · cases h
  | ite t a b iht iha ihb =>
    refine fun Φ sc fnl X f => ⟨fun e h => ?_, noA fun _ => ⟨rfl, rfl⟩⟩
    simp only [mE] at h
    split at h
    · rename_i q; obtain ⟨p, rfl⟩ := asIf_of q
      simp only [Bool.and_eq_true] at h
      exact Good.val' f (pe_ifD ((iht Φ sc fnl X f).1 _ h.1.1).t ((iha Φ sc fnl X f).1 _ h.1.2).d ((ihb Φ sc fnl X f).1 _ h.2).d) pt_noX (fun h => by cases h)
    · cases h
  | tup es ih =>
    refine fun Φ sc fnl X f => ⟨fun e h => ?_, noA fun _ => ⟨rfl, rfl⟩⟩
    simp only [mE] at h
    split at h
    · rename_i q; obtain ⟨k, p, rfl⟩ := asTup_of q
      exact Good.val f (pe_tupD ((ih Φ sc fnl X f).2.a _ h)) (fun _ => rfl) rfl
    · cases h
  | lst es ih =>
    refine fun Φ sc fnl X f => ⟨fun e h => ?_, noA fun _ => ⟨rfl, rfl⟩⟩
    simp only [mE] at h
    split at h
    · rename_i q; obtain ⟨p, rfl⟩ := asLst_of q
      exact Good.val f (pe_lstD ((ih Φ sc fnl X f).2.a _ h)) (fun _ => rfl) rfl
    · cases h
  | bag es ih =>
    refine fun Φ sc fnl X f => ⟨fun e h => ?_, noA fun _ => ⟨rfl, rfl⟩⟩
    simp only [mE] at h
    split at h
    · rename_i q; obtain ⟨p, rfl⟩ := asLst_of q
      exact Good.val f (pe_bagD ((ih Φ sc fnl X f).2.a _ h)) (fun _ => rfl) rfl
    · cases h
  | idx a b iha ihb =>
    refine fun Φ sc fnl X f => ⟨fun e h => ?_, noA fun _ => ⟨rfl, rfl⟩⟩
    simp only [mE] at h
    split at h
    · rename_i q; obtain ⟨p, rfl⟩ := asIx_of q
      simp only [Bool.and_eq_true] at h
      exact Good.val f (pe_idxF f.K ((iha Φ sc fnl X f).1 _ h.1.2).d ((ihb Φ sc fnl X f).1 _ h.2).d (plainIx_of h.1.1)) (fun _ => rfl) rfl
    · cases h
  | slc a lo hi iha ihl ihh =>
    refine fun Φ sc fnl X f => ⟨fun e h => ?_, noA fun _ => ⟨rfl, rfl⟩⟩
    simp only [mE] at h
    split at h
    · rename_i q; obtain ⟨p, rfl⟩ := asIx_of q
      simp only [Bool.and_eq_true] at h
      obtain ⟨h1, h2⟩ := h
      split at h2
      · rename_i q2; obtain ⟨p2, rfl⟩ := asSl_of q2
        simp only [Bool.and_eq_true] at h2
        exact Good.val f (pe_slcD f.K ((iha Φ sc fnl X f).1 _ h1).d (ihl.opt f h2.1) (ihh.opt f h2.2)) (fun _ => rfl) rfl
      · cases h2
    · cases h
  | call k es ih =>
    refine fun Φ sc fnl X f => ⟨fun e h => ?_, noA fun _ => ⟨rfl, rfl⟩⟩
    simp only [mE] at h
    split at h
    · rename_i q; obtain ⟨q, p, rfl⟩ := asCall_of q
      simp only [Bool.and_eq_true, decide_eq_true_eq, Bool.not_eq_true'] at h
      obtain ⟨⟨⟨h1, h2⟩, h3⟩, h4⟩ := h
      obtain ⟨_, _, rfl, s1, s2, s3⟩ := mA_cons h4
      exact Good.val f (call_ok f h1 h2 h3 ((ih Φ sc fnl X f).2.a _ h4) (star_of s1) (mA_star s3)) (fun _ => rfl) rfl
    · cases h
  | bi b es ih =>
    refine fun Φ sc fnl X f => ⟨fun e h => ?_, noA fun _ => ⟨rfl, rfl⟩⟩
    simp only [mE] at h
    split at h
    · rename_i q; obtain ⟨q, p, rfl⟩ := asCall_of q
      simp only [Bool.and_eq_true, beq_iff_eq] at h
      obtain ⟨⟨⟨h1, h2⟩, h3⟩, h4⟩ := h
      obtain ⟨_, _, rfl, s1, s2, s3⟩ := mA_cons h4
      exact Good.val f (bi_ok f h1 h2 h3 ((ih Φ sc fnl X f).2.a _ h4) (star_of s1) (mA_star s3)) (fun _ => rfl) rfl
    · cases h
  | lc p vs it cond elt ih1 ih2 ih3 =>
    refine fun Φ sc fnl X f => ⟨fun e h => ?_, noA fun _ => ⟨rfl, rfl⟩⟩
    simp only [mE] at h
    split at h
    · rename_i e0 tg iter ifs scope q; obtain ⟨pp, rfl⟩ := asLc_of q
      simp only [Bool.and_eq_true] at h
      obtain ⟨⟨⟨⟨⟨⟨⟨h1, h2⟩, h3⟩, hq⟩, h4⟩, h5⟩, h6⟩, h7⟩ := h
      refine Good.val f ?_ (fun _ => rfl) rfl
      have := pe_lcD (c := c) (pos := pp) (p := p) f.calm f.nd (((ih1 Φ sc fnl X f).1 _ h4).i tg hq) (by rw [f.N, f.sc]; exact blkOk_by h1) (fun s H C cl fp => (f.blk scope s H C cl fp).pat h5) (fun s H C cl fp => ih2.ifs (f.blk scope s H C cl fp) h6)
        (fun s H C cl fp => ((ih3 _ _ _ _ (f.blk scope s H C cl fp)).1 _ h7).d) (by rw [own_ix]; exact subB_of h2) (fun x => folded_of h3 x)
      rw [own_ix] at this
      exact this
    · cases h
  | dcE p vs it cond key elt ih1 ih2 ih3 ih4 =>
    refine fun Φ sc fnl X f => ⟨fun e h => ?_, noA fun _ => ⟨rfl, rfl⟩⟩
    simp only [mE] at h
    split at h
    · rename_i k0 e0 tg iter ifs scope q; obtain ⟨pp, rfl⟩ := asDc_of q
      simp only [Bool.and_eq_true] at h
      obtain ⟨⟨⟨⟨⟨⟨⟨⟨h1, h2⟩, h3⟩, hq⟩, h4⟩, h5⟩, h6⟩, h7⟩, h8⟩ := h
      refine Good.val f ?_ (fun _ => rfl) rfl
      have := pe_dcD (c := c) (pos := pp) (p := p) f.calm f.nd (((ih1 Φ sc fnl X f).1 _ h4).i tg hq) (by rw [f.N, f.sc]; exact blkOk_by h1) (fun s H C cl fp => (f.blk scope s H C cl fp).pat h5) (fun s H C cl fp => ih2.ifs (f.blk scope s H C cl fp) h6)
        (fun s H C cl fp => ((ih3 _ _ _ _ (f.blk scope s H C cl fp)).1 _ h7).d) (fun s H C cl fp => ((ih4 _ _ _ _ (f.blk scope s H C cl fp)).1 _ h8).d) (by rw [own_ix]; exact subB_of h2) (fun x => folded_of h3 x)
      rw [own_ix] at this
      exact this
    · cases h
  | lc2 p vs it cond p1 vs1 it1 cond1 elt ih1 ih2 ih3 ih4 ih5 =>
    refine fun Φ sc fnl X f => ⟨fun e h => ?_, noA fun _ => ⟨rfl, rfl⟩⟩
    simp only [mE] at h
    split at h
    · rename_i e0 tg iter ifs tg1 iter1 ifs1 scope q; obtain ⟨pp, rfl⟩ := asLc2_of q
      simp only [Bool.and_eq_true] at h
      obtain ⟨⟨⟨⟨⟨⟨⟨⟨⟨⟨⟨⟨⟨⟨h1, h2⟩, h3⟩, h4⟩, h5⟩, h6⟩, hq⟩, hq1⟩, h7⟩, h8⟩, h9⟩, h10⟩, h11⟩, h12⟩, h13⟩ := h
      refine Good.val f ?_ (fun _ => rfl) rfl
      have := pe_lc2 (pos := pp) (vs1 := vs1) f.calm f.nd (((ih1 Φ sc fnl X f).1 _ h7).j tg hq) (by rw [f.N, f.sc]; exact blkOk_by h1) (by rw [own_ix]; exact subB_of h4) (fun s H C cl fp => (f.blk scope s H C cl fp).pat (c := c) h8) (fun s H C cl fp => ih2.ifs (f.blk scope s H C cl fp) h9)
        (fun s H C cl fp => ((ih3 _ _ _ _ (f.blk scope s H C cl fp)).1 _ h10).j tg1 hq1) (fun s H C cl fp => (f.blk scope s H C cl fp).pat (c := c) h11) (fun s H C cl fp => ih4.ifs (f.blk scope s H C cl fp) h12)
        (fun s H C cl fp => ((ih5 _ _ _ _ (f.blk scope s H C cl fp)).1 _ h13).d) (fun x => folded_of h5 x) (fun env x => folded_of h6 x)
      rw [own_ix] at this
      exact (pe_frz this).imp fun σ H Q h => lc2_read (subB_of h2) (subB_of h3) h
    · cases h
  | nil =>
    refine fun Φ sc fnl X f => ⟨fun e h => by simp only [mE, Bool.false_eq_true] at h, fun es h => ?_, fun es h => ?_, fun kws h => ?_⟩
    · cases es with
      | nil => exact pa_nilD
      | cons a es => simp [mA] at h
    · cases es with
      | nil => exact pa_nilD
      | cons a es => simp [mAS] at h
    · cases kws with
      | nil => exact pkA_nil
      | cons a es => simp [mA, kwVals] at h
  | cons a r iha ihr =>
    refine fun Φ sc fnl X f => ⟨fun e h => by simp only [mE, Bool.false_eq_true] at h, fun es h => ?_, fun es h => ?_, fun kws h => ?_⟩
    · cases es with
      | nil => simp [mA] at h
      | cons e es =>
        obtain ⟨_, _, e0, s1, s2, s3⟩ := mA_cons h
        cases e0
        exact pa_consD ((iha Φ sc fnl X f).1 _ s2).d ((ihr Φ sc fnl X f).2.a _ s3) (star_of s1)
    · cases es with
      | nil => simp [mAS] at h
      | cons e es =>
        simp only [mAS, Bool.and_eq_true] at h
        exact pa_consD ((iha Φ sc fnl X f).1 _ h.1.2).d ((ihr Φ sc fnl X f).2.s _ h.2) (star_of h.1.1)
    · cases kws with
      | nil => simp [mA, kwVals] at h
      | cons e es =>
        obtain ⟨nm, v, kp⟩ := e
        obtain ⟨_, _, e0, s1, s2, s3⟩ := mA_cons (show mA T sc fnl (.cons a r) (v :: kwVals es) = true from h)
        cases e0
        exact pkA_cons ((iha Φ sc fnl X f).1 _ s2).d ((ihr Φ sc fnl X f).2.k _ s3)
  | star a r iha ihr =>
    refine fun Φ sc fnl X f => ⟨fun e h => by simp only [mE, Bool.false_eq_true] at h, fun es h => by simp [mA] at h, fun es h => ?_, fun es h => by simp [mA] at h⟩
    cases es with
    | nil => simp [mAS] at h
    | cons e es =>
      cases e <;> simp only [mAS, Bool.and_eq_true, Bool.false_eq_true] at h
      exact pa_starD f.K ((iha Φ sc fnl X f).1 _ h.1).d ((ihr Φ sc fnl X f).2.s _ h.2)
  | tupS es ih =>
    refine fun Φ sc fnl X f => ⟨fun e h => ?_, noA fun _ => ⟨rfl, rfl⟩⟩
    simp only [mE] at h
    split at h
    · rename_i q; obtain ⟨k, p, rfl⟩ := asTup_of q
      exact Good.val f (pe_tupD ((ih Φ sc fnl X f).2.s _ h)) (fun _ => rfl) rfl
    · cases h
  | lstS es ih =>
    refine fun Φ sc fnl X f => ⟨fun e h => ?_, noA fun _ => ⟨rfl, rfl⟩⟩
    simp only [mE] at h
    split at h
    · rename_i q; obtain ⟨p, rfl⟩ := asLst_of q
      exact Good.val f (pe_lstD ((ih Φ sc fnl X f).2.s _ h)) (fun _ => rfl) rfl
    · cases h
  | cnt a b iha ihb =>
    refine fun Φ sc fnl X f => ⟨fun e h => ?_, noA fun _ => ⟨rfl, rfl⟩⟩
    simp only [mE] at h
    split at h
    · rename_i q; obtain ⟨ap, p, rfl, hl⟩ := asCnt_of q
      simp only [Bool.and_eq_true] at h
      obtain ⟨⟨⟨h0, h1⟩, h2⟩, h3⟩ := h
      have u := f.un
      exact Good.val f ((pe_bm PySem.F.plainAttrs_list PySem.F.slot_list_count PySem.F.type_list_count (mt_countD f.K (by omega)) ((iha Φ sc fnl X f).1 _ h2).d (pa_cons ((ihb Φ sc fnl X f).1 _ h3).d pa_nil (star_of h1)) (base_of h0) (by rw [star_of h1]; rfl) hl (star_of h1) rfl).imp fun _ _ _ h => cnt_read h) (fun _ => rfl) rfl
    · cases h
  | rep neg a b iha ihb =>
    refine fun Φ sc fnl X f => ⟨fun e h => ?_, noA fun _ => ⟨rfl, rfl⟩⟩
    simp only [mE] at h
    split at h
    · rename_i q; obtain ⟨p1, p2, p3, p4, p5, rfl⟩ := asRep_of q
      simp only [Bool.and_eq_true, beq_iff_eq] at h
      obtain ⟨⟨⟨⟨⟨⟨rfl, h1⟩, h2⟩, h3⟩, h4⟩, h5⟩, h6⟩ := h
      have u := f.un
      have ga := ((iha Φ sc fnl X f).1 _ h5).d
      have gb := ((ihb Φ sc fnl X f).1 _ h6).d
      exact Good.val' f (pe_repD f.K f.gd (by omega) (f.gl h1) (f.mg h2) ga gb (star_of h3) (star_of h4)) (pt_repD f.K f.gd (by omega) (f.gl h1) (f.mg h2) ga gb (star_of h3) (star_of h4)) (fun h => by cases h)
    · cases h
  | callK k n m pm es ks ihe ihk =>
    refine fun Φ sc fnl X f => ⟨fun e h => ?_, noA fun _ => ⟨rfl, rfl⟩⟩
    simp only [mE] at h
    split at h
    · rename_i x l kws p q; obtain ⟨q0, rfl⟩ := asCallK_of q
      simp only [Bool.and_eq_true, decide_eq_true_eq, Bool.not_eq_true', List.any_eq_true, beq_iff_eq] at h
      obtain ⟨⟨⟨⟨⟨⟨h1, h2⟩, h3⟩, ⟨k', n', ks', pm'⟩, hq, ⟨⟨⟨rfl, rfl⟩, hm⟩, hks⟩, rfl⟩, hn⟩, h4⟩, h5⟩ := h
      exact Good.val f (callK_ok f h1 h2 h3 hq hm hks hn ((ihe Φ sc fnl X f).2.a _ h4) h4 (fun e => by subst e; cases es <;> simp [mA] at h4; rfl) ((ihk Φ sc fnl X f).2.k _ h5)) (fun _ => rfl) rfl
    · cases h
  | rng1 es ih =>
    refine fun Φ sc fnl X f => ⟨fun e h => ?_, noA fun _ => ⟨rfl, rfl⟩⟩
    simp only [mE] at h
    split at h
    · rename_i q; obtain ⟨q, p, rfl⟩ := asCall_of q
      simp only [Bool.and_eq_true, beq_iff_eq] at h
      obtain ⟨⟨⟨rfl, h2⟩, h3⟩, h4⟩ := h
      obtain ⟨_, _, rfl, s1, s2, s3⟩ := mA_cons h4
      exact ⟨pe_noX, pt_noX, fun tg _ => pi_rng1D (f.gl h2) (f.mg h3) ((ih Φ sc fnl X f).2.a _ h4) (star_of s1), fun tg _ => pi_rng1D (f.gl h2) (f.mg h3) ((ih Φ sc fnl X f).2.a _ h4) (star_of s1), po_noX, fun h => by cases h⟩
    · cases h
  | rng2 es ih =>
    refine fun Φ sc fnl X f => ⟨fun e h => ?_, noA fun _ => ⟨rfl, rfl⟩⟩
    simp only [mE] at h
    split at h
    · rename_i q; obtain ⟨q, p, rfl⟩ := asCall_of q
      simp only [Bool.and_eq_true, beq_iff_eq] at h
      obtain ⟨⟨⟨rfl, h2⟩, h3⟩, h4⟩ := h
      obtain ⟨_, _, rfl, s1, s2, s3⟩ := mA_cons h4
      obtain ⟨_, _, rfl, u1, u2, u3⟩ := mA_cons s3
      have z1 : ∀ es, starEach (_ :: es) X.env = _ := fun es => star_of (es := es) (env := X.env) s1
      have z2 := star_of (es := []) (env := X.env) u1
      exact ⟨pe_noX, pt_noX, fun tg _ => pi_rng2D (f.gl h2) (f.mg h3) ((ih Φ sc fnl X f).2.a _ h4) (by rw [z1, z2]; rfl) z2, fun tg _ => pi_rng2D (f.gl h2) (f.mg h3) ((ih Φ sc fnl X f).2.a _ h4) (by rw [z1, z2]; rfl) z2, po_noX, fun h => by cases h⟩
    · cases h
end
end Pv
set_option maxRecDepth 100000
set_option maxHeartbeats 4000000
/-! PvN: a small syntax of statements -/
namespace Pv
open PySem PySem.Spec PyProof.Rows L2

def swC (sc : Scope) (scope : Scope) (vl : Nat) : Expr → Bool
  | .Name t pos => sc.names.lookup t == some .local && pos.line == vl && !(scope.names.any fun (n, k) => n == t && (k == .local || k == .cell))
  | _ => false
def swB (sc : Scope) (tg : Expr) : Expr → Bool
  | .ListComp _ _ s p => swC sc s p.line tg
  | .SetComp _ _ s p => swC sc s p.line tg
  | .DictComp _ _ _ s p => swC sc s p.line tg
  | _ => false
theorem kind_fn {env : Env} (hk : env.scope.kind = .function) : env.blockKind = .function := by
  unfold Env.blockKind
  rw [hk]; rfl
theorem swB_of {env : Env} {tg value : Expr} {line : Nat} (hk : env.scope.kind = .function) : swapsWith value (some tg) line env = pure (swB env.scope tg value) := by
  have hb := kind_fn hk
  cases value <;> first | rfl | skip
  all_goals cases tg <;> first | rfl | skip
  all_goals
    show (pure (env.blockKind == ScopeKind.function && _ && _ && _) : Sem Bool) = _
    rw [hb]
    rfl
def swNames (sc : Scope) (line : Nat) (ts : List Expr) : List Str := ts.filterMap fun
  | .Name id pos => if sc.names.lookup id == some .local && pos.line == line then some id else none
  | _ => none
def swT (sc : Scope) (ts vs : List Expr) : Option (Option (List Str)) :=
    if !(ts.length == 2 || ts.length == 3) || vs.length != ts.length then some none
    else if vs.any fun | .Starred .. => true | _ => false then some none
    else if (swNames sc ((ts.head?.map (·.pos.line)).getD 0) ts).length != ts.length || (swNames sc ((ts.head?.map (·.pos.line)).getD 0) ts).eraseDups.length != (swNames sc ((ts.head?.map (·.pos.line)).getD 0) ts).length then some none
    else if vs.all (foldedForSure 8) then some none
    else if vs.all (constantsAlone 8) then none
    else some (some (swNames sc ((ts.head?.map (·.pos.line)).getD 0) ts))
def swS (sc : Scope) (tg value : Expr) : Option (Option (List Str)) := match tg with
  | .Tuple ts _ _ => match value with
    | .Tuple vs _ _ => swT sc ts vs
    | _ => some none
  | .List ts _ => match value with
    | .Tuple vs _ _ => swT sc ts vs
    | _ => some none
  | _ => some none
theorem swchain {b1 b2 b3 b4 b5 : Bool} {nm : List Str} {u : Sem Unit} {r : Option (List Str)} (h : (if b1 then some none else if b2 then some none else if b3 then some none else if b4 then some none else if b5 then none else some (some nm)) = some r) :
    (if b1 = true then pure none else if b2 = true then pure none else if b3 = true then pure none else if b4 = true then pure none else if b5 = true then (do u; pure (some nm)) else pure (some nm) : Sem (Option (List Str))) = pure r := by
  cases b1 <;> cases b2 <;> cases b3 <;> cases b4 <;> cases b5 <;> simp at h <;> subst h <;> rfl
theorem swT_of {env : Env} {ts vs : List Expr} {k k2 : Nat} {p p2 : Pos} {r : Option (List Str)} (hk : env.scope.kind = .function) (h : swT env.scope ts vs = some r) : swappedStores [.Tuple ts k p] (.Tuple vs k2 p2) env = pure r := by
  have hb := kind_fn hk
  have e : ((env.blockKind != ScopeKind.function) : Bool) = false := by rw [hb]; rfl
  unfold swappedStores
  simp only [e, Bool.or_false]
  exact swchain h
theorem swS_of {env : Env} {tg value : Expr} {r : Option (List Str)} (hk : env.scope.kind = .function) (ht : ∀ ts p, tg ≠ .List ts p) (h : swS env.scope tg value = some r) : swappedStores [tg] value env = pure r := by
  cases tg <;> first | exact absurd rfl (ht _ _) | skip
  all_goals try (simp only [swS, Option.some.injEq] at h; subst h; rfl)
  cases value <;> first | exact swT_of hk h | (simp only [swS, Option.some.injEq] at h; subst h; rfl)
end Pv
set_option maxRecDepth 100000
set_option maxHeartbeats 4000000
/-! PvO: statements of the small syntax are what they say -/
namespace Pv
open PySem PySem.Spec PyProof.Rows L2

inductive Sm where
  | nil | seq (s r : Sm) | frz (i : Nat) (r : Sm)
  | skip | bk | ct
  | asg (p : Pat) (e : Ex) | setLc (i : Nat) (p : Pat) (vs : List Nat) (it cond elt : Ex)
  | new (i : Nat) (es : Ex) | newL (i : Nat) (e : Ex)
  | mpar (is : List Nat) (ims : List (Bool × Ex))
  | ite (t : Ex) (a b : Sm) | fo (p : Pat) (it : Ex) (b : Sm) | wh (t : Ex) (n : Nat) (b : Sm)
  | ret (e : Ex) | retN | drop (e : Ex)
  | app (i : Nat) (e : Ex) | ext (i : Nat) (e : Ex)
  | bag (i : Nat) (k : Int) (e : Ex) | bag2 (i : Nat) (k : Int) (m : Nat) (e : Ex)
  | setLc2 (i : Nat) (p : Pat) (vs : List Nat) (it cond : Ex) (p1 : Pat) (vs1 : List Nat) (it1 cond1 elt : Ex)
  | newd (i : Nat) (t : Bool) | putd (i : Nat) (k v : Ex)
  | any
def semM (Φ : Phi) : List (Bool × Ex) → RX (List Im)
  | [] => nilM
  | (true, es) :: r => consMo (lstN (sem Φ es).a) (semM Φ r)
  | (false, e) :: r => consMd (sem Φ e).d (semM Φ r)
def semS (Φ : Phi) : Sm → RS
  | .nil => skipS
  | .seq s r => seqS2 (semS Φ s) (semS Φ r)
  | .frz i r => seqS2 (frzS i) (semS Φ r)
  | .skip => skipS
  | .bk => bkS
  | .ct => ctS
  | .asg p e => asgS p (sem Φ e).d
  | .setLc i p vs it cond elt => asgS (.nm i) (lcF (sem Φ it).i p vs (sem Φ.bare cond).t (sem Φ.bare elt).d)
  | .new i es => newS i (lstN (sem Φ es).a)
  | .newL i e => newS i (ofList (sem Φ e).a)
  | .mpar is ims => mparS is (semM Φ ims)
  | .ite t a b => ifS (sem Φ t).t (semS Φ a) (semS Φ b)
  | .fo p it b => forS (sem Φ it).j p (semS Φ b)
  | .wh t n b => whS (sem Φ t).t (semS Φ b) n
  | .ret e => retS (sem Φ e).d
  | .retN => retN
  | .drop e => dropS (sem Φ e).d
  | .app i e => appS i (sem Φ e).d
  | .ext i e => extS i (sem Φ e).d
  | .bag i k e => bagS i k (sem Φ e).d
  | .bag2 i k m e => bag2S i k m (sem Φ e).d
  | .setLc2 i p vs it cond p1 vs1 it1 cond1 elt => asgS (.nm i) (lc2F (sem Φ it).j p vs (sem Φ.bare cond).t (sem Φ.bare it1).j p1 vs1 (sem Φ.bare cond1).t (sem Φ.bare elt).d)
  | .newd i t => newdS i t
  | .putd i k v => putS i (sem Φ k).d (sem Φ v).d
  | .any => fun _ _ => .no
/-! ### destructors -/
def isDict0 : Expr → Bool
  | .Dict [] [] _ => true
  | _ => false
theorem isDict0_of {e : Expr} (h : isDict0 e = true) : ∃ p, e = .Dict [] [] p := by
  unfold isDict0 at h; split at h
  · exact ⟨_, rfl⟩
  · cases h
/-- name[e] -/
def asSubE : Expr → Option (Str × Expr)
  | .Subscript (.Name x _) e _ => some (x, e)
  | _ => none
theorem asSubE_of {c e : Expr} {x : Str} (h : asSubE c = some (x, e)) : ∃ p s, c = .Subscript (.Name x p) e s := by
  unfold asSubE at h; split at h
  · cases h; exact ⟨_, _, rfl⟩
  · cases h
def asAsg : Stmt → Option (Expr × Expr × Pos)
  | .Assign [t] e p => some (t, e, p)
  | _ => none
theorem asAsg_of {st : Stmt} {t e : Expr} {p : Pos} (h : asAsg st = some (t, e, p)) : st = .Assign [t] e p := by
  unfold asAsg at h; split at h
  · cases h; rfl
  · cases h
def asDrop : Stmt → Option (Expr × Pos)
  | .Expr e p => some (e, p)
  | _ => none
theorem asDrop_of {st : Stmt} {e : Expr} {p : Pos} (h : asDrop st = some (e, p)) : st = .Expr e p := by
  unfold asDrop at h; split at h
  · cases h; rfl
  · cases h
def asIfS : Stmt → Option (Expr × List Stmt × List Stmt)
  | .If t a b _ => some (t, a, b)
  | _ => none
theorem asIfS_of {st : Stmt} {t : Expr} {a b : List Stmt} (h : asIfS st = some (t, a, b)) : ∃ p, st = .If t a b p := by
  unfold asIfS at h; split at h
  · cases h; exact ⟨_, rfl⟩
  · cases h
def asFor : Stmt → Option (Expr × Expr × List Stmt)
  | .For t i b [] _ => some (t, i, b)
  | _ => none
theorem asFor_of {st : Stmt} {t i : Expr} {b : List Stmt} (h : asFor st = some (t, i, b)) : ∃ p, st = .For t i b [] p := by
  unfold asFor at h; split at h
  · cases h; exact ⟨_, rfl⟩
  · cases h
def asWh : Stmt → Option (Expr × List Stmt)
  | .While t b [] _ => some (t, b)
  | _ => none
theorem asWh_of {st : Stmt} {t : Expr} {b : List Stmt} (h : asWh st = some (t, b)) : ∃ p, st = .While t b [] p := by
  unfold asWh at h; split at h
  · cases h; exact ⟨_, rfl⟩
  · cases h
def asRet : Stmt → Option (Option Expr)
  | .Return e _ => some e
  | _ => none
theorem asRet_of {st : Stmt} {e : Option Expr} (h : asRet st = some e) : ∃ p, st = .Return e p := by
  unfold asRet at h; split at h
  · cases h; exact ⟨_, rfl⟩
  · cases h
def isPass : Stmt → Bool
  | .Pass _ => true
  | _ => false
def isBk : Stmt → Bool
  | .Break _ => true
  | _ => false
def isCt : Stmt → Bool
  | .Continue _ => true
  | _ => false
/-- name.meth(e), within one line -/
def asMeth : Expr → Option (Str × Str × Expr)
  | .Call (.Attribute (.Name x _) m ap) [e] [] p => if ap.endLine == p.line then some (x, m, e) else none
  | _ => none
theorem asMeth_of {c e : Expr} {x m : Str} (h : asMeth c = some (x, m, e)) : ∃ q ap p, c = .Call (.Attribute (.Name x q) m ap) [e] [] p ∧ (ap.endLine == p.line) = true := by
  unfold asMeth at h; split at h
  · split at h
    · rename_i hh; cases h; exact ⟨_, _, _, rfl, hh⟩
    · cases h
  · cases h
/-- name[k] -/
def asSub : Expr → Option (Str × Int)
  | .Subscript (.Name x _) (.Constant (.int k) _ _) _ => some (x, k)
  | _ => none
theorem asSub_of {c : Expr} {x : Str} {k : Int} (h : asSub c = some (x, k)) : ∃ p q r s, c = .Subscript (.Name x p) (.Constant (.int k) q r) s := by
  unfold asSub at h; split at h
  · cases h; exact ⟨_, _, _, _, rfl⟩
  · cases h
def asPair : Expr → Option (Expr × Expr)
  | .Tuple [a, b] _ _ => some (a, b)
  | _ => none
theorem asPair_of {c a b : Expr} (h : asPair c = some (a, b)) : ∃ p q, c = .Tuple [a, b] p q := by
  unfold asPair at h; split at h
  · cases h; exact ⟨_, _, rfl⟩
  · cases h
def asList1 : Expr → Option Expr
  | .Call (.Name x _) [e] [] _ => if x == "list" then some e else none
  | _ => none
theorem asList1_of {c e : Expr} (h : asList1 c = some e) : ∃ p q, c = .Call (.Name "list" p) [e] [] q := by
  unfold asList1 at h; split at h
  · split at h
    · rename_i hh; simp only [beq_iff_eq] at hh; subst hh; cases h; exact ⟨_, _, rfl⟩
    · cases h
  · cases h
def noTgL : Expr → Bool
  | .List _ _ => false
  | _ => true
def mM (T : Ctx) (sc : Scope) (fnl : Str → Bool) : List (Bool × Ex) → List Expr → Bool
  | [], [] => true
  | (true, es) :: r, e :: l => (match asLst e with | some q => mA T sc fnl es q | none => false) && mM T sc fnl r l
  | (false, x) :: r, e :: l => noStar e && mE T sc fnl x e && mM T sc fnl r l
  | _, _ => false
def vr (T : Ctx) (sc : Scope) (i : Nat) (x : Str) : Bool := decide (T.N[i]? = some x) && visB sc x && !special x
def st1 (T : Ctx) (sc : Scope) (fnl : Str → Bool) (i : Nat) (e : Expr) : Bool := match asNm e with
  | some x => decide (T.N[i]? = some x) && locB sc fnl x
  | none => false
mutual
def mS (T : Ctx) (sc : Scope) (fnl : Str → Bool) : Sm → Stmt → Bool
  | .skip, st => isPass st
  | .any, _ => true
  | .bk, st => isBk st
  | .ct, st => isCt st
  | .asg p e, st => (match asAsg st with | some (t, v, q) => mPat T sc fnl p t && mE T sc fnl e v && !swB sc t v && decide (swS sc t v = some none) | none => false)
  | .setLc i p vs it cond elt, st => (match asAsg st with
    | some (t, v, q) => (match asNm t, asLc v with
      | some x, some (e, tg, iter, ifs, scope) => decide (T.N[i]? = some x) && decide (sc.names.lookup x = some .local) && swB sc t v && blkC T.N sc scope (ownOf T.N vs) && subB p.slots vs && noSetE iter && itOk it tg && mE T sc fnl it iter && mPat T (relS scope sc) (inFn scope) p tg && mIfs (isNil cond) (mE T (relS scope sc) (inFn scope) cond) ifs && mE T (relS scope sc) (inFn scope) elt e
      | _, _ => false)
    | none => false)
  | .new i es, st => (match asAsg st with | some (t, v, q) => st1 T sc fnl i t && !swB sc t v && (match asLst v with | some l => mA T sc fnl es l | none => false) | none => false)
  | .newL i es, st => (match asAsg st with | some (t, v, q) => st1 T sc fnl i t && !swB sc t v && globB sc "list" && T.free.contains "list" && (match asList1 v with | some e => mA T sc fnl es [e] | none => false) | none => false)
  | .setLc2 i p vs it cond p1 vs1 it1 cond1 elt, st => (match asAsg st with
    | some (t, v, q) => (match asNm t, asLc2 v with
      | some x, some (e, tg, iter, ifs, tg1, iter1, ifs1, scope) => decide (T.N[i]? = some x) && decide (sc.names.lookup x = some .local) && swB sc t v && blkC T.N sc scope (ownOf T.N vs) && subB p.slots vs && subB p1.slots vs1 && subB vs1 vs && noSetE iter && noSetE iter1 && itOk it tg && itOk it1 tg1 && mE T sc fnl it iter && mPat T (relS scope sc) (inFn scope) p tg && mIfs (isNil cond) (mE T (relS scope sc) (inFn scope) cond) ifs && mE T (relS scope sc) (inFn scope) it1 iter1 && mPat T (relS scope sc) (inFn scope) p1 tg1 && mIfs (isNil cond1) (mE T (relS scope sc) (inFn scope) cond1) ifs1 && mE T (relS scope sc) (inFn scope) elt e
      | _, _ => false)
    | none => false)
  | .newd i t, st => (match asAsg st with | some (tg, v, q) => st1 T sc fnl i tg && !swB sc tg v && isDict0 v && (!t || T.st) | none => false)
  | .putd i k v, st => (match asAsg st with | some (tg, w, q) => (match asSubE tg with | some (x, k') => vr T sc i x && !swB sc tg w && mE T sc fnl k k' && mE T sc fnl v w | none => false) | none => false)
  | .mpar is ims, st => (match asAsg st with
    | some (t, v, q) => (match asTup t, asTup v with
      | some ts, some vs => mNames T sc fnl is ts && mM T sc fnl ims vs && decide (is.length ≤ cap) && (match swT sc ts vs with
        | some none => true
        | some (some [x, y]) => (match is with
          | [i, j] => decide (T.N[i]? = some x) && decide (T.N[j]? = some y) && decide (sc.names.lookup x = some .local) && decide (sc.names.lookup y = some .local) && decide (i ≠ j) && decide (ts.length = 2)
          | _ => false)
        | some (some [x, y, z]) => (match is with
          | [i, j, k] => decide (T.N[i]? = some x) && decide (T.N[j]? = some y) && decide (T.N[k]? = some z) && decide (sc.names.lookup x = some .local) && decide (sc.names.lookup y = some .local) && decide (sc.names.lookup z = some .local) && decide (i ≠ j) && decide (i ≠ k) && decide (j ≠ k) && decide (ts.length = 3)
          | _ => false)
        | _ => false)
      | _, _ => false)
    | none => false)
  | .ite t a b, st => (match asIfS st with | some (t', a', b') => mE T sc fnl t t' && mB T sc fnl a a' && mB T sc fnl b b' | none => false)
  | .fo p it b, st => (match asFor st with | some (t, i, b') => mPat T sc fnl p t && noSetE i && itOk it t && mE T sc fnl it i && mB T sc fnl b b' | none => false)
  | .wh t n b, st => (match asWh st with | some (t', b') => mE T sc fnl t t' && mB T sc fnl b b' | none => false)
  | .ret e, st => (match asRet st with | some (some e') => mE T sc fnl e e' | _ => false)
  | .retN, st => (match asRet st with | some none => true | _ => false)
  | .drop e, st => (match asDrop st with | some (e', _) => noCompE e' && mE T sc fnl e e' | none => false)
  | .app i e, st => (match asDrop st with | some (c, _) => (match asMeth c with | some (x, m, e') => vr T sc i x && m == "append" && noStar e' && mE T sc fnl e e' | none => false) | none => false)
  | .ext i e, st => (match asDrop st with | some (c, _) => (match asMeth c with | some (x, m, e') => vr T sc i x && m == "extend" && noStar e' && mE T sc fnl e e' | none => false) | none => false)
  | .bag i k e, st => (match asAsg st with | some (t, v, q) => (match asSub t with | some (x, k') => vr T sc i x && k == k' && mE T sc fnl e v | none => false) | none => false)
  | .bag2 i k m e, st => (match asAsg st with
    | some (t, v, q) => (match asPair t with
      | some (a, b) => (match asSub a with
        | some (x, k') => vr T sc i x && k == k' && st1 T sc fnl m b && mE T sc fnl e v && decide (swS sc t v = some none)
        | none => false)
      | none => false)
    | none => false)
  | _, _ => false
def mB (T : Ctx) (sc : Scope) (fnl : Str → Bool) : Sm → List Stmt → Bool
  | .nil, l => l.isEmpty
  | .seq s r, l => (match l with
    | st :: rest => mS T sc fnl s st && mB T sc fnl r rest
    | [] => false)
  | .frz i r, l => mB T sc fnl r l
  | _, _ => false
end
end Pv
set_option maxRecDepth 100000
set_option maxHeartbeats 4000000
/-! PvP: statements of the small syntax are what they say -/
namespace Pv
open PySem PySem.Spec PyProof.Rows L2

structure FitS (T : Ctx) (c : Cn) (Φ : Phi) (sc : Scope) (fnl : Str → Bool) (X : Cx) : Prop where
  f : Fit T c Φ sc fnl X
  kind : X.env.scope.kind = .function
  own : PassesOwn (model X.prog X.w) X.A X.env X.xe
section
variable {T : Ctx} {c : Cn} {Φ : Phi} {sc : Scope} {fnl : Str → Bool} {X : Cx} {G0 : List Addr} {H0 : Hp}
def SOk (T : Ctx) (c : Cn) (Φ : Phi) (sm : Sm) : Prop := ∀ (sc : Scope) (fnl : Str → Bool) (X : Cx) (G0 : List Addr) (H0 : Hp), FitS T c Φ sc fnl X → (∀ st, mS T sc fnl sm st = true → PS X st (tS c (fun _ => WN) G0 H0 (semS Φ sm))) ∧ (∀ l, mB T sc fnl sm l = true → PSs X l (tS c (fun _ => WN) G0 H0 (semS Φ sm)))
theorem tLc_mono {R : Per} {W : L2.St → WE} {fi : RX (List D)} {g : TG} {tt : TT} {te : TE} {vs : List Nat} {σ : L2.St} {H : Hp} {Q Q' : VK} (i : ∀ v H1, Q v H1 → Q' v H1) (h : tLc (tI R c W fi) g tt te vs σ H Q) : tLc (tI R c W fi) g tt te vs σ H Q' := by
  obtain ⟨ρ, δ, G, s, d, p⟩ := h
  refine ⟨ρ, δ, G, s, d, p.mono fun a G' H' _ q J y D nD => ?_⟩
  obtain ⟨W, m, st⟩ := q J y D nD
  exact ⟨W, m, fun j k H' w => (st j k H' w).imp (fun ⟨a, b⟩ => ⟨a, i _ _ b⟩) id⟩
theorem tLc2_mono {R : Per} {W : L2.St → WE} {fi : RX (List D)} {g g1 : TG} {tt tt1 : TT} {wi1 : TI} {te : TE} {vs vs1 : List Nat} {σ : L2.St} {H : Hp} {Q Q' : VK} (i : ∀ v H1, Q v H1 → Q' v H1) (h : tLc2 (tI R c W fi) g tt wi1 g1 tt1 te vs vs1 σ H Q) : tLc2 (tI R c W fi) g tt wi1 g1 tt1 te vs vs1 σ H Q' := by
  obtain ⟨ρ, δ, G, s, d, p⟩ := h
  refine ⟨ρ, δ, G, s, d, p.mono fun a G' H' _ q J y D nD => ?_⟩
  obtain ⟨W, m, st⟩ := q J y D nD
  exact ⟨W, m, fun j k H' w => (st j k H' w).imp (fun ⟨a, b⟩ => ⟨a, i _ _ b⟩) id⟩
theorem ps_par3D {i j l : Nat} {x y z : Str} {a b d : Expr} {px py pz pt pos : Pos} {kt k2 : Nat} {pt2 : Pos} {W : L2.St → WE} {f : RX (List Im)} (hc : X.calm = true) (hN : X.N.Nodup) (hi : X.N[i]? = some x) (hj : X.N[j]? = some y) (hl : X.N[l]? = some z) (hij : i ≠ j) (hil : i ≠ l) (hjl : j ≠ l)
    (hx : X.env.scope.names.lookup x = some .local) (hy : X.env.scope.names.lookup y = some .local) (hz : X.env.scope.names.lookup z = some .local) (ha : PA X [a, b, d] (tM c W f))
    (hw : swappedStores [.Tuple [.Name x px, .Name y py, .Name z pz] kt pt] (.Tuple [a, b, d] k2 pt2) X.env = pure (some [x, y, z])) :
    PS X (.Assign [.Tuple [.Name x px, .Name y py, .Name z pz] kt pt] (.Tuple [a, b, d] k2 pt2) pos) (tS c W G0 H0 (mparS [i, j, l] f)) :=
  (ps_par3 hc hN hi hj hl hij hil hjl hx hy hz ha hw rfl).imp fun D' σ H h => by
    refine tM.mono (tS.mpar h) fun vs H1 ⟨hl, q⟩ => ?_
    match vs, hl, q with
    | [v, w, u], _, q => exact ⟨v, w, u, rfl, q H1 ExtN.refl⟩
theorem mM_ok (f : Fit T c Φ sc fnl X) : ∀ {ims : List (Bool × Ex)} {es : List Expr}, mM T sc fnl ims es = true → PA X es (tM c (fun _ => WN) (semM Φ ims))
  | [], [], _ => pa_nilM
  | (true, ex) :: r, e :: l, h => by
    simp only [mM, Bool.and_eq_true] at h
    obtain ⟨h1, h2⟩ := h
    split at h1
    · rename_i q0 q; obtain ⟨p, rfl⟩ := asLst_of q
      exact pa_consMo (pe_lstN ((eOk T c ex Φ sc fnl X f).2.a _ h1)) (mM_ok f h2) rfl
    · cases h1
  | (false, ex) :: r, e :: l, h => by
    simp only [mM, Bool.and_eq_true] at h
    exact pa_consMd ((eOk T c ex Φ sc fnl X f).1 _ h.1.2).d (mM_ok f h.2) (star_of h.1.1)
  | [], _ :: _, h => by simp [mM] at h
  | _ :: _, [], h => by simp [mM] at h
theorem vr_ok (f : Fit T c Φ sc fnl X) {i : Nat} {x : Str} {p : Pos} (h : vr T sc i x = true) : PE X (.Name x p) (tVar i) := by
  simp only [vr, Bool.and_eq_true, decide_eq_true_eq, Bool.not_eq_true'] at h
  exact pe_var (by rw [f.N]; exact h.1.1) (f.vis h.1.2) (special_of h.2).1 (special_of h.2).2.1
theorem st1_of {i : Nat} {e : Expr} (h : st1 T sc fnl i e = true) : ∃ x p, e = .Name x p ∧ T.N[i]? = some x ∧ locB sc fnl x = true := by
  unfold st1 at h
  split at h
  · rename_i q; obtain ⟨p, rfl⟩ := asNm_of q
    simp only [Bool.and_eq_true, decide_eq_true_eq] at h
    exact ⟨_, p, rfl, h.1, h.2⟩
  · cases h
theorem mS_no {sm : Sm} (h : ∀ st, mS T sc fnl sm st = false) : ∀ st, mS T sc fnl sm st = true → PS X st (tS c (fun _ => WN) G0 H0 (semS Φ sm)) := fun st e => by rw [h st] at e; cases e
theorem mB_no {sm : Sm} (h : ∀ st, mB T sc fnl sm st = false) : ∀ st, mB T sc fnl sm st = true → PSs X st (tS c (fun _ => WN) G0 H0 (semS Φ sm)) := fun st e => by rw [h st] at e; cases e
theorem asg_each {t : Expr} {env : Env} (h : ∀ e p, t ≠ .Starred e p) : (assignEach [t] env).map (·.2) = [assign t env] := by
  cases t <;> first | rfl | exact absurd rfl (h _ _)
theorem mPat_shape {p : Pat} {t : Expr} (h : mPat T sc fnl p t = true) : (∀ e p, t ≠ .Starred e p) ∧ (∀ e p, t ≠ .List e p) := by
  cases p <;> cases t <;> simp [mPat] at h ⊢
theorem sole_of {t v : Expr} {env : Env} {line : Nat} (hk : env.scope.kind = .function) (h : swB env.scope t v = false) : swapsWithSole [t] v line env = pure false := by
  show swapsWith v (some t) line env = _
  rw [swB_of hk, h]
def noNm : Expr → Bool
  | .Name _ _ => false
  | _ => true
theorem swB_no {sc : Scope} {t v : Expr} (h : noNm t = true) : swB sc t v = false := by
  cases t <;> first | (cases v <;> rfl) | (simp [noNm] at h)
theorem sOk (T : Ctx) (c : Cn) (Φ : Phi) (sm : Sm) : SOk T c Φ sm := by
  induction sm with
  | nil =>
    refine fun sc fnl X G0 H0 f => ⟨mS_no fun _ => rfl, fun l h => ?_⟩
    cases l with
    | nil => exact pss_nilD
    | cons a l => simp [mB] at h
  | seq s r ih1 ih2 =>
    refine fun sc fnl X G0 H0 f => ⟨mS_no fun _ => rfl, fun l h => ?_⟩
    cases l with
    | nil => simp [mB] at h
    | cons a l =>
      simp only [mB, Bool.and_eq_true] at h
      exact pss_consD ((ih1 sc fnl X G0 H0 f).1 _ h.1) ((ih2 sc fnl X G0 H0 f).2 _ h.2)
  | frz i r ih =>
    refine fun sc fnl X G0 H0 f => ⟨mS_no fun _ => rfl, fun l h => ?_⟩
    exact pss_frzD ((ih sc fnl X G0 H0 f).2 _ (by simpa only [mB] using h))
  | any =>
    exact fun sc fnl X G0 H0 f => ⟨fun st h => ⟨fun _ _ _ _ _ _ ⟨_, _, _, _, p⟩ => p.elim⟩, mB_no fun _ => rfl⟩
  | skip =>
    refine fun sc fnl X G0 H0 f => ⟨fun st h => ?_, mB_no fun _ => rfl⟩
    cases st <;> simp only [mS, isPass, Bool.false_eq_true] at h
    exact ps_passD
  | bk =>
    refine fun sc fnl X G0 H0 f => ⟨fun st h => ?_, mB_no fun _ => rfl⟩
    cases st <;> simp only [mS, isBk, Bool.false_eq_true] at h
    exact ps_breakD
  | ct =>
    refine fun sc fnl X G0 H0 f => ⟨fun st h => ?_, mB_no fun _ => rfl⟩
    cases st <;> simp only [mS, isCt, Bool.false_eq_true] at h
    exact ps_continueD
  | asg p e =>
    refine fun sc fnl X G0 H0 f => ⟨fun st h => ?_, mB_no fun _ => rfl⟩
    simp only [mS] at h
    split at h
    · rename_i q; obtain rfl := asAsg_of q
      simp only [Bool.and_eq_true, Bool.not_eq_true', decide_eq_true_eq] at h
      obtain ⟨⟨⟨h1, h2⟩, h3⟩, h4⟩ := h
      have hz := mPat_shape h1
      exact ps_asgD ((eOk T c e Φ sc fnl X f.f).1 _ h2).d (f.f.pat h1) (by show swapsWith _ _ _ _ = _; rw [swB_of f.kind, f.f.sc, h3]) (swS_of f.kind hz.2 (by rw [f.f.sc]; exact h4)) (asg_each hz.1)
    · cases h
  | setLc i p vs it cond elt =>
    refine fun sc fnl X G0 H0 f => ⟨fun st h => ?_, mB_no fun _ => rfl⟩
    simp only [mS] at h
    split at h
    · rename_i t0 v0 pq q; obtain rfl := asAsg_of q
      split at h
      · rename_i q1 q2; obtain ⟨py, rfl⟩ := asNm_of q1; obtain ⟨pp, rfl⟩ := asLc_of q2
        simp only [Bool.and_eq_true, decide_eq_true_eq] at h
        obtain ⟨⟨⟨⟨⟨⟨⟨⟨⟨⟨u1, u2⟩, u3⟩, h1⟩, h2⟩, h3⟩, hq⟩, h4⟩, h5⟩, h6⟩, h7⟩ := h
        have k := ps_setLc (i := i) (spos := pq) f.f.calm f.f.nd (by rw [f.f.N]; exact u1) (by rw [f.f.sc]; exact u2) (by rw [swB_of f.kind, f.f.sc, u3])
          (((eOk T c it Φ sc fnl X f.f).1 _ h4).i _ hq) (by rw [f.f.N, f.f.sc]; exact blkOk_by h1) (fun s H C cl fp => (f.f.blk _ s H C cl fp).pat (c := c) h5) (fun s H C cl fp => (eOk T c cond).ifs (f.f.blk _ s H C cl fp) h6)
          (fun s H C cl fp => ((eOk T c elt _ _ _ _ (f.f.blk _ s H C cl fp)).1 _ h7).d) (fun x => folded_of h3 x)
        rw [own_ix] at k
        refine (ps_ghost (i := i) k).imp fun D' σ H h => ?_
        exact setLc_read (t := tLc (tI Ext c W0 (sem Φ it).i) (tP c p) (tT c W0 (sem Φ.bare cond).t) (tD c W0 (sem Φ.bare elt).d) vs) (fun Q h => lc_read (subB_of h2) h) (fun Q Q' i h => tLc_mono i h) h
      · cases h
    · cases h
  | new i es =>
    refine fun sc fnl X G0 H0 f => ⟨fun st h => ?_, mB_no fun _ => rfl⟩
    simp only [mS] at h
    split at h
    · rename_i q; obtain rfl := asAsg_of q
      simp only [Bool.and_eq_true, Bool.not_eq_true'] at h
      obtain ⟨⟨h1, h2⟩, h3⟩ := h
      split at h3
      · rename_i q2; obtain ⟨p2, rfl⟩ := asLst_of q2
        obtain ⟨x, px, rfl, e1, e2⟩ := st1_of h1
        obtain ⟨l1, l2⟩ := f.f.loc e2
        exact ps_newD f.f.nd (by rw [f.f.N]; exact e1) l1 (pe_lstN ((eOk T c es Φ sc fnl X f.f).2.a _ h3)) (by rw [swB_of f.kind, f.f.sc, h2]) l2
      · cases h3
    · cases h
  | setLc2 i p vs it cond p1 vs1 it1 cond1 elt =>
    refine fun sc fnl X G0 H0 f => ⟨fun st h => ?_, mB_no fun _ => rfl⟩
    simp only [mS] at h
    split at h
    · rename_i t0 v0 pq q; obtain rfl := asAsg_of q
      split at h
      · rename_i q1 q2; obtain ⟨py, rfl⟩ := asNm_of q1; obtain ⟨pp, rfl⟩ := asLc2_of q2
        simp only [Bool.and_eq_true, decide_eq_true_eq] at h
        obtain ⟨⟨⟨⟨⟨⟨⟨⟨⟨⟨⟨⟨⟨⟨⟨⟨⟨u1, u2⟩, u3⟩, h1⟩, h2⟩, h3⟩, h4⟩, h5⟩, h6⟩, hq⟩, hq1⟩, h7⟩, h8⟩, h9⟩, h10⟩, h11⟩, h12⟩, h13⟩ := h
        have k := ps_setLc2 (i := i) (spos := pq) (vs1 := vs1) f.f.calm f.f.nd (by rw [f.f.N]; exact u1) (by rw [f.f.sc]; exact u2) (by rw [swB_of f.kind, f.f.sc, u3])
          (((eOk T c it Φ sc fnl X f.f).1 _ h7).j _ hq) (by rw [f.f.N, f.f.sc]; exact blkOk_by h1) (by rw [own_ix]; exact subB_of h4) (fun s H C cl fp => (f.f.blk _ s H C cl fp).pat (c := c) h8) (fun s H C cl fp => (eOk T c cond).ifs (f.f.blk _ s H C cl fp) h9)
          (fun s H C cl fp => ((eOk T c it1 _ _ _ _ (f.f.blk _ s H C cl fp)).1 _ h10).j _ hq1) (fun s H C cl fp => (f.f.blk _ s H C cl fp).pat (c := c) h11) (fun s H C cl fp => (eOk T c cond1).ifs (f.f.blk _ s H C cl fp) h12)
          (fun s H C cl fp => ((eOk T c elt _ _ _ _ (f.f.blk _ s H C cl fp)).1 _ h13).d) (fun x => folded_of h5 x) (fun env x => folded_of h6 x)
        rw [own_ix] at k
        refine (ps_ghost (i := i) k).imp fun D' σ H h => ?_
        exact setLc_read (t := tLc2 (tI ExtS c W0 (sem Φ it).j) (tP c p) (tT c W0 (sem Φ.bare cond).t) (tI ExtS c W0 (sem Φ.bare it1).j) (tP c p1) (tT c W0 (sem Φ.bare cond1).t) (tD c W0 (sem Φ.bare elt).d) vs vs1) (fun Q h => lc2_read (subB_of h2) (subB_of h3) h) (fun Q Q' i h => tLc2_mono i h) h
      · cases h
    · cases h
  | newd i t =>
    refine fun sc fnl X G0 H0 f => ⟨fun st h => ?_, mB_no fun _ => rfl⟩
    simp only [mS] at h
    split at h
    · rename_i q; obtain rfl := asAsg_of q
      simp only [Bool.and_eq_true, Bool.not_eq_true', Bool.or_eq_true] at h
      obtain ⟨⟨⟨h1, h2⟩, h3⟩, h4⟩ := h
      obtain ⟨p2, rfl⟩ := isDict0_of h3
      obtain ⟨x, px, rfl, e1, e2⟩ := st1_of h1
      obtain ⟨l1, l2⟩ := f.f.loc e2
      have hst : t = true → c.st = true := fun z => f.f.sq (by rcases h4 with h4 | h4
                                                               · rw [z] at h4; cases h4
                                                               · exact h4)
      have pe : PE X (.Dict [] [] p2) (tDNew t) := by
        cases t with
        | false => exact pe_dnewK
        | true => exact pe_dnewT
      exact (ps_set f.f.nd (by rw [f.f.N]; exact e1) l1 pe (by rw [swB_of f.kind, f.f.sc, h2]) l2).imp fun _ _ _ h => tS.newd hst h
    · cases h
  | putd i k v =>
    refine fun sc fnl X G0 H0 f => ⟨fun st h => ?_, mB_no fun _ => rfl⟩
    simp only [mS] at h
    split at h
    · rename_i q; obtain rfl := asAsg_of q
      split at h
      · rename_i q; obtain ⟨p1, p2, rfl⟩ := asSubE_of q
        simp only [Bool.and_eq_true, Bool.not_eq_true'] at h
        obtain ⟨⟨⟨h1, h2⟩, h3⟩, h4⟩ := h
        have u := f.f.un
        exact (ps_dput (by omega) (vr_ok f.f h1) ((eOk T c k Φ sc fnl X f.f).1 _ h3).d ((eOk T c v Φ sc fnl X f.f).1 _ h4).d (by rw [swB_of f.kind, f.f.sc, h2])).imp fun _ _ _ h => tS.put h
      · cases h
    · cases h
  | newL i es =>
    refine fun sc fnl X G0 H0 f => ⟨fun st h => ?_, mB_no fun _ => rfl⟩
    simp only [mS] at h
    split at h
    · rename_i q; obtain rfl := asAsg_of q
      simp only [Bool.and_eq_true, Bool.not_eq_true'] at h
      obtain ⟨⟨⟨⟨h1, h2⟩, g1⟩, g2⟩, h3⟩ := h
      split at h3
      · rename_i q2; obtain ⟨p2, q3, rfl⟩ := asList1_of q2
        obtain ⟨x, px, rfl, e1, e2⟩ := st1_of h1
        obtain ⟨l1, l2⟩ := f.f.loc e2
        obtain ⟨_, _, rfl, s1, s2, s3⟩ := mA_cons h3
        have ha := (eOk T c _ Φ sc fnl X f.f).2.a _ h3
        refine ps_newD f.f.nd (by rw [f.f.N]; exact e1) l1 (pe_listN f.f.K ha fun {t r} hc ha => pe_callTy hc (f.f.gl g1) (f.f.mg g2) rfl ha (by decide) (by decide) (star_of s1) rfl) (by rw [swB_of f.kind, f.f.sc, h2]) l2
      · cases h3
    · cases h
  | mpar is ims =>
    refine fun sc fnl X G0 H0 f => ⟨fun st h => ?_, mB_no fun _ => rfl⟩
    simp only [mS] at h
    split at h
    · rename_i q; obtain rfl := asAsg_of q
      split at h
      · rename_i ts vs q1 q2; obtain ⟨k1, p1, rfl⟩ := asTup_of q1; obtain ⟨k2, p2, rfl⟩ := asTup_of q2
        simp only [Bool.and_eq_true, decide_eq_true_eq] at h
        obtain ⟨⟨⟨h1, h2⟩, h3⟩, h4⟩ := h
        have ha := mM_ok f.f h2
        split at h4
        · rename_i e
          obtain ⟨n1, n2, n3⟩ := f.f.names h1
          exact ps_mparD h3 ha (pg_tup f.f.calm n1 n2 n3) rfl (swT_of f.kind (by rw [f.f.sc]; exact e)) rfl
        · rename_i x y e
          split at h4
          · simp only [Bool.and_eq_true, decide_eq_true_eq] at h4
            obtain ⟨⟨⟨⟨⟨u1, u2⟩, u3⟩, u4⟩, u5⟩, u6⟩ := h4
            match ts, u6, h1, e with
            | [a, b], _, h1, e =>
              cases a <;> simp only [mNames, Bool.and_eq_true, Bool.false_eq_true, decide_eq_true_eq] at h1
              cases b <;> simp only [mNames, Bool.and_eq_true, Bool.false_eq_true, decide_eq_true_eq, and_false, false_and] at h1
              obtain ⟨⟨v1, _⟩, ⟨v2, _⟩, _⟩ := h1
              obtain rfl : x = _ := Option.some.inj (u1.symm.trans v1)
              obtain rfl : y = _ := Option.some.inj (u2.symm.trans v2)
              have hl : vs.length = 2 := by
                unfold swT at e
                split at e
                · cases e
                · rename_i hh; simpa using hh
              match vs, hl, e, ha with
              | [a, b], _, e, ha => exact ps_parD f.f.calm f.f.nd (by rw [f.f.N]; exact v1) (by rw [f.f.N]; exact v2) u5 (by rw [f.f.sc]; exact u3) (by rw [f.f.sc]; exact u4) ha (swT_of f.kind (by rw [f.f.sc]; exact e)) rfl
          · cases h4
        · rename_i x y z e
          split at h4
          · simp only [Bool.and_eq_true, decide_eq_true_eq] at h4
            obtain ⟨⟨⟨⟨⟨⟨⟨⟨⟨u1, u2⟩, u7⟩, u3⟩, u4⟩, u8⟩, u5⟩, u9⟩, u10⟩, u6⟩ := h4
            match ts, u6, h1, e with
            | [a, b, d], _, h1, e =>
              cases a <;> simp only [mNames, Bool.and_eq_true, Bool.false_eq_true, decide_eq_true_eq] at h1
              cases b <;> simp only [mNames, Bool.and_eq_true, Bool.false_eq_true, decide_eq_true_eq, and_false, false_and] at h1
              cases d <;> simp only [mNames, Bool.and_eq_true, Bool.false_eq_true, decide_eq_true_eq, and_false, false_and] at h1
              obtain ⟨⟨v1, _⟩, ⟨v2, _⟩, ⟨v3, _⟩, _⟩ := h1
              obtain rfl : x = _ := Option.some.inj (u1.symm.trans v1)
              obtain rfl : y = _ := Option.some.inj (u2.symm.trans v2)
              obtain rfl : z = _ := Option.some.inj (u7.symm.trans v3)
              have hl : vs.length = 3 := by
                unfold swT at e
                split at e
                · cases e
                · rename_i hh; simpa using hh
              match vs, hl, e, ha with
              | [a, b, d], _, e, ha => exact ps_par3D f.f.calm f.f.nd (by rw [f.f.N]; exact v1) (by rw [f.f.N]; exact v2) (by rw [f.f.N]; exact v3) u5 u9 u10 (by rw [f.f.sc]; exact u3) (by rw [f.f.sc]; exact u4) (by rw [f.f.sc]; exact u8) ha (swT_of f.kind (by rw [f.f.sc]; exact e))
          · cases h4
        · cases h4
      · cases h
    · cases h
  | ite t a b ih1 ih2 =>
    refine fun sc fnl X G0 H0 f => ⟨fun st h => ?_, mB_no fun _ => rfl⟩
    simp only [mS] at h
    split at h
    · rename_i q; obtain ⟨p, rfl⟩ := asIfS_of q
      simp only [Bool.and_eq_true] at h
      exact ps_ifD ((eOk T c t Φ sc fnl X f.f).1 _ h.1.1).t ((ih1 sc fnl X G0 H0 f).2 _ h.1.2) ((ih2 sc fnl X G0 H0 f).2 _ h.2)
    · cases h
  | fo p it b ih =>
    refine fun sc fnl X G0 H0 f => ⟨fun st h => ?_, mB_no fun _ => rfl⟩
    simp only [mS] at h
    split at h
    · rename_i q; obtain ⟨p, rfl⟩ := asFor_of q
      simp only [Bool.and_eq_true] at h
      exact ps_forD f.own f.f.calm (((eOk T c it Φ sc fnl X f.f).1 _ h.1.2).j _ h.1.1.2) (f.f.pat h.1.1.1.1) ((ih sc fnl X G0 H0 f).2 _ h.2) (fun x => folded_of h.1.1.1.2 x)
    · cases h
  | wh t n b ih =>
    refine fun sc fnl X G0 H0 f => ⟨fun st h => ?_, mB_no fun _ => rfl⟩
    simp only [mS] at h
    split at h
    · rename_i q; obtain ⟨p, rfl⟩ := asWh_of q
      simp only [Bool.and_eq_true] at h
      exact ps_whileD n f.own ((eOk T c t Φ sc fnl X f.f).1 _ h.1).t ((ih sc fnl X G0 H0 f).2 _ h.2)
    · cases h
  | ret e =>
    refine fun sc fnl X G0 H0 f => ⟨fun st h => ?_, mB_no fun _ => rfl⟩
    simp only [mS] at h
    split at h
    · rename_i q; obtain ⟨p, rfl⟩ := asRet_of q
      exact ps_retD ((eOk T c e Φ sc fnl X f.f).1 _ h).d
    · cases h
  | retN =>
    refine fun sc fnl X G0 H0 f => ⟨fun st h => ?_, mB_no fun _ => rfl⟩
    simp only [mS] at h
    split at h
    · rename_i q; obtain ⟨p, rfl⟩ := asRet_of q
      exact ps_retND
    · cases h
  | drop e =>
    refine fun sc fnl X G0 H0 f => ⟨fun st h => ?_, mB_no fun _ => rfl⟩
    simp only [mS] at h
    split at h
    · rename_i q; obtain rfl := asDrop_of q
      simp only [Bool.and_eq_true] at h
      exact ps_dropD ((eOk T c e Φ sc fnl X f.f).1 _ h.2).d (swap_of h.1)
    · cases h
  | app i e =>
    refine fun sc fnl X G0 H0 f => ⟨fun st h => ?_, mB_no fun _ => rfl⟩
    simp only [mS] at h
    split at h
    · rename_i q; obtain rfl := asDrop_of q
      split at h
      · rename_i q; obtain ⟨pq, ap, p, rfl, hl⟩ := asMeth_of q
        simp only [Bool.and_eq_true, beq_iff_eq] at h
        obtain ⟨⟨⟨h1, rfl⟩, h3⟩, h4⟩ := h
        have s1 := star_of (es := []) (env := X.env) h3
        exact (ps_expr (pe_bm F.plainAttrs_list F.slot_list_append F.type_list_append mt_append (vr_ok f.f h1) (pa_cons ((eOk T c e Φ sc fnl X f.f).1 _ h4).d pa_nil s1) rfl (by rw [s1]; rfl) hl s1 rfl) rfl).imp fun _ _ _ h => tS.app h
      · cases h
    · cases h
  | ext i e =>
    refine fun sc fnl X G0 H0 f => ⟨fun st h => ?_, mB_no fun _ => rfl⟩
    simp only [mS] at h
    split at h
    · rename_i q; obtain rfl := asDrop_of q
      split at h
      · rename_i q; obtain ⟨pq, ap, p, rfl, hl⟩ := asMeth_of q
        simp only [Bool.and_eq_true, beq_iff_eq] at h
        obtain ⟨⟨⟨h1, rfl⟩, h3⟩, h4⟩ := h
        have s1 := star_of (es := []) (env := X.env) h3
        exact (ps_expr (pe_bm F.plainAttrs_list F.slot_list_extend F.type_list_extend mt_extendR (vr_ok f.f h1) (pa_cons ((eOk T c e Φ sc fnl X f.f).1 _ h4).d pa_nil s1) rfl (by rw [s1]; rfl) hl s1 rfl) rfl).imp fun _ _ _ h => tS.extend h
      · cases h
    · cases h
  | bag i k e =>
    refine fun sc fnl X G0 H0 f => ⟨fun st h => ?_, mB_no fun _ => rfl⟩
    simp only [mS] at h
    split at h
    · rename_i q; obtain rfl := asAsg_of q
      split at h
      · rename_i q; obtain ⟨p1, p2, p3, p4, rfl⟩ := asSub_of q
        simp only [Bool.and_eq_true, beq_iff_eq] at h
        obtain ⟨⟨h1, rfl⟩, h3⟩ := h
        exact (ps_asg ((eOk T c e Φ sc fnl X f.f).1 _ h3).d (pg_sub (vr_ok f.f h1) pe_int set_list) (sole_of f.kind (swB_no rfl)) rfl rfl).imp fun _ _ _ h => tS.bag h
      · cases h
    · cases h
  | bag2 i k m e =>
    refine fun sc fnl X G0 H0 f => ⟨fun st h => ?_, mB_no fun _ => rfl⟩
    simp only [mS] at h
    split at h
    · rename_i q; obtain rfl := asAsg_of q
      split at h
      · rename_i q; obtain ⟨k0, p0, rfl⟩ := asPair_of q
        split at h
        · rename_i q; obtain ⟨p1, p2, p3, p4, rfl⟩ := asSub_of q
          simp only [Bool.and_eq_true, beq_iff_eq, decide_eq_true_eq] at h
          obtain ⟨⟨⟨⟨h1, rfl⟩, h3⟩, h4⟩, h5⟩ := h
          obtain ⟨x, px, rfl, e1, e2⟩ := st1_of h3
          refine (ps_asg ((eOk T c e Φ sc fnl X f.f).1 _ h4).d (pg_tup f.f.calm (pgs_cons (pg_sub (vr_ok f.f h1) pe_int set_list) (pgs_cons (f.f.name (by simpa using e1) e2) pgs_nil rfl) rfl) rfl rfl) (sole_of f.kind (swB_no rfl)) (swS_of f.kind (fun _ _ z => by cases z) (by rw [f.f.sc]; exact h5)) rfl).imp fun _ _ _ h => tS.bag2 f.f.K h
        · cases h
      · cases h
    · cases h
end
end Pv
set_option maxRecDepth 100000
set_option maxHeartbeats 4000000
/-! PvQ: a def of the text keeps its promise -/
namespace Pv
open PySem PySem.Spec PyProof.Rows L2

/-- where a law's defs stand: over every base that has the written part -/
structure En where
  P : Program
  w : World
  mg : Str → Option Value
  base : Heap
  c : Cn
  kws : Str → List (Nat × List Str × List Nat)
abbrev Tops := List (Str × Stmt)
/-- what the head tells of the names -/
structure En.Ok (E : En) (tops : Tops) (free : List Str) : Prop where
  defs : ∀ p ∈ tops, ∃ fd, FunD E.c.K p.1 p.1 (defArgs p.2) (defBody p.2) (defScope p.2) [] [] (E.c.fa p.1) fd
  glo : ∀ p ∈ tops, E.mg p.1 = some (.ref (E.c.fa p.1))
  free : ∀ x ∈ free, E.mg x = none
/-- a def keeps its promise, and can be called -/
def DefOk (E : En) (x : Str) (np lvl : Nat) (F : Fn) : Prop :=
  ∃ (fd : FuncData) (ps : List Str), FnOkG E.P E.w E.c.K E.mg E.base lvl (E.c.fa x) fd ps (spF E.c np F) ∧ PySem.W.keepIn E.c.K (.ref (E.c.fa x)) = true ∧ Binds E.c.K fd ps [] ∧ E.mg x = some (.ref (E.c.fa x)) ∧ ps.length = np ∧ ∀ q ∈ E.kws x, KwB E.c.K fd ps q.1 q.2.1 q.2.2
/-- the callees, by names -/
def Calls (E : En) (lvl : Nat) : List Str → List (Nat × Fn) → Prop
  | [], [] => True
  | x :: xs, (np, F) :: fs => (∃ l, l ≤ lvl ∧ DefOk E x np l F) ∧ Calls E lvl xs fs
  | _, _ => False
theorem Calls.get {E : En} {lvl : Nat} : ∀ {xs : List Str} {fs : List (Nat × Fn)} {k : Nat} {x : Str} {np : Nat} {F : Fn}, Calls E lvl xs fs → xs[k]? = some x → fs[k]? = some (np, F) → ∃ l, l ≤ lvl ∧ DefOk E x np l F
  | [], _, k, _, _, _, _, h, _ => by simp at h
  | _ :: _, [], _, _, _, _, h, _, _ => h.elim
  | y :: xs, (n, f) :: fs, 0, x, np, F, h, h1, h2 => by
    simp at h1 h2
    obtain ⟨rfl, rfl⟩ := h2
    subst h1
    exact h.1
  | y :: xs, (n, f) :: fs, k + 1, x, np, F, h, h1, h2 => Calls.get h.2 (by simpa using h1) (by simpa using h2)
def scB (N ps : List Str) (sc : Scope) : Bool :=
  decide (sc.kind = .function) && !sc.isCoroutine && !sc.isGenerator && decide N.Nodup && decide (N.take ps.length = ps) && ps.all (fun x => decide (sc.names.lookup x = some .local) || decide (sc.names.lookup x = some .cell)) && sc.names.all fun y => !decide (y.2 = .free)
theorem scB_ok {N ps : List Str} {sc : Scope} (h : scB N ps sc = true) : FnScope N ps sc := by
  unfold scB at h
  simp only [Bool.and_eq_true, Bool.not_eq_true', decide_eq_true_eq, List.all_eq_true, Bool.or_eq_true, decide_eq_false_iff_not] at h
  obtain ⟨⟨⟨⟨⟨⟨h1, h2⟩, h3⟩, h4⟩, h5⟩, h6⟩, h7⟩ := h
  exact ⟨h1, h2, h3, h4, h5, h6, fun y hy => h7 y hy⟩
/-- all that is checked of a def's text -/
def chk (T : Ctx) (free : List Str) (ps : List Str) (sm : Sm) (st : Stmt) : Bool :=
  scB T.N ps (defScope st) && mB T (defScope st) (fun _ => true) sm (defBody st) && T.free.all (fun x => free.contains x)
theorem NpOk {N ps : List Str} {sc : Scope} (S : FnScope N ps sc) : ps.length ≤ N.length := by
  have q := congrArg List.length S.pre
  rw [List.length_take] at q
  omega
variable {E : En} {tops : Tops} {free : List Str}
/-- the keyword calls of a def lay the values in order -/
def KwsOk (x : Str) (st : Stmt) (ps : List Str) (kws : List (Nat × List Str × List Nat)) : Prop := ∀ q ∈ kws, q.2.2.length = ps.length ∧ (∀ i ∈ q.2.2, i < q.1 + q.2.1.length) ∧ ∀ (kV doc pm : Value) (an : Option Addr) (cdv ct : Value) (us ws : List Value), us.length = q.1 → ws.length = q.2.1.length →
  bindArgs (PySem.W.fnOf x x (defArgs st) (defBody st) (defScope st) .none kV doc pm an cdv ct) ⟨us, q.2.1.zip ws⟩ = pure (ps.zip (q.2.2.map fun i => (us ++ ws).getD i .none))
theorem kws_ok {x : Str} {st : Stmt} {ps : List Str} {kws : List (Nat × List Str × List Nat)} {K : PySem.W.Frag} {f : Addr} {fd : FuncData} (D : FunD K x x (defArgs st) (defBody st) (defScope st) [] [] f fd) (h : KwsOk x st ps kws) : ∀ q ∈ kws, KwB K fd ps q.1 q.2.1 q.2.2 := fun q hq => by
  obtain ⟨h1, h2, h3⟩ := h q hq
  obtain ⟨oc, od, dV, kV, doc, pm, an, cdv, ct, osl, rfl, lk, hcd, hD, -⟩ := D.ex
  refine ⟨h1, h2, fun t us ws _ l1 l2 => ?_⟩
  rcases hD with ⟨_, rfl⟩ | ⟨e, _⟩
  · exact .of_eq (h3 kV doc pm an cdv ct us ws l1 l2)
  · exact absurd rfl e
/-- THE RULE, where the def stands -/
theorem def_okD {T : Ctx} {Φ : Phi} {lvl : Nat} {x : Str} {st : Stmt} {ps : List Str} {sm : Sm} {fd : FuncData} (D : FunD E.c.K x x (defArgs st) (defBody st) (defScope st) [] [] (E.c.fa x) fd) (ok : E.Ok tops free) (hc : chk T free ps sm st = true) (hcalls : Calls E lvl T.fns Φ.fns) (hclo : Φ.clo = fun _ _ _ _ _ => none)
    (hnm : ∀ (y : Str) (np : Nat) (F : Fn), Φ.named y = some (np, F) → ∃ l, l ≤ lvl ∧ DefOk E y np l F) (hfv : ∀ y, T.fvs.contains y = true → E.mg y = some (.ref (E.c.fa y)))
    (hkc : ∀ q ∈ T.kcs, ∃ x, T.fns[q.1]? = some x ∧ q.2 ∈ E.kws x) (hgcd : T.bims.contains "gcd" = true → E.mg "gcd" = some (.builtin "math.gcd")) (hcomb : T.bims.contains "combinations" = true → E.mg "combinations" = some (.type "itertools.combinations")) (hcons : ∀ p ∈ T.cons, ∃ u v, E.mg p.1 = some u ∧ RelV v u ∧ ∀ G H, Rel E.c G H p.2 v) (hsq : T.st = true → E.c.st = true)
    (hb : ∀ (kV doc pm : Value) (an : Option Addr) (cdv ct : Value) (us : List Value), us.length = ps.length → bindArgs (PySem.W.fnOf x x (defArgs st) (defBody st) (defScope st) .none kV doc pm an cdv ct) ⟨us, []⟩ = pure (ps.zip us)) :
    FnOkG E.P E.w E.c.K E.mg E.base (lvl + 1) (E.c.fa x) fd ps (spF E.c ps.length (mkF T.N.length ps.length (semS Φ sm))) := by
  unfold chk at hc
  simp only [Bool.and_eq_true] at hc
  obtain ⟨⟨h1, h2⟩, h3⟩ := hc
  have S := scB_ok h1
  obtain ⟨oc, od, dV, kV, doc, pm, an, cdv, ct, osl, rfl, lk, hcd, -, -⟩ := D.ex
  refine ⟨fun vs H Q E h => h.len, fun A outer s H args us vs Q hr gd e0 bt rv h => LamX.run_ofS (N := T.N) lk hcd S hr e0 bt rv h.len fun hr => ?_⟩
  obtain ⟨G0, hread⟩ := body_read (N := T.N) (NpOk S) h
  refine ⟨_, (sOk T E.c Φ sm (defScope st) (fun _ => true) _ G0 H ⟨⟨rfl, rfl, S.nd, rfl, rfl, ?un, gd, fun _ _ => rfl, fun k y np F e1 e2 => ?fn, fun k y np F n ks pm e1 e2 e3 => ?fk, fun y np F e => ?nm, fun y e => hfv y e, fun i y a k q ws us np F _ _ _ e => ?cl, fun y e => ok.free y ?fr, hgcd, hcomb, hcons, hsq⟩, S.kind, passes_of rfl⟩).2 _ h2, hread⟩
  case un => have := hr.un; show A.units + 3 + 200 < cLine; have h2 : A.units + 3 + 16 * lvl + 200 < cLine := hr.un; omega
  case fn =>
    obtain ⟨l, hl, fd', ps', F1, kp, bd, m, _⟩ := hcalls.get e1 e2
    exact ⟨_, ⟨l, fd', ps', F1, hr.mono hl, kp, bd⟩, m⟩
  case fk =>
    obtain ⟨l, hl, fd', ps', F1, kp, bd, m, lp, kb⟩ := hcalls.get e1 e2
    obtain ⟨x', ex, hq⟩ := hkc _ e3
    rw [e1] at ex; cases ex
    have kbq := kb _ hq
    exact ⟨_, l, fd', ps', F1, hr.mono hl, kp, kbq, kbq.1.trans lp, m⟩
  case nm =>
    obtain ⟨l, hl, fd', ps', F1, kp, bd, m, _⟩ := hnm y np F e
    exact ⟨l, fd', ps', F1, hr.mono hl, kp, bd⟩
  case cl => rw [hclo] at e; cases e
  case fr =>
    have := List.all_eq_true.mp h3 y (by simpa using e)
    simpa using this
theorem def_ok {T : Ctx} {Φ : Phi} {lvl : Nat} {x : Str} {st : Stmt} {ps : List Str} {sm : Sm} (ok : E.Ok tops free) (hx : (x, st) ∈ tops) (hc : chk T free ps sm st = true) (hcalls : Calls E lvl T.fns Φ.fns) (hclo : Φ.clo = fun _ _ _ _ _ => none)
    (hnm : ∀ (y : Str) (np : Nat) (F : Fn), Φ.named y = some (np, F) → ∃ l, l ≤ lvl ∧ DefOk E y np l F) (hfv : ∀ y, T.fvs.contains y = true → E.mg y = some (.ref (E.c.fa y)))
    (hkc : ∀ q ∈ T.kcs, ∃ x, T.fns[q.1]? = some x ∧ q.2 ∈ E.kws x) (hgcd : T.bims.contains "gcd" = true → E.mg "gcd" = some (.builtin "math.gcd")) (hcomb : T.bims.contains "combinations" = true → E.mg "combinations" = some (.type "itertools.combinations")) (hcons : ∀ p ∈ T.cons, ∃ u v, E.mg p.1 = some u ∧ RelV v u ∧ ∀ G H, Rel E.c G H p.2 v) (hsq : T.st = true → E.c.st = true)
    (hb : ∀ (kV doc pm : Value) (an : Option Addr) (cdv ct : Value) (us : List Value), us.length = ps.length → bindArgs (PySem.W.fnOf x x (defArgs st) (defBody st) (defScope st) .none kV doc pm an cdv ct) ⟨us, []⟩ = pure (ps.zip us)) (hkw : KwsOk x st ps (E.kws x)) :
    DefOk E x ps.length (lvl + 1) (mkF T.N.length ps.length (semS Φ sm)) := by
  obtain ⟨fd, D⟩ := ok.defs _ hx
  exact ⟨fd, ps, def_okD D ok hc hcalls hclo hnm hfv hkc hgcd hcomb hcons hsq hb, D.kp, D.bindsN hb, ok.glo _ hx, rfl, kws_ok D hkw⟩
end Pv
set_option maxRecDepth 100000
set_option maxHeartbeats 4000000
/-! PvR: a lambda with parameters, handed to a def that calls it -/
namespace Pv
open PySem PySem.Spec PyProof.Rows L2 LamX NdefX

/-- what the cells held they hold still -/
theorem cells_later {cl : List (Str × Addr)} {fr : List Str} {ws : List (Option V)} {h h1 : Heap} {H H1 : Hp} {fs : List Addr} (C : CellsAt cl fr ws h H) (un : Un fs [] H H1 h h1) : CellsAt cl fr ws h1 H1 := by
  have cellK : ∀ {y c v}, cl.lookup y = some c → h.IsCell c v → h1.IsCell c v := fun {y c v} e ⟨o, ho, hd⟩ => by
    obtain ⟨sl, q⟩ := un.any ho (C.all y c e).1 (by simp)
    exact ⟨_, q, hd⟩
  refine ⟨C.len, fun y c e => ?_, C.inj, fun i y e => ?_⟩
  · obtain ⟨n, v, z⟩ := C.all y c e
    have z2 := z
    obtain ⟨o, ho, _⟩ := z2
    exact ⟨un.free c o ho n (by simp), v, cellK e z⟩
  · obtain ⟨c, hc, hv⟩ := C.has i y e
    refine ⟨c, hc, fun v ev => ?_⟩
    obtain ⟨u, r, z⟩ := hv v ev
    exact ⟨u, r, cellK hc z⟩
/-- the lambda's object -/
abbrev lamObj (F : NF) (body : Expr) (pm ctv : Value) : Obj := PySem.W.kla_obj F.name F.qual F.params body F.scope F.cl pm F.c ctv
section
variable {P : Program} {w : World} {K : PySem.W.Frag} {mg : Str → Option Value} {base : Heap} {N ps fr : List Str} {F : NF} {f : Addr} {A : Around} {outer : List Env} {s : Shared} {H : Hp} {us : List Value} {vs : List V} {ws : List (Option V)} {Q : VK} {k : Nat}
theorem lam_run {body : Expr} {pm ctv : Value} {sl : Array (Option Value)} {tb : TE} (S : NScope N ps fr F.scope) (hr : Room (k + 1) A) (e0 : Env0 P w K mg base A outer s H) (hf : s.heap.get? f = some { lamObj F body pm ctv with slots := sl }) (hc : H F.c = some (CodeO F.c F.qual))
    (hb : bindArgs (PySem.W.kla_fn F.name F.qual F.params body F.scope F.cl pm (.ref F.c) ctv) ⟨us, []⟩ = pure (ps.zip us)) (C : CellsAt F.cl fr ws s.heap H) (r : Vals vs us) (hl : vs.length = ps.length)
    (hbody : Room k (A.deeper (envF F f s.heap.objs.size)) → PE (ncx CX0 P w K mg base N F f A outer s H E0) body tb) (hq : tb (startF N vs ws) H Q) : codeAny (model P w) A (.call (.ref f) ⟨us, []⟩) (CR CX0 outer P w H s Q E0) s := by
  have lim : s.heap.NoLimit := e0.mod.nolimit.keeps fun b o e => (e0.bs b o e).1
  refine PySem.W.kla_callFunE (hr.depth) hf rfl S.co S.gen rfl (codeO_at e0.hok hc) ?_
  rw [hb]
  refine wpAny_pure (wpAny_newFunctionEnv S.nocell (fun ⟨n, _⟩ hy => S.par n (List.of_mem_zip hy).1) (fun h₁ hns hsb => ⟨lim.fresh _ hsb, ?_⟩) S.kind)
  show codeAny _ _ (.expr body (envF F f s.heap.objs.size)) _ _
  have kp : ∀ b o, s.heap.get? b = some o → h₁.get? b = some o := fun b o e => hsb.extBut b o (Nat.ne_of_lt (Heap.lt_size e)) (Heap.get?_push_of_some _ e)
  have I : Inv (ncx CX0 P w K mg base N F f A outer s H E0) [] (startF N vs ws) H { s with heap := h₁, toks := s.toks + (ps.zip us).length } := inv_startN S hr.hd e0 hl r C hns kp
  refine PySem.W.kla_codeExpr (wpAny_mono ((hbody (hr.deeper _)).run [] _ (startF N vs ws) H Q I hq) (fun v s' hq => ?_) fun e s' hq => hq)
  obtain ⟨w', H', J', rv, q⟩ := hq
  exact ⟨w', H', J'.os, J'.bare, J'.base, J'.hok, rv, q⟩
end
/-- a lambda's answer: its body behind the parameters and the captured values -/
def lamF (n np : Nat) (fb : RX D) : List D → Fn := fun wds ds δ => fb ((ds ++ wds).map Sl.v ++ List.replicate (n - (ds ++ wds).length) .no) δ
theorem startF_eq {N : List Str} {vs us : List V} : startF N vs (us.map some) = L2.start N (vs ++ us) := by
  unfold startF L2.start
  rw [List.map_append, List.length_append, List.length_map, Nat.sub_sub, List.append_assoc]
theorem RelL.allStrong {c : Cn} {G : List Addr} {H : Hp} : ∀ {ds : List D} {vs : List V}, RelL c G H ds vs → ds.all D.strong = true
  | [], _, _ => rfl
  | d :: ds, vs, h => by
    simp only [RelL] at h
    obtain ⟨v, r, _, st, _, h2⟩ := h
    simp [st, RelL.allStrong h2]
section
variable {c : Cn} {Z : Cx} {N ps fr : List Str} {F : NF} {f : Addr} {k i : Nat} {x : Str} {body : Expr} {fb : RX D} {wds : List D} {uws : List V} {np : Nat}
theorem clo_pe {pm ctv : Value} (S : NScope N ps fr F.scope) (hr : Room (k + 1) Z.A) (hgd : Z.A.guards = some []) (hex : Z.ex = []) (hf : Z.s_0.heap.get? f = some (lamObj F body pm ctv)) (hfn : Z.H_0 f = none) (C : CellsAt F.cl fr (uws.map some) Z.s_0.heap Z.H_0)
    (hb : ∀ us : List Value, us.length = ps.length → bindArgs (PySem.W.kla_fn F.name F.qual F.params body F.scope F.cl pm (.ref F.c) ctv) ⟨us, []⟩ = pure (ps.zip us))
    (hbody : ∀ (A : Around) (outer : List Env) (s : Shared) (H : Hp), Room k (A.deeper (envF F f s.heap.objs.size)) → A.guards = some [] → PE (ncx CX0 Z.prog Z.w Z.K Z.mg Z.base N F f A outer s H E0) body (tD c W0 fb))
    (hi : Z.N[i]? = some x) (hv : Vis Z.env.scope x) (hsp : special x = false) {a : Expr} {r : List Expr} {p pos : Pos} {t : RX (List D)} (ha : PA Z (a :: r) (tA c W0 t))
    (hs : starEach (a :: r) Z.env = (false, eval a Z.env) :: starEach r Z.env) (hp : (backTo pos (starEach r Z.env)).any (·.1) = false) (hN : ps.length + wds.length ≤ N.length) :
    PE Z (.Call (.Name x p) (a :: r) [] pos) (fun σ H Q => ∃ ρ δ G, SR c G H σ ρ ∧ DR c G H δ ∧ ρ[i]? = some (.v (.clo f F.c F.qual wds uws)) ∧ Post c (W0 σ) G H (callO (lamF N.length ps.length fb wds) ps.length t ρ δ) fun d G' H' => ∀ v, Rel c G' H' d v → Q v H') := by
  refine ⟨fun pins s σ H Q I ⟨ρ, δ, G, sr, dr, e, po⟩ => ?_⟩
  obtain ⟨_, v, e3, rv⟩ := sr.sl i _ e
  simp only [Rel] at rv
  obtain ⟨rfl, hcode, hws⟩ := rv
  refine wpAny_Call_Name_kw (thn ((pe_var (pos := p) (i := i) hi hv (special_of hsp).1 (special_of hsp).2.1).run pins s σ H (fun v H1 => v = .ref f ∧ H1 = H) I ⟨.ref f, e3, rfl, rfl⟩) fun u s1 ⟨v, H1, I1, r1, q1⟩ => ?_)
  obtain ⟨ev, eH⟩ := q1
  subst ev
  subst eH
  obtain rfl : u = Value.ref f := r1
  have at_ : ∀ {pins : List (Addr × Obj)} {σ : L2.St} {H : Hp} {s : Shared}, Inv Z pins σ H s → ∃ sl, s.heap.get? f = some { lamObj F body pm ctv with slots := sl } := fun J => J.base.any hf hfn (by rw [hex]; simp)
  have fnAt : ∀ {pins : List (Addr × Obj)} {σ : L2.St} {H : Hp} {s : Shared}, Inv Z pins σ H s → PySem.W.FnAt f s.heap := fun J => by
    obtain ⟨sl, z⟩ := at_ J
    exact ⟨_, _, _, _, z⟩
  have ht : tA c W0 t σ H1 fun vs H2 => ∃ ds δ1 G1, RelA c G1 H2 ds vs ∧ At c G1 H2 σ ρ δ1 ∧ Ext G H1 G1 H2 ∧ Post c (W0 σ) G1 H2 (if ds.length = ps.length ∧ ds.all D.strong = true then lamF N.length ps.length fb wds ds δ1 else .no) fun d G' H' => ∀ v, Rel c G' H' d v → Q v H' :=
    ⟨ρ, δ, G, sr, dr, (Post.bind po).mono fun ds G1 H2 x ⟨δ1, d1, p1⟩ vs rv => ⟨ds, δ1, G1, rv, ⟨sr.ext x, d1⟩, x, p1⟩⟩
  refine PySem.W.callWith_F (first := []) (fnAt I1) (thn (ha.run pos pins s1 σ H1 _ I1 ht) fun us s2 ⟨vs, H2, I2, r, ds, δ1, G1, ra, at1, x, p1⟩ => ⟨fnAt I2, ?_⟩) hs hp
  show wpAny _ _ (call (.ref f) us) _ _ _
  split at p1
  · rename_i hh
    have rl := ra.strong hh.2
    obtain ⟨sl, of2⟩ := at_ I2
    have un : Un Z.fs [] Z.H_0 H2 Z.s_0.heap s2.heap := by have := I2.base; rw [hex] at this; exact this
    have hl : vs.length = ps.length := by rw [rl.length]; exact hh.1
    refine wpAny_call (codeAny_mono (lam_run (Q := Q) (tb := tD c W0 fb) S hr I2.env0 of2 (x.fix _ _ hcode trivial) (hb us (by rw [← r.length, hl])) (cells_later C un) r hl (fun rr => hbody Z.A Z.stack s2 H2 rr hgd) ?_) fun r s' hq => ?_)
    · rw [startF_eq]
      unfold lamF at p1
      refine ⟨_, δ1, G1, start_sr (rl.append (RelL.extS x.toS hws)) (by rw [List.length_append, hh.1]; exact hN), at1.dr, ?_⟩
      exact p1
    · cases r with
      | error e => exact (show False from hq).elim
      | ok fl =>
        cases fl with
        | ret u => exact I2.after hq
        | next => exact False.elim hq
        | brk => exact False.elim hq
        | cont => exact False.elim hq
  · exact p1.elim
end
end Pv
set_option maxRecDepth 100000
set_option maxHeartbeats 4000000
/-! PvS: a lambda is made -/
namespace Pv
open PySem PySem.Spec PyProof.Rows L2 LamX NdefX

/-- what the making of a lambda leaves: nothing new that is told, or one more code object in the table -/
def Made (P : Addr) (q : Str) (k : Addr) (H H1 : Hp) : Prop :=
  (H1 = H ∧ H k = some (CodeO k q)) ∨ ∃ (ps : Array Value) (pos : Pos), H P = some (.tbl ps) ∧ TriplesOk ps.toList ∧ H k = none ∧ P ≠ k ∧ H1 = upd (upd H P (.tbl (ps ++ #[rawInt pos.line, rawInt pos.col, .ref k]))) k (CodeO k q)
theorem Made.code {P k : Addr} {q : Str} {H H1 : Hp} (m : Made P q k H H1) : H1 k = some (CodeO k q) := by
  rcases m with ⟨rfl, h⟩ | ⟨ps, pos, _, _, _, _, rfl⟩
  · exact h
  · exact upd_same
theorem Made.keep {P k : Addr} {q : Str} {H H1 : Hp} (m : Made P q k H H1) {b : Addr} {o : HO} (h : H b = some o) (n : b ≠ P) : H1 b = some o := by
  rcases m with ⟨rfl, _⟩ | ⟨ps, pos, _, _, nk, _, rfl⟩
  · exact h
  · rw [upd_ne (ne_of_none h nk), upd_ne n]; exact h
theorem Made.live {P k : Addr} {q : Str} {H H1 : Hp} (m : Made P q k H H1) {b : Addr} (h : H b ≠ none) : H1 b ≠ none := by
  rcases m with ⟨rfl, _⟩ | ⟨ps, pos, _, _, nk, _, rfl⟩
  · exact h
  · by_cases e : b = k
    · rw [e, upd_same]; exact Option.some_ne_none _
    · rw [upd_ne e]
      by_cases e2 : b = P
      · rw [e2, upd_same]; exact Option.some_ne_none _
      · rw [upd_ne e2]; exact h
theorem Made.tab {P k : Addr} {q : Str} {H H1 : Hp} (m : Made P q k H H1) (t : TabS H P q) : TabS H1 P q := by
  rcases m with ⟨rfl, _⟩ | ⟨ps, pos, hP, ht, nk, ne, rfl⟩
  · exact t
  · obtain ⟨ps', h1, h2, h3⟩ := t
    rw [hP] at h1
    cases h1
    have eL : (ps ++ #[rawInt pos.line, rawInt pos.col, .ref k]).toList = ps.toList ++ [rawInt pos.line, rawInt pos.col, .ref k] := by simp
    refine ⟨_, by rw [upd_ne ne, upd_same], by rw [eL]; exact PySem.TriplesOk_snoc _ _ _ _ ht, fun p' cv hcv => ?_⟩
    rw [eL] at hcv
    rcases among_app _ ht hcv with z | z
    · obtain ⟨c0, e1, e2⟩ := h3 p' cv z
      refine ⟨c0, e1, ?_⟩
      rw [upd_ne (ne_of_none e2 nk), upd_ne]
      · exact e2
      · intro z; rw [z, hP] at e2; unfold CodeO at e2; cases e2
    · exact ⟨k, z, upd_same⟩
section
variable {X : Cx} {pins : List (Addr × Obj)} {σ : L2.St} {H : Hp} {s : Shared}
theorem lam_new {c P : Addr} {params : Arguments} {body : Expr} {scope : Scope} {pos : Pos} {E : Value → Shared → Prop} {Q : Value → Shared → Prop} (I : Inv X pins σ H s) (TB : TabB X.base X.mg c P) (hcode : X.env.code = .ref c)
    (t : TabS H P (X.env.qual ++ "<lambda>")) (hdef : defaultsOf params X.env = ([], [])) (hfree : ∀ y ∈ scope.names, y.2 = .free → ∃ c, X.env.cells.lookup y.1 = some c)
    (h : ∀ (f k : Addr) (pm ctv : Value) (H1 : Hp) (s' : Shared), Inv X pins σ H1 s' → Made P (X.env.qual ++ "<lambda>") k H H1 →
      s'.heap.get? f = some (PySem.W.kla_obj "<lambda>" (X.env.qual ++ "<lambda>") params body scope (cloFrom X.env.cells scope.names []) pm k ctv) → H1 f = none → Q (.ref f) s') :
    wpAny (model X.prog X.w) X.A (eval (.Lambda params body scope pos) X.env) Q E s := by
  obtain ⟨ps, hP, ht, ha⟩ := t
  refine PySem.W.kla_eval hdef ?_
  have bP : s.heap.BuiltinsAt X.mg P := TB.bm.keeps I.bk
  have hP' := I.hok P _ hP
  cases hc : codeAmong pos ps.toList with
  | none =>
    refine PySem.W.kla_makeFunction (mg := X.mg) (c := c) (P := P) (ps := ps) (closure_ok hfree) I.ok.glob (I.mod.glob.keeps I.bk) hcode (TB.code.keeps I.bk) hP' ht hc TB.gP bP fun k ctv h' tk hx hge hlt ⟨k2, oc, vs, t, e2, hoc, hd, hv⟩ htb => ?_
    cases e2
    have nC := I.hok.fresh hge
    have I1 := inv_table (t' := tk) (more := #[rawInt pos.line, rawInt pos.col, .ref k]) (h' := h'.push (PySem.W.kla_obj "<lambda>" (X.env.qual ++ "<lambda>") params body scope (cloFrom X.env.cells scope.names []) ((X.mg "__name__").getD .none) k ctv)) I hP
      (fun b o hb e => Heap.get?_push_of_some _ (hx b o hb e)) (Heap.get?_push_of_some _ htb) hge ⟨oc, vs, t, Heap.get?_push_of_some _ hoc, hd, hv⟩
    refine h h'.objs.size k ((X.mg "__name__").getD .none) ctv _ _ I1 (.inr ⟨ps, pos, hP, ht, nC, ne_of_none hP nC, rfl⟩) (Heap.get?_push_size _ rfl) ?_
    have sz := Nat.le_trans hge (Nat.le_of_lt hlt)
    rw [upd_ne (Nat.ne_of_gt hlt), upd_ne (Nat.ne_of_gt (Nat.lt_of_lt_of_le (Heap.lt_size hP') sz))]
    exact I.hok.fresh sz
  | some cv =>
    obtain ⟨k, rfl, hco⟩ := ha pos cv hc
    refine PySem.W.kla_makeFunctionHit (mg := X.mg) (c := c) (P := P) (ps := ps) (closure_ok hfree) I.ok.glob (I.mod.glob.keeps I.bk) hcode (TB.code.keeps I.bk) hP' ht hc bP fun ctv h' tk hx hsz => ?_
    have I1 : Inv X pins σ H { s with heap := h'.push (PySem.W.kla_obj "<lambda>" (X.env.qual ++ "<lambda>") params body scope (cloFrom X.env.cells scope.names []) ((X.mg "__name__").getD .none) k ctv), toks := tk } := I.kept fun b o e => Heap.get?_push_of_some _ (hx b o e)
    exact h h'.objs.size k ((X.mg "__name__").getD .none) ctv H _ I1 (.inl ⟨rfl, hco⟩) (Heap.get?_push_size _ rfl) (I.hok.fresh hsz)
end
/-- the small heap behind it -/
theorem made_dr {c : Cn} {G : List Addr} {H H1 : Hp} {δ : List Bx} {P k : Addr} {q : Str} {i : Nat} (d : DR c G H δ) (e : δ[i]? = some (.tab P q)) (m : Made P q k H H1) : DR c G H1 δ ∧ Ext G H G H1 := by
  obtain ⟨a, ea, rfl, t⟩ := d.ob i _ e
  have aG : a ∈ G := List.mem_of_getElem? ea
  have na : ∀ {b o}, H b = some o → b ∉ G → b ≠ a := fun _ n z => n (z ▸ aG)
  obtain ⟨ps, hP, _, _⟩ := id t
  have x : Ext G H G H1 := by
    refine ⟨⟨[], by simp⟩, fun b u hu n => m.keep hu (na hu n), fun b u hu f => m.keep hu fun z => ?_, fun b hb => m.live hb⟩
    rw [z, hP] at hu; cases hu; exact f
  refine ⟨⟨d.len, d.nd, fun j o hj => ?_⟩, x⟩
  obtain ⟨b, eb, r⟩ := d.ob j o hj
  refine ⟨b, eb, ?_⟩
  by_cases hij : i = j
  · subst hij
    rw [e] at hj; cases hj
    rw [ea] at eb; cases eb
    exact ⟨rfl, m.tab t⟩
  · have nb : b ≠ a := fun z => by
      subst z
      obtain ⟨l1, q1⟩ := List.getElem?_eq_some_iff.mp ea
      obtain ⟨l2, q2⟩ := List.getElem?_eq_some_iff.mp eb
      exact hij ((List.getElem_inj d.nd).mp (q1.trans q2.symm))
    cases o with
    | lst xs =>
      obtain ⟨vs, e1, r1⟩ := r
      exact ⟨vs, m.keep e1 nb, RelL.extS x.toS r1⟩
    | ins _ _ => exact r.elim
    | tab P' q' =>
      obtain ⟨rfl, t'⟩ := r
      refine ⟨rfl, tab_step t' ?_ x.fix⟩
      obtain ⟨ps', h', _⟩ := t'
      rw [h', m.keep h' nb]
end Pv
set_option maxRecDepth 100000
set_option maxHeartbeats 4000000
/-! PvT: a def that hands a lambda to another def -/
namespace Pv
open PySem PySem.Spec PyProof.Rows L2 LamX NdefX

/-- a def's code object, its table -/
def En.Tab (E : En) (x : Str) (cc PP : Addr) : Prop :=
  (∀ (oc : Value) (od : Option Addr) (fd : FuncData) (osl : Array (Option Value)), E.c.K.lookup (E.c.fa x) = some ⟨oc, od, .func fd, osl⟩ → fd.code = .ref cc) ∧ TabB E.base E.mg cc PP
def lamQ (x : Str) : Str := (envOfC x default 0 0 .none).qual ++ "<lambda>"
/-- what such a def gives -/
def userF (np ti : Nat) (PP : Addr) (q : Str) (iv : Nat) (js : List Nat) (FW : Fn → D → List Bx → Res D) (L : List D → Fn) : Fn := fun (ds : List D) (δ : List Bx) =>
  if ds.length = np ∧ ds.all D.strong = true then match ds[iv]?, δ[ti]? with
    | some dv, some (.tab P' q') => if P' = PP ∧ q' = q then FW (L (js.map fun j => ds.getD j .non)) dv δ else .no
    | _, _ => .no
  else .no
theorem tG_post {α : Type} {c : Cn} {W : L2.St → WE} {f : RX α} {σ : L2.St} {H : Hp} {P : α → List Addr → Hp → Prop} {ρ : List Sl} {δ : List Bx} {G : List Addr} (s : SR c G H σ ρ) (d : DR c G H δ) (p : Post c (W σ) G H (f ρ δ) P) : tG c W f σ H P := ⟨ρ, δ, G, s, d, p⟩
variable {E : En} {tops : Tops} {free : List Str}
theorem lam_user_ok {Tg Tl : Ctx} {Φg Φl : Phi} {lvl : Nat} {x g a b vn : Str} {st stg : Stmt} {N ps psl fr : List Str} {smg : Sm} {exb : Ex} {iv ti cc PP : Addr} {js : List Nat} {pg pv pc pr lp : Pos} {params : Arguments} {lb : Expr} {lsc : Scope} {FW : Fn → D → List Bx → Res D}
    (ok : E.Ok tops free) (hx : (x, st) ∈ tops) (hg : (g, stg) ∈ tops)
    (hst : defBody st = [.Return (some (.Call (.Name g pg) [.Name vn pv, .Lambda params lb lsc lp] [] pc)) pr])
    (hS : scB N ps (defScope st) = true) (hgl : globB (defScope st) g = true) (hsg : special g = false) (hvn : N[iv]? = some vn) (hiv : iv < ps.length) (hvv : visB (defScope st) vn = true) (hsv : special vn = false)
    (hgc : chk Tg free [a, b] smg stg = true) (hgN : Tg.N[1]? = some b)
    (hbg : ∀ (kV doc pm : Value) (an : Option Addr) (cdv ct : Value) (us : List Value), us.length = 2 → bindArgs (PySem.W.fnOf g g (defArgs stg) (defBody stg) (defScope stg) .none kV doc pm an cdv ct) ⟨us, []⟩ = pure ([a, b].zip us))
    (hb : ∀ (kV doc pm : Value) (an : Option Addr) (cdv ct : Value) (us : List Value), us.length = ps.length → bindArgs (PySem.W.fnOf x x (defArgs st) (defBody st) (defScope st) .none kV doc pm an cdv ct) ⟨us, []⟩ = pure (ps.zip us))
    (hg0 : Tg.fns = [] ∧ Φg.fns = [] ∧ Φg.named = (fun _ => none) ∧ Tg.fvs = [] ∧ Tg.bims = [] ∧ Tg.cons = [])
    (hS' : nscB Tl.N psl fr lsc = true) (hlb : mE Tl lsc (fun _ => false) exb lb = true) (hcl : Calls E lvl Tl.fns Φl.fns) (hl0 : Φl.named = (fun _ => none) ∧ Φl.clo = (fun _ _ _ _ _ => none) ∧ Tl.fvs = [] ∧ Tl.bims = [] ∧ Tl.cons = []) (hlf : Tl.free.all (fun x => free.contains x) = true)
    (hdef : ∀ env, defaultsOf params env = ([], []))
    (hbl : ∀ (q : Str) (cl : List (Str × Addr)) (pm cv ctv : Value) (us : List Value), us.length = psl.length → bindArgs (PySem.W.kla_fn "<lambda>" q params lb lsc cl pm cv ctv) ⟨us, []⟩ = pure (psl.zip us))
    (hnd : ndefB (defScope st) lsc fr = true) (hjs : js.map (fun j => N[j]?) = fr.map some) (hjl : ∀ j ∈ js, j < ps.length) (tab : E.Tab x cc PP)
    (hkw : KwsOk x st ps (E.kws x)) (hkc0 : Tg.kcs = [] ∧ Tl.kcs = []) (hst0 : Tg.st = false ∧ Tl.st = false)
    (hFW : ∀ (Φ' : Phi) (f k : Addr) (wds : List D) (us : List V) (L : Fn) (dv : D) (δ : List Bx), Φ'.clo f k (lamQ x) wds us = some (psl.length, L) → dv.strong = true → mkF Tg.N.length 2 (semS Φ' smg) [dv, .clo f k (lamQ x) wds us] δ = FW L dv δ) :
    DefOk E x ps.length (lvl + 3) (userF ps.length ti PP (lamQ x) iv js FW (lamF Tl.N.length psl.length (sem Φl exb).d)) := by
  obtain ⟨fd, D⟩ := ok.defs _ hx
  obtain ⟨fdg, Dg⟩ := ok.defs _ hg
  have mg := ok.glo _ hg
  have S := scB_ok hS
  have S' := nscope_by hS'
  refine ⟨fd, ps, ?_, D.kp, D.bindsN hb, ok.glo _ hx, rfl, kws_ok D hkw⟩
  have bg := Dg.bindsN (ps := [a, b]) hbg
  have kpg := Dg.kp
  obtain ⟨oc, od, dV, kV, doc, pm, an, cdv, ct, osl, rfl, lk, hcd, -, -⟩ := D.ex
  obtain ⟨ocg, odg, dVg, kVg, docg, pmg, ang, cdvg, ctg, oslg, rfl, lkg, hcdg, -, -⟩ := Dg.ex
  have hcv : cdv = .ref cc := tab.1 _ _ _ _ lk
  refine ⟨fun vs H Q E h => h.len, fun A outer s0 H0 args us0 vs Q gd0 gd e0 bt rv h => run_ofS (N := N) lk hcd S gd0 e0 bt rv h.len fun hr => ?_⟩
  rw [hst]
  have Sg := (show FnScope Tg.N [a, b] (defScope stg) from by
    unfold chk at hgc
    simp only [Bool.and_eq_true] at hgc
    exact scB_ok hgc.1.1)
  have hgm : mB Tg (defScope stg) (fun _ => true) smg (defBody stg) = true := by
    unfold chk at hgc
    simp only [Bool.and_eq_true] at hgc
    exact hgc.1.2
  have hgf : Tg.free.all (fun x => free.contains x) = true := by
    unfold chk at hgc
    simp only [Bool.and_eq_true] at hgc
    exact hgc.2
  obtain ⟨G, ds, δ, rl, dr, hlen, po⟩ := h
  unfold userF at po
  split at po
  rotate_left
  · exact po.elim
  rename_i hh
  split at po
  rotate_left
  · exact po.elim
  rename_i dv P' q' edv etb
  split at po
  rotate_left
  · exact po.elim
  rename_i hq
  obtain ⟨rfl, rfl⟩ := hq
  have hvl : vs.length = ps.length := by rw [rl.length]; exact hh.1
  -- the captured values
  have hcap : ∃ uws : List V, js.map (slotAt (L2.start N vs)) = uws.map some ∧ RelL E.c G H0 (js.map fun j => ds.getD j .non) uws := by
    clear po hjs
    induction js with
    | nil => exact ⟨[], rfl, by simp [RelL]⟩
    | cons j js ih =>
      obtain ⟨uws, e1, e2⟩ := ih fun j hj => hjl j (List.mem_cons_of_mem _ hj)
      have hj := hjl j (List.mem_cons_self ..)
      have hjd : j < ds.length := by rw [hh.1]; exact hj
      obtain ⟨v, e3, e4, e5⟩ := rl.get (List.getElem?_eq_getElem hjd)
      refine ⟨v :: uws, ?_, ?_⟩
      · rw [List.map_cons, List.map_cons, e1]
        congr 1
        refine slotAt_of ?_
        unfold L2.start
        rw [List.getElem?_append_left (by rw [List.length_map, hvl]; exact hj), List.getElem?_map, e3]
        rfl
      · rw [List.map_cons]
        simp only [RelL]
        refine ⟨v, uws, rfl, ?_, ?_, e2⟩
        · rw [List.getD_eq_getElem?_getD, List.getElem?_eq_getElem hjd]; exact e4
        · rw [List.getD_eq_getElem?_getD, List.getElem?_eq_getElem hjd]; exact e5
  obtain ⟨uws, hws, rws⟩ := hcap
  obtain ⟨v, ev, stv, rv⟩ := rl.get edv
  have hroom : Room (lvl + 2) (A.deeper (envOfC x (defScope st) s0.heap.objs.size (E.c.fa x) cdv)) := hr
  refine ⟨_, pss_one (ps_ret (te := fun σ H Q' => σ = L2.start N vs ∧ H = H0 ∧ Q' = Q) ⟨fun pins s σ H Q' I ⟨e1, e2, e3⟩ => ?_⟩), rfl, rfl, rfl⟩
  subst e1
  subst e2
  subst e3
  have hsl : (L2.start N vs)[iv]? = some (some v) := by
    unfold L2.start
    rw [List.getElem?_append_left (by rw [List.length_map, hvl]; exact hiv), List.getElem?_map, ev]
    rfl
  refine wpAny_Call_Name_kw (ld_glob I (show Gl _ g from by simp only [globB, decide_eq_true_eq] at hgl; exact hgl) mg ?_ (special_of hsg).1)
  refine PySem.W.callWith_K (h₀ := E.base) I.ok.mod.kin kpg ?_ rfl rfl
  refine Calls.spliced_cons (thn ((pe_var (pos := pv) (i := iv) hvn (by
    unfold visB at hvv
    unfold Vis
    split at hvv
    · rename_i e; exact .inl e
    · rename_i e; exact .inr (.inl e)
    · rename_i e; exact .inr (.inr e)
    · cases hvv) (special_of hsv).1 (special_of hsv).2.1).run pins s _ H (fun w' H1 => w' = v ∧ H1 = H) I ⟨v, hsl, rfl, rfl⟩) fun u s1 ⟨w', H1, I1, r1, q1⟩ => ?_)
  obtain ⟨ew, eH⟩ := q1
  subst ew
  subst eH
  obtain ⟨a0, ea0, tb⟩ := dr.ob ti _ etb
  obtain ⟨rfl, tb⟩ := tb
  refine Calls.spliced_cons (lam_new I1 tab.2 (show (envOfC x (defScope st) s0.heap.objs.size (E.c.fa x) cdv).code = .ref cc from hcv) tb (hdef _) (fun y hy e => (ndef_free hnd y hy e).elim (fun z => I1.ok.has _ (.inl z)) fun z => I1.ok.has _ (.inr z)) fun f k pm' ctv' H2 s2 I2 m hf hfn => ?_)
  refine Calls.spliced_nil ⟨I2.kIn, ?_⟩
  obtain ⟨dr2, x2⟩ := made_dr dr (i := ti) etb m
  have cp := Caps.made I2.ok (ndef_free hnd) (ndef_fr hnd) hjs
  have C := cells_of I2 cp
  rw [hws] at C
  have rX : Room (lvl + 1 + 1) (A.deeper (envOfC x (defScope st) s0.heap.objs.size (E.c.fa x) cdv)) := hroom
  have rc : codeAny (model E.P E.w) (A.deeper (envOfC x (defScope st) s0.heap.objs.size (E.c.fa x) cdv)) (.call (.ref (E.c.fa g)) ⟨[u, .ref f], []⟩) (CR CX0 (envOfC x (defScope st) s0.heap.objs.size (E.c.fa x) cdv :: outer) E.P E.w H2 s2 Q' E0) s2 := by
    refine run_ofS (N := Tg.N) (ps := [a, b]) (us := [u, .ref f]) (vs := [w', .ref f]) lkg hcdg Sg rX I2.env0 (bg s2 [u, .ref f] I2.kIn rfl) (.cons r1 (.cons rfl .nil)) rfl fun hr' => ?_
    let L := lamF Tl.N.length psl.length (sem Φl exb).d
    have pick : ∃ Φ' : Phi, Φ'.fns = [] ∧ Φ'.named = (fun _ => none) ∧ Φ'.clo f k (lamQ x) (js.map fun j => ds.getD j .non) uws = some (psl.length, L (js.map fun j => ds.getD j .non)) ∧ ∀ f' k' q' ws' us' np' F', Φ'.clo f' k' q' ws' us' = some (np', F') → f' = f ∧ k' = k ∧ q' = lamQ x ∧ ws' = (js.map fun j => ds.getD j .non) ∧ us' = uws ∧ np' = psl.length ∧ F' = L (js.map fun j => ds.getD j .non) := by
      classical
      refine ⟨{ fns := [], clo := fun f' k' q' ws' us' => if f' = f ∧ k' = k ∧ q' = lamQ x ∧ ws' = (js.map fun j => ds.getD j .non) ∧ us' = uws then some (psl.length, L (js.map fun j => ds.getD j .non)) else none }, rfl, rfl, if_pos ⟨rfl, rfl, rfl, rfl, rfl⟩, fun f' k' q' ws' us' np' F' e => ?_⟩
      dsimp only at e
      split at e
      · rename_i h
        cases e
        exact ⟨h.1, h.2.1, h.2.2.1, h.2.2.2.1, h.2.2.2.2, rfl, rfl⟩
      · cases e
    obtain ⟨Φ', p1, p2, p3, p4⟩ := pick
    obtain ⟨G0, hread⟩ := body_read (N := Tg.N) (c := E.c) (np := 2) (body := semS Φ' smg) (vs := [w', .ref f]) (H := H2) (Q := Q') (E := E0) (NpOk Sg) (by
      refine ⟨G, [dv, .clo f k (lamQ x) (js.map fun j => ds.getD j .non) uws], δ, ?_, dr2, rfl, ?_⟩
      · simp only [RelL, Rel]
        exact ⟨w', _, rfl, stv, rv.ext x2, _, _, rfl, rfl, ⟨rfl, m.code, RelL.extS x2.toS rws⟩, rfl⟩
      · rw [hFW Φ' f k _ uws _ dv _ p3 stv]
        exact Post.later po x2)
    refine ⟨_, (sOk Tg E.c Φ' smg (defScope stg) (fun _ => true) _ G0 H2 ⟨⟨rfl, rfl, Sg.nd, rfl, rfl, ?un, gd, fun _ _ => rfl, fun k y np F e1 e2 => ?fn, fun k y np F n ks pm e1 e2 e3 => ?fk, fun y np F e => ?nm, fun y e => ?fv, fun i y a' k' q ws us np F hi hv hs e => ?cl, fun y e => ok.free y ?fr, fun e => ?gc, fun e => ?gc', fun p hp => ?co, fun z => by rw [hst0.1] at z; cases z⟩, Sg.kind, passes_of rfl⟩).2 _ hgm, hread⟩
    case un => have := hr'.un; show A.units + 3 + 3 + 200 < cLine; have h2 : A.units + 3 + 3 + 16 * (lvl + 1) + 200 < cLine := hr'.un; omega
    case fn => rw [p1] at e2; cases e2
    case fk => rw [p1] at e2; cases e2
    case nm => rw [p2] at e; cases e
    case fv => rw [hg0.2.2.2.1] at e; cases e
    case gc' => rw [hg0.2.2.2.2.1] at e; cases e
    case gc => rw [hg0.2.2.2.2.1] at e; cases e
    case co => rw [hg0.2.2.2.2.2] at hp; cases hp
    case fr =>
      have := List.all_eq_true.mp hgf y (by simpa using e)
      simpa using this
    case cl =>
      obtain ⟨rfl, rfl, rfl, rfl, rfl, rfl, rfl⟩ := p4 _ _ _ _ _ _ _ e
      intro ea es pp pos' t ha hst' hpp
      refine clo_pe (F := ⟨"<lambda>", lamQ x, params, [], lsc, _, k'⟩) (N := Tl.N) (ps := psl) (fr := fr) (k := lvl) (body := lb) S' hr' gd rfl hf hfn C (fun us hus => hbl _ _ _ _ _ us hus) (fun A2 outer2 s3 H3 hr3 gd3 => ?_) hi hv hs ha hst' hpp ?_
      · refine ((eOk Tl E.c exb Φl lsc (fun _ => false) _ ⟨rfl, rfl, S'.nd, rfl, rfl, ?un2, gd3, (fun _ z => Bool.noConfusion z), fun k y np F e1 e2 => ?fn2, fun k y np F n ks pm e1 e2 e3 => ?fk2, fun y np F e => ?nm2, fun y e => ?fv2, fun i y a' k' q ws us np F hi hv hs e => ?cl2, fun y e => ok.free y ?fr2, fun e => ?gc2, fun e => ?gc2', fun p hp => ?co2, fun z => by rw [hst0.2] at z; cases z⟩).1 _ hlb).d
        case un2 => have h2 := hr3.un; show A2.units + 3 + 200 < cLine; have h2 : A2.units + 3 + 16 * lvl + 200 < cLine := hr3.un; omega
        case fn2 =>
          obtain ⟨l, hl, fd', ps', F1, kp, bd, mm, _⟩ := hcl.get e1 e2
          exact ⟨_, ⟨l, fd', ps', F1, hr3.mono hl, kp, bd⟩, mm⟩
        case fk2 => rw [hkc0.2] at e3; cases e3
        case nm2 => rw [hl0.1] at e; cases e
        case fv2 => rw [hl0.2.2.1] at e; cases e
        case cl2 => rw [hl0.2.1] at e; cases e
        case fr2 =>
          have := List.all_eq_true.mp hlf y (by simpa using e)
          simpa using this
        case gc2' => rw [hl0.2.2.2.1] at e; cases e
        case gc2 => rw [hl0.2.2.2.1] at e; cases e
        case co2 => rw [hl0.2.2.2.2] at hp; cases hp
      · have q := congrArg List.length S'.pre
        have q2 := congrArg List.length hjs
        rw [List.length_take, List.length_append] at q
        rw [List.length_map, List.length_map] at q2
        rw [List.length_map]
        omega
  refine wpAny_call (codeAny_mono rc fun r s' hq => ?_)
  cases r with
  | error e => exact (show False from hq).elim
  | ok fl =>
    cases fl with
    | ret u => exact I2.after hq
    | next => exact False.elim hq
    | brk => exact False.elim hq
    | cont => exact False.elim hq
end Pv
set_option maxRecDepth 100000
set_option maxHeartbeats 1000000
/-! PvV: the small syntax reckoned by simp -/
namespace Pv
open PySem PySem.Spec PyProof.Rows L2

/-- a choice by a truth, kept from the rewriting of propositions -/
def bI {α : Type} (b : Bool) (x y : α) : α := if b then x else y
@[simp] theorem bI_true {α : Type} (x y : α) : bI true x y = x := (rfl)
@[simp] theorem bI_false {α : Type} (x y : α) : bI false x y = y := (rfl)
theorem bI_if {α : Type} (b : Bool) (x y : α) : (if b then x else y) = bI b x y := rfl
theorem bI_of {α : Type} {b : Bool} (h : b = true) (x y : α) : bI b x y = x := by rw [h]; rfl
theorem bI_not {α : Type} {b : Bool} (h : b = false) (x y : α) : bI b x y = y := by rw [h]; rfl
@[simp] theorem bI_tB (b y : Bool) : bI b true y = (b || y) := by cases b <;> rfl
@[simp] theorem bI_Bf (b x : Bool) : bI b x false = (b && x) := by cases b <;> rfl
@[simp] theorem bI_fB (b y : Bool) : bI b false y = (!b && y) := by cases b <;> rfl
@[simp] theorem bI_Bt (b x : Bool) : bI b x true = (!b || x) := by cases b <;> rfl
@[simp] theorem bI_same {α : Type} (b : Bool) (x : α) : bI b x x = x := by cases b <;> rfl
@[simp] theorem bI_some {α : Type} (c : Bool) (x y : α) : bI c (some x) (some y) = some (bI c x y) := by cases c <;> rfl
section
variable {Φ : Phi} {ρ : List Sl} {δ : List Bx}
/-! ### parts of valS -/
@[simp] theorem valS_d (d : RX D) : (valS d).d = d := (rfl)
@[simp] theorem valS_t (d : RX D) : (valS d).t = asB d := (rfl)
@[simp] theorem valS_i (d : RX D) : (valS d).i = itF seqD d := (rfl)
@[simp] theorem valS_j (d : RX D) : (valS d).j = itF seqS d := (rfl)
@[simp] theorem valS_o (d : RX D) : (valS d).o = optA (some d) := (rfl)
@[simp] theorem m_non : sem Φ .non = valS fun _ δ => .ok .non δ := (rfl)
@[simp] theorem m_bl (b : Bool) : sem Φ (.bl b) = valS fun _ δ => .ok (.bl b) δ := (rfl)
@[simp] theorem m_int (b : Int) : sem Φ (.int b) = valS fun _ δ => .ok (.int b) δ := (rfl)
@[simp] theorem m_str (b : Str) : sem Φ (.str b) = valS fun _ δ => .ok (.str b) δ := (rfl)
@[simp] theorem m_tyn (b : String) : sem Φ (.tyn b) = valS fun _ δ => .ok (.ty b) δ := (rfl)
@[simp] theorem m_glo (x : Str) (d : D) : sem Φ (.glo x d) = valS fun _ δ => .ok d δ := (rfl)
@[simp] theorem m_fnv (x : Str) : sem Φ (.fnv x) = valS fun _ δ => .ok (.fn x) δ := (rfl)
@[simp] theorem m_var (i : Nat) : sem Φ (.var i) = valS fun ρ δ => ofO (rdSl ρ[i]?) δ := (rfl)
@[simp] theorem m_bin (op : Operator) (a b : Ex) : sem Φ (.bin op a b) = valS (bin2 (dBin op) (sem Φ a).d (sem Φ b).d) := (rfl)
@[simp] theorem m_neg (a : Ex) : sem Φ (.neg a) = valS (un1 dNeg (sem Φ a).d) := (rfl)
@[simp] theorem m_not_d (a : Ex) : (sem Φ (.not a)).d = notD (sem Φ a).d := (rfl)
@[simp] theorem m_not_t (a : Ex) : (sem Φ (.not a)).t = notT (sem Φ a).t := (rfl)
@[simp] theorem m_and_d (a b : Ex) : (sem Φ (.and a b)).d = andD (sem Φ a).d (sem Φ b).d := (rfl)
@[simp] theorem m_and_t (a b : Ex) : (sem Φ (.and a b)).t = andT (sem Φ a).t (sem Φ b).t := (rfl)
@[simp] theorem m_or_d (a b : Ex) : (sem Φ (.or a b)).d = orD (sem Φ a).d (sem Φ b).d := (rfl)
@[simp] theorem m_or_t (a b : Ex) : (sem Φ (.or a b)).t = orT (sem Φ a).t (sem Φ b).t := (rfl)
@[simp] theorem m_cmp (op : CmpOp) (a b : Ex) : sem Φ (.cmp op a b) = valS (bin2 (dCmp op) (sem Φ a).d (sem Φ b).d) := (rfl)
@[simp] theorem m_cmp2 (o1 o2 : CmpOp) (a b c : Ex) : sem Φ (.cmp2 o1 o2 a b c) = valS (chain2 (dCmp o1) (dCmp o2) (sem Φ a).d (sem Φ b).d (sem Φ c).d) := (rfl)
@[simp] theorem m_ite_d (t a b : Ex) : (sem Φ (.ite t a b)).d = iteD (sem Φ t).t (sem Φ a).d (sem Φ b).d := (rfl)
@[simp] theorem m_ite_i (t a b : Ex) : (sem Φ (.ite t a b)).i = itF seqD (iteD (sem Φ t).t (sem Φ a).d (sem Φ b).d) := (rfl)
@[simp] theorem m_ite_j (t a b : Ex) : (sem Φ (.ite t a b)).j = itF seqS (iteD (sem Φ t).t (sem Φ a).d (sem Φ b).d) := (rfl)
@[simp] theorem m_ite_o (t a b : Ex) : (sem Φ (.ite t a b)).o = optA (some (iteD (sem Φ t).t (sem Φ a).d (sem Φ b).d)) := (rfl)
@[simp] theorem m_tup (es : Ex) : sem Φ (.tup es) = valS (tupF (sem Φ es).a) := (rfl)
@[simp] theorem m_lst (es : Ex) : sem Φ (.lst es) = valS (lstF (sem Φ es).a) := (rfl)
@[simp] theorem m_bag (es : Ex) : sem Φ (.bag es) = valS (bagF (sem Φ es).a) := (rfl)
@[simp] theorem m_idx (a b : Ex) : sem Φ (.idx a b) = valS (idxF (sem Φ a).d (sem Φ b).d) := (rfl)
@[simp] theorem m_slc (a lo hi : Ex) : sem Φ (.slc a lo hi) = valS (slc (sem Φ a).d (sem Φ lo).o (sem Φ hi).o) := (rfl)
@[simp] theorem m_call (k : Nat) (es : Ex) : sem Φ (.call k es) = valS (callP Φ k (sem Φ es).a) := (rfl)
@[simp] theorem m_bi (b : Bi) (es : Ex) : sem Φ (.bi b es) = valS (callF (biG b) (sem Φ es).a) := (rfl)
@[simp] theorem m_lc (p : Pat) (vs : List Nat) (it cond elt : Ex) : sem Φ (.lc p vs it cond elt) = valS (lcF (sem Φ it).i p vs (sem Φ.bare cond).t (sem Φ.bare elt).d) := (rfl)
@[simp] theorem m_lc2 (p : Pat) (vs : List Nat) (it cond : Ex) (p1 : Pat) (vs1 : List Nat) (it1 cond1 elt : Ex) : sem Φ (.lc2 p vs it cond p1 vs1 it1 cond1 elt) = valS (lc2F (sem Φ it).j p vs (sem Φ.bare cond).t (sem Φ.bare it1).j p1 vs1 (sem Φ.bare cond1).t (sem Φ.bare elt).d) := (rfl)
@[simp] theorem m_nil_t : (sem Φ .nil).t = yesT := (rfl)
@[simp] theorem m_nil_a : (sem Φ .nil).a = nilA := (rfl)
@[simp] theorem m_nil_o : (sem Φ .nil).o = optA none := (rfl)
@[simp] theorem m_cons_a (a r : Ex) : (sem Φ (.cons a r)).a = consA (sem Φ a).d (sem Φ r).a := (rfl)
@[simp] theorem m_rng1_i (es : Ex) : (sem Φ (.rng1 es)).i = itA rng1 (sem Φ es).a := (rfl)
@[simp] theorem m_rng1_j (es : Ex) : (sem Φ (.rng1 es)).j = itA rng1 (sem Φ es).a := (rfl)
@[simp] theorem m_rng2_i (es : Ex) : (sem Φ (.rng2 es)).i = itA rng2 (sem Φ es).a := (rfl)
@[simp] theorem m_rng2_j (es : Ex) : (sem Φ (.rng2 es)).j = itA rng2 (sem Φ es).a := (rfl)
@[simp] theorem m_srt (t : Ty) (es : Ex) : sem Φ (.srt t es) = valS (callF (dSorted t) (sem Φ es).a) := (rfl)
@[simp] theorem m_srtSet (es : Ex) : sem Φ (.srtSet es) = valS (callF dSortSet (sem Φ es).a) := (rfl)
@[simp] theorem m_srtSetI (es : Ex) : sem Φ (.srtSetI es) = valS (callF dSortSetI (sem Φ es).a) := (rfl)
@[simp] theorem m_lrng (e : Ex) : sem Φ (.lrng e) = valS (un1 dLrng (sem Φ e).d) := (rfl)
@[simp] theorem m_comb_i (es : Ex) : (sem Φ (.combE es)).i = itA combG (sem Φ es).a := (rfl)
@[simp] theorem m_comb_j (es : Ex) : (sem Φ (.combE es)).j = itA combG (sem Φ es).a := (rfl)
@[simp] theorem m_best (mx : Bool) (es : Ex) : sem Φ (.best mx es) = valS (callF (dBest mx) (sem Φ es).a) := (rfl)
@[simp] theorem m_enum_i (es : Ex) : (sem Φ (.enumE es)).i = itA enumG (sem Φ es).a := (rfl)
@[simp] theorem m_enum_j (es : Ex) : (sem Φ (.enumE es)).j = itA enumG (sem Φ es).a := (rfl)
@[simp] theorem m_zip_i (es : Ex) : (sem Φ (.zipE es)).i = itA zipG (sem Φ es).a := (rfl)
@[simp] theorem m_zip_j (es : Ex) : (sem Φ (.zipE es)).j = itA zipG (sem Φ es).a := (rfl)
@[simp] theorem m_callv (i : Nat) (es : Ex) : sem Φ (.callv i es) = valS (callV Φ i (sem Φ es).a) := (rfl)
@[simp] theorem m_tupS (es : Ex) : sem Φ (.tupS es) = valS (tupF (sem Φ es).a) := (rfl)
@[simp] theorem m_lstS (es : Ex) : sem Φ (.lstS es) = valS (lstF (sem Φ es).a) := (rfl)
@[simp] theorem m_star_a (a r : Ex) : (sem Φ (.star a r)).a = starA (sem Φ a).d (sem Φ r).a := (rfl)
@[simp] theorem m_cnt (a b : Ex) : sem Φ (.cnt a b) = valS (cntF (sem Φ a).d (sem Φ b).d) := (rfl)
@[simp] theorem m_rep (neg : Bool) (a b : Ex) : sem Φ (.rep neg a b) = valS (repF neg (sem Φ a).d (sem Φ b).d) := (rfl)
@[simp] theorem m_callK (k n m : Nat) (pm : List Nat) (es ks : Ex) : sem Φ (.callK k n m pm es ks) = valS (callKP Φ k n m pm (sem Φ es).a (sem Φ ks).a) := (rfl)
@[simp] theorem m_dcE (p : Pat) (vs : List Nat) (it cond key elt : Ex) : sem Φ (.dcE p vs it cond key elt) = valS (dcF (sem Φ it).i p vs (sem Φ.bare cond).t (sem Φ.bare key).d (sem Φ.bare elt).d) := (rfl)

/-! ### readings at slots -/
@[simp] theorem r_dcF (fi : RX (List D)) (p : Pat) (vs : List Nat) (ft : RX Bool) (fk fe : RX D) : dcF fi p vs ft fk fe ρ δ = (fi ρ δ).bind fun ds δ1 => (dloop (dstep p vs ft fk fe ρ) ds [] [] δ1).bind fun r δ2 => .ok (.wkd false r.1 r.2) δ2 := (rfl)
@[simp] theorem r_newd (i : Nat) (t : Bool) : newdS i t ρ δ = if i < ρ.length then .ok (.nx, ρ.set i (.ownd t [] [])) δ else .no := (rfl)
theorem r_put (i : Nat) (fk fv : RX D) : putS i fk fv ρ δ = (ofO (dctAt ρ i) δ).bind fun q _ => (fv ρ δ).bind fun v δ1 => if v.strong then (fk ρ δ1).bind fun k δ2 => if okK q.1 k && decide (q.2.1.length < cap) then .ok (.nx, ρ.set i (.ownd q.1 (putL q.1 q.2.1 q.2.2 k v).1 (putL q.1 q.2.1 q.2.2 k v).2)) δ2 else .no else .no := by
  unfold putS; split <;> rename_i h <;> rw [h] <;> rfl
@[simp] theorem r_starA (f : RX D) (g : RX (List D)) : starA f g ρ δ = (f ρ δ).bind fun d δ1 => (ofO (seqD d) δ1).bind fun xs δ2 => (g ρ δ2).bind fun ds δ3 => .ok (xs ++ ds) δ3 := (rfl)
@[simp] theorem r_cntF (fa fb : RX D) : cntF fa fb ρ δ = (fa ρ δ).bind fun x δ1 => (ofO (listD x) δ1).bind fun xs δ2 => (fb ρ δ2).bind fun y δ3 => ofO (cntL xs y) δ3 := (rfl)
@[simp] theorem r_repF (neg : Bool) (fa fb : RX D) : repF neg fa fb ρ δ = (fa ρ δ).bind fun x δ1 => if rpOk x then (fb ρ δ1).bind fun y δ2 => if rpOk y && same x y then .ok (.bl (!neg)) δ2 else .no else .no := (rfl)
@[simp] theorem r_callKO (F : Fn) (n m : Nat) (pm : List Nat) (f g : RX (List D)) : callKO F n m pm f g ρ δ = (f ρ δ).bind fun ds δ1 => (g ρ δ1).bind fun es δ2 => if ds.length = n ∧ es.length = m ∧ ds.all D.strong = true ∧ es.all D.strong = true then F (pm.map fun i => (ds ++ es).getD i .non) δ2 else .no := (rfl)
@[simp] theorem r_bin2 (g : D → D → Option D) (fa fb : RX D) : bin2 g fa fb ρ δ = (fa ρ δ).bind fun x δ1 => (fb ρ δ1).bind fun y δ2 => ofO (g x y) δ2 := (rfl)
@[simp] theorem r_un1 (g : D → Option D) (f : RX D) : un1 g f ρ δ = (f ρ δ).bind fun d δ1 => ofO (g d) δ1 := (rfl)
@[simp] theorem r_asB (f : RX D) : asB f ρ δ = (f ρ δ).bind fun d δ1 => ofO (toB d) δ1 := (rfl)
@[simp] theorem r_chain2 (g g' : D → D → Option D) (fa fb fc : RX D) : chain2 g g' fa fb fc ρ δ = (fa ρ δ).bind fun x δ1 => (fb ρ δ1).bind fun y δ2 => (ofO ((g x y).bind toB) δ2).bind fun k δ3 => bI k ((fc ρ δ3).bind fun z δ4 => ofO (g' y z) δ4) (.ok (.bl false) δ3) := (rfl)
@[simp] theorem r_andT (f g : RX Bool) : andT f g ρ δ = (f ρ δ).bind fun b δ1 => bI b (g ρ δ1) (.ok false δ1) := (rfl)
@[simp] theorem r_orT (f g : RX Bool) : orT f g ρ δ = (f ρ δ).bind fun b δ1 => bI b (.ok true δ1) (g ρ δ1) := (rfl)
@[simp] theorem r_notT (f : RX Bool) : notT f ρ δ = (f ρ δ).bind fun b δ1 => .ok (!b) δ1 := (rfl)
@[simp] theorem r_iteD {α : Type} (t : RX Bool) (f g : RX α) : iteD t f g ρ δ = (t ρ δ).bind fun b δ1 => bI b (f ρ δ1) (g ρ δ1) := (rfl)
@[simp] theorem r_andD (f g : RX D) : andD f g ρ δ = (f ρ δ).bind fun d δ1 => (ofO (toB d) δ1).bind fun b δ2 => bI b (g ρ δ2) (.ok (.bl false) δ2) := (rfl)
@[simp] theorem r_orD (f g : RX D) : orD f g ρ δ = (f ρ δ).bind fun d δ1 => (ofO (toB d) δ1).bind fun b δ2 => bI b (.ok (.bl true) δ2) (g ρ δ2) := (rfl)
@[simp] theorem r_notD (f : RX D) : notD f ρ δ = (f ρ δ).bind fun d δ1 => (ofO (toB d) δ1).bind fun b δ2 => .ok (.bl (!b)) δ2 := (rfl)
@[simp] theorem r_nilA : nilA ρ δ = .ok [] δ := (rfl)
@[simp] theorem r_consA (f : RX D) (g : RX (List D)) : consA f g ρ δ = (f ρ δ).bind fun d δ1 => (g ρ δ1).bind fun ds δ2 => .ok (d :: ds) δ2 := (rfl)
@[simp] theorem r_tupF (f : RX (List D)) : tupF f ρ δ = (f ρ δ).bind fun ds δ1 => if ds.length ≤ cap && ds.all D.strong then .ok (.tup ds) δ1 else .no := (rfl)
@[simp] theorem r_lstF (f : RX (List D)) : lstF f ρ δ = (f ρ δ).bind fun ds δ1 => if ds.length ≤ cap && ds.all D.strong then .ok (.lst ds) δ1 else .no := (rfl)
@[simp] theorem r_lstN (f : RX (List D)) : lstN f ρ δ = (f ρ δ).bind fun ds δ1 => if ds.length ≤ cap && ds.all D.strong then .ok ds δ1 else .no := (rfl)
@[simp] theorem r_bagF (f : RX (List D)) : bagF f ρ δ = (f ρ δ).bind fun ds δ1 => if ds.length ≤ cap && ds.all D.strong then .ok (.ref δ1.length) (δ1 ++ [.lst ds]) else .no := (rfl)
@[simp] theorem r_callF (g : List D → Option D) (f : RX (List D)) : callF g f ρ δ = (f ρ δ).bind fun ds δ1 => ofO (g ds) δ1 := (rfl)
@[simp] theorem r_callO (F : Fn) (np : Nat) (f : RX (List D)) : callO F np f ρ δ = (f ρ δ).bind fun ds δ1 => if ds.length = np ∧ ds.all D.strong = true then F ds δ1 else .no := (rfl)
@[simp] theorem r_itF (g : D → Option (List D)) (f : RX D) : itF g f ρ δ = (f ρ δ).bind fun d δ1 => ofO (g d) δ1 := (rfl)
@[simp] theorem r_itA (g : List D → Option (List D)) (f : RX (List D)) : itA g f ρ δ = (f ρ δ).bind fun d δ1 => ofO (g d) δ1 := (rfl)
@[simp] theorem r_yesT : yesT ρ δ = .ok true δ := (rfl)
@[simp] theorem r_optN : optA none ρ δ = .ok none δ := (rfl)
def toIO : D → Option (Option Int)
  | .int i => some (some i)
  | _ => none
@[simp] theorem toIO_int (i : Int) : toIO (.int i) = some (some i) := (rfl)
@[simp] theorem r_optS (f : RX D) : optA (some f) ρ δ = (f ρ δ).bind fun d δ1 => ofO (toIO d) δ1 := by
  unfold optA
  simp only
  congr 1; funext d δ1; cases d <;> rfl
@[simp] theorem r_slc (f : RX D) (lo hi : RX (Option Int)) : slc f lo hi ρ δ = (f ρ δ).bind fun x δ1 => (lo ρ δ1).bind fun l δ2 => (hi ρ δ2).bind fun h δ3 => ofO (dCut x l h) δ3 := (rfl)
def idxK (x y : D) (δ : List Bx) : Res D := match x, y with
  | .ref i, .int k => match δ[i]? with
    | some (.lst xs) => ofO (atI xs k) δ
    | _ => .no
  | x, y => ofO (dIdx x y) δ
@[simp] theorem r_idxF (fa fb : RX D) : idxF fa fb ρ δ = (fa ρ δ).bind fun x δ1 => (fb ρ δ1).bind fun y δ2 => idxK x y δ2 := (rfl)
@[simp] theorem idxK_tup (xs : List D) (k : Int) : idxK (.tup xs) (.int k) δ = ofO (atI xs k) δ := (rfl)
@[simp] theorem idxK_lst (xs : List D) (k : Int) : idxK (.lst xs) (.int k) δ = ofO (atI xs k) δ := (rfl)
@[simp] theorem idxK_wk (xs : List D) (k : Int) : idxK (.wk xs) (.int k) δ = ofO (atI xs k) δ := (rfl)
@[simp] theorem idxK_sc (xs : List D) (k : Int) : idxK (.sc xs) (.int k) δ = ofO (atI xs k) δ := (rfl)
theorem r_callP (k : Nat) (f : RX (List D)) : callP Φ k f ρ δ = match Φ.fns[k]? with
  | some (np, F) => callO F np f ρ δ
  | none => .no := by
  unfold callP
  split <;> rename_i h <;> rw [h] <;> rfl
@[simp] theorem r_callP0 (np : Nat) (F : Fn) (r : List (Nat × Fn)) (nm cl) (f : RX (List D)) : callP ⟨(np, F) :: r, nm, cl⟩ 0 f = callO F np f := (rfl)
@[simp] theorem r_callKP0 (np : Nat) (F : Fn) (r : List (Nat × Fn)) (nm cl) (n m : Nat) (pm : List Nat) (f g : RX (List D)) : callKP ⟨(np, F) :: r, nm, cl⟩ 0 n m pm f g = callKO F n m pm f g := (rfl)
@[simp] theorem r_callKPS (p : Nat × Fn) (r : List (Nat × Fn)) (nm cl) (k n m : Nat) (pm : List Nat) (f g : RX (List D)) : callKP ⟨p :: r, nm, cl⟩ (k + 1) n m pm f g = callKP ⟨r, nm, cl⟩ k n m pm f g := by
  unfold callKP; simp
@[simp] theorem r_callPS (p : Nat × Fn) (r : List (Nat × Fn)) (nm cl) (k : Nat) (f : RX (List D)) : callP ⟨p :: r, nm, cl⟩ (k + 1) f = callP ⟨r, nm, cl⟩ k f := by
  unfold callP; simp
@[simp] theorem bare_mk (r : List (Nat × Fn)) (nm cl) : Phi.bare ⟨r, nm, cl⟩ = ⟨r, nm, fun _ _ _ _ _ => none⟩ := (rfl)
@[simp] theorem r_lcF (fi : RX (List D)) (p : Pat) (vs : List Nat) (ft : RX Bool) (fe : RX D) : lcF fi p vs ft fe ρ δ = (fi ρ δ).bind fun ds δ1 => (cloop (cstep p vs ft fe ρ) ds δ1).bind fun rs δ2 => .ok (.lst rs) δ2 := (rfl)
@[simp] theorem r_lc2F (fi : RX (List D)) (p : Pat) (vs : List Nat) (ft : RX Bool) (fi1 : RX (List D)) (p1 : Pat) (vs1 : List Nat) (ft1 : RX Bool) (fe : RX D) : lc2F fi p vs ft fi1 p1 vs1 ft1 fe ρ δ =
  (fi ρ δ).bind fun ds δ1 => (cloop2 (cstep2 p vs ft fi1 p1 vs1 ft1 fe ρ) ds δ1).noer.bind fun rs δ2 => if rs.length ≤ cap then .ok (.lst rs) δ2 else .no := rfl

/-! ### results -/
/-- what follows is not looked at ahead of what is known -/
theorem bind_cg {α β : Type} {r r' : Res α} (h : r = r') (k : α → List Bx → Res β) : r.bind k = r'.bind k := by rw [h]
@[simp] theorem bind_ite {α β : Type} (c : Prop) [Decidable c] (x y : Res α) (k : α → List Bx → Res β) : (if c then x else y).bind k = if c then x.bind k else y.bind k := by split <;> rfl
@[simp] theorem noer_ite {α : Type} (c : Prop) [Decidable c] (x y : Res α) : (if c then x else y).noer = if c then x.noer else y.noer := by split <;> rfl
@[simp] theorem bind_bI {α β : Type} (c : Bool) (x y : Res α) (k : α → List Bx → Res β) : (bI c x y).bind k = bI c (x.bind k) (y.bind k) := by cases c <;> rfl
@[simp] theorem bind_assoc' {α β γ : Type} (r : Res α) (k : α → List Bx → Res β) (k' : β → List Bx → Res γ) : (r.bind k).bind k' = r.bind fun a δ => (k a δ).bind k' := by cases r <;> rfl
@[simp] theorem bind_pure' {α : Type} (r : Res α) : (r.bind fun a δ => .ok a δ) = r := by cases r <;> rfl
@[simp] theorem noer_bI {α : Type} (c : Bool) (x y : Res α) : (bI c x y).noer = bI c x.noer y.noer := by cases c <;> rfl
@[simp] theorem bI_okO (c : Bool) (x y : Option D) : bI c (Res.ok x δ) (Res.ok y δ) = Res.ok (bI c x y) δ := by cases c <;> rfl
@[simp] theorem bI_okD (c : Bool) (x y : D) : bI c (Res.ok x δ) (Res.ok y δ) = Res.ok (bI c x y) δ := by cases c <;> rfl
@[simp] theorem bI_okB (c : Bool) (x y : Bool) : bI c (Res.ok x δ) (Res.ok y δ) = Res.ok (bI c x y) δ := by cases c <;> rfl
@[simp] theorem bI_okL (c : Bool) (x y : List D) : bI c (Res.ok x δ) (Res.ok y δ) = Res.ok (bI c x y) δ := by cases c <;> rfl
@[simp] theorem bI_int (c : Bool) (x y : Int) : bI c (D.int x) (D.int y) = D.int (bI c x y) := by cases c <;> rfl
@[simp] theorem bI_bl (c : Bool) (x y : Bool) : bI c (D.bl x) (D.bl y) = D.bl (bI c x y) := by cases c <;> rfl
@[simp] theorem bI_tup (c : Bool) (x y : List D) : bI c (D.tup x) (D.tup y) = D.tup (bI c x y) := by cases c <;> rfl
@[simp] theorem bI_lst (c : Bool) (x y : List D) : bI c (D.lst x) (D.lst y) = D.lst (bI c x y) := by cases c <;> rfl
@[simp] theorem noer_no {α : Type} : (Res.no : Res α).noer = .no := (rfl)
@[simp] theorem ite_okO (c : Prop) [Decidable c] (x y : Option D) : (if c then Res.ok x δ else Res.ok y δ) = Res.ok (if c then x else y) δ := by split <;> rfl
@[simp] theorem ite_okD (c : Prop) [Decidable c] (x y : D) : (if c then Res.ok x δ else Res.ok y δ) = Res.ok (if c then x else y) δ := by split <;> rfl
@[simp] theorem ite_okB (c : Prop) [Decidable c] (x y : Bool) : (if c then Res.ok x δ else Res.ok y δ) = Res.ok (if c then x else y) δ := by split <;> rfl
@[simp] theorem ite_okL (c : Prop) [Decidable c] (x y : List D) : (if c then Res.ok x δ else Res.ok y δ) = Res.ok (if c then x else y) δ := by split <;> rfl
@[simp] theorem ite_int (c : Prop) [Decidable c] (x y : Int) : (if c then D.int x else D.int y) = D.int (if c then x else y) := by split <;> rfl
@[simp] theorem ite_bl (c : Prop) [Decidable c] (x y : Bool) : (if c then D.bl x else D.bl y) = D.bl (if c then x else y) := by split <;> rfl
@[simp] theorem ite_dtup (c : Prop) [Decidable c] (x y : List D) : (if c then D.tup x else D.tup y) = D.tup (if c then x else y) := by split <;> rfl
@[simp] theorem ite_dlst (c : Prop) [Decidable c] (x y : List D) : (if c then D.lst x else D.lst y) = D.lst (if c then x else y) := by split <;> rfl

/-! ### statements -/
/-- what follows a statement -/
def thenK (g : RS) : Fl × List Sl → List Bx → Res (Fl × List Sl)
  | (.nx, ρ), δ => g ρ δ
  | (.rt d, ρ), δ => .ok (.rt d, ρ) δ
  | (.bk, ρ), δ => .ok (.bk, ρ) δ
  | (.ct, ρ), δ => .ok (.ct, ρ) δ
@[simp] theorem thenK_nx (g : RS) : thenK g (.nx, ρ) δ = g ρ δ := (rfl)
@[simp] theorem thenK_rt (g : RS) (d : D) : thenK g (.rt d, ρ) δ = .ok (.rt d, ρ) δ := (rfl)
@[simp] theorem thenK_bk (g : RS) : thenK g (.bk, ρ) δ = .ok (.bk, ρ) δ := (rfl)
@[simp] theorem thenK_ct (g : RS) : thenK g (.ct, ρ) δ = .ok (.ct, ρ) δ := (rfl)
@[simp] theorem r_seqS2 (f g : RS) : seqS2 f g ρ δ = (f ρ δ).bind (thenK g) := by
  unfold seqS2; congr 1; funext p δ1; obtain ⟨a, b⟩ := p; cases a <;> rfl
@[simp] theorem s_nil : semS Φ .nil = skipS := (rfl)
@[simp] theorem s_seq (s r : Sm) : semS Φ (.seq s r) = seqS2 (semS Φ s) (semS Φ r) := (rfl)
@[simp] theorem s_frz (i : Nat) (r : Sm) : semS Φ (.frz i r) = seqS2 (frzS i) (semS Φ r) := (rfl)
@[simp] theorem s_skip : semS Φ .skip = skipS := (rfl)
@[simp] theorem s_bk : semS Φ .bk = bkS := (rfl)
@[simp] theorem s_ct : semS Φ .ct = ctS := (rfl)
@[simp] theorem s_asg (p : Pat) (e : Ex) : semS Φ (.asg p e) = asgS p (sem Φ e).d := (rfl)
@[simp] theorem s_setLc (i : Nat) (p : Pat) (vs : List Nat) (it cond elt : Ex) : semS Φ (.setLc i p vs it cond elt) = asgS (.nm i) (lcF (sem Φ it).i p vs (sem Φ.bare cond).t (sem Φ.bare elt).d) := (rfl)
@[simp] theorem s_new (i : Nat) (es : Ex) : semS Φ (.new i es) = newS i (lstN (sem Φ es).a) := (rfl)
@[simp] theorem s_newL (i : Nat) (es : Ex) : semS Φ (.newL i es) = newS i (ofList (sem Φ es).a) := (rfl)
@[simp] theorem s_mpar (is : List Nat) (ims : List (Bool × Ex)) : semS Φ (.mpar is ims) = mparS is (semM Φ ims) := (rfl)
@[simp] theorem s_ite (t : Ex) (a b : Sm) : semS Φ (.ite t a b) = ifS (sem Φ t).t (semS Φ a) (semS Φ b) := (rfl)
@[simp] theorem s_fo (p : Pat) (it : Ex) (b : Sm) : semS Φ (.fo p it b) = forS (sem Φ it).j p (semS Φ b) := (rfl)
@[simp] theorem s_wh (t : Ex) (n : Nat) (b : Sm) : semS Φ (.wh t n b) = whS (sem Φ t).t (semS Φ b) n := (rfl)
@[simp] theorem s_ret (e : Ex) : semS Φ (.ret e) = retS (sem Φ e).d := (rfl)
@[simp] theorem s_retN : semS Φ .retN = retN := (rfl)
@[simp] theorem s_drop (e : Ex) : semS Φ (.drop e) = dropS (sem Φ e).d := (rfl)
@[simp] theorem s_app (i : Nat) (e : Ex) : semS Φ (.app i e) = appS i (sem Φ e).d := (rfl)
@[simp] theorem s_ext (i : Nat) (e : Ex) : semS Φ (.ext i e) = extS i (sem Φ e).d := (rfl)
@[simp] theorem s_bag (i : Nat) (k : Int) (e : Ex) : semS Φ (.bag i k e) = bagS i k (sem Φ e).d := (rfl)
@[simp] theorem s_bag2 (i : Nat) (k : Int) (m : Nat) (e : Ex) : semS Φ (.bag2 i k m e) = bag2S i k m (sem Φ e).d := (rfl)
@[simp] theorem s_setLc2 (i : Nat) (p : Pat) (vs : List Nat) (it cond : Ex) (p1 : Pat) (vs1 : List Nat) (it1 cond1 elt : Ex) : semS Φ (.setLc2 i p vs it cond p1 vs1 it1 cond1 elt) = asgS (.nm i) (lc2F (sem Φ it).j p vs (sem Φ.bare cond).t (sem Φ.bare it1).j p1 vs1 (sem Φ.bare cond1).t (sem Φ.bare elt).d) := (rfl)
@[simp] theorem s_newd (i : Nat) (t : Bool) : semS Φ (.newd i t) = newdS i t := (rfl)
@[simp] theorem s_putd (i : Nat) (k v : Ex) : semS Φ (.putd i k v) = putS i (sem Φ k).d (sem Φ v).d := (rfl)
@[simp] theorem s_any : semS Φ .any ρ δ = .no := (rfl)
@[simp] theorem n_nil : semM Φ [] = nilM := (rfl)
@[simp] theorem n_true (es : Ex) (r : List (Bool × Ex)) : semM Φ ((true, es) :: r) = consMo (lstN (sem Φ es).a) (semM Φ r) := (rfl)
@[simp] theorem n_false (e : Ex) (r : List (Bool × Ex)) : semM Φ ((false, e) :: r) = consMd (sem Φ e).d (semM Φ r) := (rfl)
@[simp] theorem r_nilM : nilM ρ δ = .ok [] δ := (rfl)
@[simp] theorem r_consMd (f : RX D) (g : RX (List Im)) : consMd f g ρ δ = (f ρ δ).bind fun d δ1 => (g ρ δ1).bind fun ds δ2 => if d.strong then .ok (.d d :: ds) δ2 else .no := (rfl)
@[simp] theorem r_consMo (f : RX (List D)) (g : RX (List Im)) : consMo f g ρ δ = (f ρ δ).bind fun d δ1 => (g ρ δ1).bind fun ds δ2 => .ok (.o d :: ds) δ2 := (rfl)
@[simp] theorem r_skip : skipS ρ δ = .ok (.nx, ρ) δ := (rfl)
@[simp] theorem r_bk : bkS ρ δ = .ok (.bk, ρ) δ := (rfl)
@[simp] theorem r_ct : ctS ρ δ = .ok (.ct, ρ) δ := (rfl)
@[simp] theorem r_ret (f : RX D) : retS f ρ δ = (f ρ δ).bind fun d δ1 => .ok (.rt d, ρ) δ1 := (rfl)
@[simp] theorem r_retN : retN ρ δ = .ok (.rt .non, ρ) δ := (rfl)
@[simp] theorem r_drop (f : RX D) : dropS f ρ δ = (f ρ δ).bind fun _ δ1 => .ok (.nx, ρ) δ1 := (rfl)
@[simp] theorem r_if (t : RX Bool) (f g : RS) : ifS t f g ρ δ = (t ρ δ).bind fun b δ1 => bI b (f ρ δ1) (g ρ δ1) := (rfl)
/-- slots, then on -/
def nxO (o : Option (List Sl)) (δ : List Bx) : Res (Fl × List Sl) := match o with
  | some ρ => .ok (.nx, ρ) δ
  | none => .no
@[simp] theorem nxO_some : nxO (some ρ) δ = .ok (.nx, ρ) δ := (rfl)
@[simp] theorem r_asg (p : Pat) (f : RX D) : asgS p f ρ δ = (f ρ δ).bind fun d δ1 => nxO (bindP p d ρ) δ1 := (rfl)
@[simp] theorem r_mpar (is : List Nat) (f : RX (List Im)) : mparS is f ρ δ = (f ρ δ).bind fun ms δ1 => nxO (storeM is ms ρ) δ1 := (rfl)
@[simp] theorem r_new (i : Nat) (f : RX (List D)) : newS i f ρ δ = (f ρ δ).bind fun xs δ1 => if i < ρ.length then .ok (.nx, ρ.set i (.own xs)) δ1 else .no := (rfl)
@[simp] theorem r_for (fi : RX (List D)) (p : Pat) (f : RS) : forS fi p f ρ δ = (fi ρ δ).bind fun ds δ1 => floop p f ds ρ δ1 := (rfl)
@[simp] theorem ownAt_own (xs : List D) (h : ρ[i]? = some (.own xs)) : ownAt ρ i = some xs := by unfold ownAt; rw [h]
def appK (ρ : List Sl) (i : Nat) (xs : List D) (d : D) (δ : List Bx) : Res (Fl × List Sl) := if d.strong && decide (xs.length < cap) then .ok (.nx, ρ.set i (.own (xs ++ [d]))) δ else .no
theorem r_app (i : Nat) (f : RX D) : appS i f ρ δ = (ofO (ownAt ρ i) δ).bind fun xs _ => (f ρ δ).bind fun d δ1 => if d.strong && decide (xs.length < cap) then .ok (.nx, ρ.set i (.own (xs ++ [d]))) δ1 else .no := by
  unfold appS; split <;> rename_i h <;> rw [h] <;> rfl
def lstO : D → Option (List D)
  | .lst ys => some ys
  | _ => none
@[simp] theorem lstO_lst (ys : List D) : lstO (.lst ys) = some ys := (rfl)
theorem r_ext (i : Nat) (f : RX D) : extS i f ρ δ = (ofO (ownAt ρ i) δ).bind fun xs _ => (f ρ δ).bind fun d δ1 => (ofO (lstO d) δ1).bind fun ys δ2 => if xs.length + ys.length ≤ cap then .ok (.nx, ρ.set i (.own (xs ++ ys))) δ2 else .no := by
  unfold extS; split <;> rename_i h <;> rw [h]
  · rfl
  · simp only [ofO_some, Res.bind_ok]; congr 1; funext d δ1; cases d <;> rfl
theorem r_frz (i : Nat) : frzS i ρ δ = (ofO (ownAt ρ i) δ).bind fun xs _ => .ok (.nx, ρ.set i (.v (.lst xs))) δ := by
  unfold frzS; split <;> rename_i h <;> rw [h] <;> rfl
/-! ### a def's end -/
def finF : Fl × List Sl → List Bx → Res D
  | (.rt d, _), δ => .ok d δ
  | (.nx, _), δ => .ok .non δ
  | _, _ => .no
@[simp] theorem finF_rt (d : D) : finF (.rt d, ρ) δ = .ok d δ := (rfl)
@[simp] theorem finF_nx : finF (.nx, ρ) δ = .ok .non δ := (rfl)
@[simp] theorem r_mkF (n np : Nat) (body : RS) (ds : List D) : mkF n np body ds δ = if ds.length = np ∧ ds.all D.strong = true then (body (ds.map Sl.v ++ List.replicate (n - np) .no) δ).bind finF else .no := by
  unfold mkF
  split
  · cases h : body (ds.map Sl.v ++ List.replicate (n - np) .no) δ with
    | ok p δ1 => obtain ⟨a, b⟩ := p; cases a <;> rfl
    | er _ _ _ => rfl
    | no => rfl
  · rfl
end
end Pv
set_option maxRecDepth 100000
set_option maxHeartbeats 1000000
/-! PvW: typed data, read by simp -/
namespace Pv
open PySem PySem.Spec PyProof.Rows L2

theorem beq_dec {α : Type} [BEq α] [LawfulBEq α] [DecidableEq α] (a b : α) : (a == b) = decide (a = b) := by
  by_cases h : a = b <;> simp [h]
def lotI (l : List Int) : D := .tup (l.map .int)
def bkD (b : List (List Int)) : D := .tup (b.map lotI)
theorem lotI_nil : lotI [] = .tup [] := rfl
theorem bkD_nil : bkD [] = .tup [] := rfl
@[simp] theorem bI_lot (c : Bool) (x y : List Int) : bI c (lotI x) (lotI y) = lotI (bI c x y) := by cases c <;> rfl
@[simp] theorem bI_bk (c : Bool) (x y : List (List Int)) : bI c (bkD x) (bkD y) = bkD (bI c x y) := by cases c <;> rfl
@[simp] theorem tup_int (l : List Int) : D.tup (l.map D.int) = lotI l := (rfl)
@[simp] theorem tup_lot (b : List (List Int)) : D.tup (b.map lotI) = bkD b := (rfl)
@[simp] theorem strong_lot (l : List Int) : (lotI l).strong = true := (rfl)
@[simp] theorem strong_bk (l : List (List Int)) : (bkD l).strong = true := (rfl)
@[simp] theorem strong_int (l : Int) : (D.int l).strong = true := (rfl)
@[simp] theorem strong_bl (l : Bool) : (D.bl l).strong = true := (rfl)
@[simp] theorem strong_str (l : Str) : (D.str l).strong = true := (rfl)
@[simp] theorem strong_non : D.non.strong = true := (rfl)
@[simp] theorem strong_tup (l : List D) : (D.tup l).strong = true := (rfl)
@[simp] theorem strong_lst (l : List D) : (D.lst l).strong = true := (rfl)
@[simp] theorem strong_ref (l : Nat) : (D.ref l).strong = true := (rfl)
@[simp] theorem strong_fn (l : Str) : (D.fn l).strong = true := (rfl)
@[simp] theorem strong_sc (l : List D) : (D.sc l).strong = true := (rfl)
@[simp] theorem strong_clo (f k : Addr) (q : Str) (ws : List D) (us : List V) : (D.clo f k q ws us).strong = true := (rfl)
@[simp] theorem seqD_lot (l : List Int) : seqD (lotI l) = some (l.map .int) := (rfl)
@[simp] theorem seqD_bk (l : List (List Int)) : seqD (bkD l) = some (l.map lotI) := (rfl)
@[simp] theorem seqD_tup (l : List D) : seqD (.tup l) = some l := (rfl)
@[simp] theorem seqD_lst (l : List D) : seqD (.lst l) = some l := (rfl)
@[simp] theorem seqD_wk (l : List D) : seqD (.wk l) = some l := (rfl)
@[simp] theorem seqS_lot (l : List Int) : seqS (lotI l) = some (l.map .int) := (rfl)
@[simp] theorem seqS_bk (l : List (List Int)) : seqS (bkD l) = some (l.map lotI) := (rfl)
@[simp] theorem seqS_tup (l : List D) : seqS (.tup l) = some l := (rfl)
@[simp] theorem seqS_lst (l : List D) : seqS (.lst l) = some l := (rfl)
@[simp] theorem listD_lst (l : List D) : listD (.lst l) = some l := (rfl)
@[simp] theorem listD_wk (l : List D) : listD (.wk l) = some l := (rfl)
/-! ### calls -/
@[simp] theorem biG_len : biG .len = dLen := (rfl)
@[simp] theorem biG_abs : biG .abs = dAbs := (rfl)
@[simp] theorem biG_int : biG .int = dInt := (rfl)
@[simp] theorem biG_all : biG .all = dAll := (rfl)
@[simp] theorem biG_any : biG .any = dAny := (rfl)
@[simp] theorem biG_sum : biG .sum = dSum := (rfl)
@[simp] theorem biG_max : biG .max = dMax := (rfl)
@[simp] theorem biG_min : biG .min = dMin := (rfl)
@[simp] theorem biG_tuple : biG .tuple = dTuple := (rfl)
@[simp] theorem biG_list : biG .list = dList := (rfl)
@[simp] theorem biG_gcd : biG .gcd = dGcd := (rfl)
@[simp] theorem biG_divmod : biG .divmod = dDivmod := (rfl)
@[simp] theorem biG_isi : biG .isi = dIsi := (rfl)
@[simp] theorem biG_minT : biG .minT = dMinT := (rfl)
@[simp] theorem biG_srtK : biG .srtK = dSortK := (rfl)
@[simp] theorem biG_listK : biG .listK = dListK := (rfl)
@[simp] theorem dBin_add : dBin .Add = dAdd := (rfl)
@[simp] theorem dBin_sub : dBin .Sub = dSub := (rfl)
@[simp] theorem dBin_mul : dBin .Mult = dMul := (rfl)
@[simp] theorem dBin_div : dBin .FloorDiv = dDiv := (rfl)
@[simp] theorem dBin_mod : dBin .Mod = dMod := (rfl)
@[simp] theorem dBin_pow : dBin .Pow = dPow := (rfl)
@[simp] theorem dBin_shl : dBin .LShift = dShl := (rfl)
@[simp] theorem dBin_or : dBin .BitOr = dOr := (rfl)
@[simp] theorem dBin_xor : dBin .BitXor = dXor := (rfl)
@[simp] theorem dBin_and : dBin .BitAnd = dAnd := (rfl)
@[simp] theorem dCmp_eq : dCmp .Eq = dEq := (rfl)
@[simp] theorem dCmp_ne : dCmp .NotEq = dNe := (rfl)
@[simp] theorem dCmp_lt : dCmp .Lt = dLt := (rfl)
@[simp] theorem dCmp_le : dCmp .LtE = dLe := (rfl)
@[simp] theorem dCmp_gt : dCmp .Gt = dGt := (rfl)
@[simp] theorem dCmp_ge : dCmp .GtE = dGe := (rfl)
@[simp] theorem dCmp_in : dCmp .In = dInX := (rfl)
@[simp] theorem dCmp_nin : dCmp .NotIn = dNinX := (rfl)
@[simp] theorem dInX_lot (x : D) (l : List Int) : dInX x (lotI l) = dIn x (lotI l) := (rfl)
@[simp] theorem dInX_bk (x : D) (l : List (List Int)) : dInX x (bkD l) = dIn x (bkD l) := (rfl)
@[simp] theorem dInX_tup (x : D) (l : List D) : dInX x (.tup l) = dIn x (.tup l) := (rfl)
@[simp] theorem dInX_lst (x : D) (l : List D) : dInX x (.lst l) = dIn x (.lst l) := (rfl)
@[simp] theorem dInX_wk (x : D) (l : List D) : dInX x (.wk l) = dIn x (.wk l) := (rfl)
@[simp] theorem dNinX_lot (x : D) (l : List Int) : dNinX x (lotI l) = dNin x (lotI l) := (rfl)
@[simp] theorem dNinX_bk (x : D) (l : List (List Int)) : dNinX x (bkD l) = dNin x (bkD l) := (rfl)
@[simp] theorem dNinX_tup (x : D) (l : List D) : dNinX x (.tup l) = dNin x (.tup l) := (rfl)
@[simp] theorem dNinX_lst (x : D) (l : List D) : dNinX x (.lst l) = dNin x (.lst l) := (rfl)
@[simp] theorem dNinX_wk (x : D) (l : List D) : dNinX x (.wk l) = dNin x (.wk l) := (rfl)
@[simp] theorem dInX_wkd (x : D) (t : Bool) (ks vs : List D) : dInX x (.wkd t ks vs) = if okK t x then some (.bl (memK t x ks)) else none := (rfl)
@[simp] theorem dNinX_wkd (x : D) (t : Bool) (ks vs : List D) : dNinX x (.wkd t ks vs) = if okK t x then some (.bl (!memK t x ks)) else none := (rfl)
@[simp] theorem dCmp_is : dCmp .Is = dIs := (rfl)
@[simp] theorem dCmp_isn : dCmp .IsNot = dIsn := (rfl)
@[simp] theorem dLen_lot (l : List Int) : dLen [lotI l] = some (.int l.length) := by
  show some (D.int ((l.map D.int).length : Nat)) = _
  rw [List.length_map]
@[simp] theorem dLen_bk (l : List (List Int)) : dLen [bkD l] = some (.int l.length) := by
  show some (D.int ((l.map lotI).length : Nat)) = _
  rw [List.length_map]
@[simp] theorem dLen_tup (l : List D) : dLen [.tup l] = some (.int l.length) := (rfl)
@[simp] theorem dLen_lst (l : List D) : dLen [.lst l] = some (.int l.length) := (rfl)
@[simp] theorem dLen_wk (l : List D) : dLen [.wk l] = some (.int l.length) := (rfl)
@[simp] theorem dLen_sc (l : List D) : dLen [.sc l] = some (.int l.length) := (rfl)
@[simp] theorem dInt_int (i : Int) : dInt [.int i] = some (.int i) := (rfl)
@[simp] theorem dInt_bl (i : Bool) : dInt [.bl i] = some (.int (if i then 1 else 0)) := (rfl)
@[simp] theorem dAbs_int (i : Int) : dAbs [.int i] = some (.int (if i < 0 then -i else i)) := (rfl)
@[simp] theorem blsD_map {α : Type} (p : α → Bool) : ∀ xs : List α, blsD (xs.map fun x => .bl (p x)) = some (xs.map p)
  | [] => rfl
  | x :: xs => by simp only [List.map_cons, blsD, blsD_map p xs, Option.map_some]
@[simp] theorem intsD_map {α : Type} (p : α → Int) : ∀ xs : List α, intsD (xs.map fun x => .int (p x)) = some (xs.map p)
  | [] => rfl
  | x :: xs => by simp only [List.map_cons, intsD, intsD_map p xs, Option.map_some]
@[simp] theorem intsD_map' : ∀ xs : List Int, intsD (xs.map .int) = some xs
  | [] => rfl
  | x :: xs => by simp only [List.map_cons, intsD, intsD_map' xs, Option.map_some]
@[simp] theorem dAll_lst (xs : List D) : dAll [.lst xs] = (blsD xs).map fun bs => .bl (bs.all id) := (rfl)
@[simp] theorem dAny_lst (xs : List D) : dAny [.lst xs] = (blsD xs).map fun bs => .bl (bs.any id) := (rfl)
@[simp] theorem dSum_lst (xs : List D) : dSum [.lst xs] = (intsD xs).map fun bs => .int bs.sum := (rfl)
@[simp] theorem dTuple_lst (xs : List D) : dTuple [.lst xs] = some (.tup xs) := (rfl)
@[simp] theorem dTuple_tup (xs : List D) : dTuple [.tup xs] = some (.tup xs) := (rfl)
@[simp] theorem dTuple_lot (xs : List Int) : dTuple [lotI xs] = some (lotI xs) := (rfl)
@[simp] theorem dTuple_bk (xs : List (List Int)) : dTuple [bkD xs] = some (bkD xs) := (rfl)
@[simp] theorem dTuple_wk (xs : List D) : dTuple [.wk xs] = some (.tup xs) := (rfl)
@[simp] theorem dList_lst (xs : List D) : dList [.lst xs] = some (.lst xs) := (rfl)
@[simp] theorem dList_tup (xs : List D) : dList [.tup xs] = some (.lst xs) := (rfl)
@[simp] theorem dList_lot (xs : List Int) : dList [lotI xs] = some (.lst (xs.map .int)) := (rfl)
@[simp] theorem dList_bk (xs : List (List Int)) : dList [bkD xs] = some (.lst (xs.map lotI)) := (rfl)
@[simp] theorem dGcd_int (a b : Int) : dGcd [.int a, .int b] = some (.int (Nat.gcd a.natAbs b.natAbs : Nat)) := (rfl)
@[simp] theorem dMax_int (a b : Int) : dMax [.int a, .int b] = some (.int (if b > a then b else a)) := (rfl)
@[simp] theorem dMin_int (a b : Int) : dMin [.int a, .int b] = some (.int (if b < a then b else a)) := (rfl)
@[simp] theorem dMax_lst (xs : List D) : dMax [.lst xs] = (intsD xs).bind (best1 max) := (rfl)
@[simp] theorem dMin_lst (xs : List D) : dMin [.lst xs] = (intsD xs).bind (best1 min) := (rfl)
@[simp] theorem toB_bl (b : Bool) : toB (.bl b) = some b := (rfl)
@[simp] theorem dNeg_int (a : Int) : dNeg (.int a) = some (.int (-a)) := (rfl)
@[simp] theorem isi_int_int (a : Int) : dIsi [.int a, .ty "int"] = some (.bl true) := (rfl)
@[simp] theorem isi_int_bool (a : Int) : dIsi [.int a, .ty "bool"] = some (.bl false) := (rfl)
@[simp] theorem isi_int_tuple (a : Int) : dIsi [.int a, .ty "tuple"] = some (.bl false) := (rfl)
@[simp] theorem isi_int_str (a : Int) : dIsi [.int a, .ty "str"] = some (.bl false) := (rfl)
@[simp] theorem isi_bl_int (a : Bool) : dIsi [.bl a, .ty "int"] = some (.bl true) := (rfl)
@[simp] theorem isi_bl_bool (a : Bool) : dIsi [.bl a, .ty "bool"] = some (.bl true) := (rfl)
@[simp] theorem isi_tup_tuple (a : List D) : dIsi [.tup a, .ty "tuple"] = some (.bl true) := (rfl)
@[simp] theorem isi_tup_int (a : List D) : dIsi [.tup a, .ty "int"] = some (.bl false) := (rfl)
@[simp] theorem isi_tup_str (a : List D) : dIsi [.tup a, .ty "str"] = some (.bl false) := (rfl)
@[simp] theorem isi_tup_bool (a : List D) : dIsi [.tup a, .ty "bool"] = some (.bl false) := (rfl)
@[simp] theorem isi_lot_tuple (a : List Int) : dIsi [lotI a, .ty "tuple"] = some (.bl true) := (rfl)
@[simp] theorem isi_lot_int (a : List Int) : dIsi [lotI a, .ty "int"] = some (.bl false) := (rfl)
@[simp] theorem isi_bk_tuple (a : List (List Int)) : dIsi [bkD a, .ty "tuple"] = some (.bl true) := (rfl)
@[simp] theorem isi_str_str (a : Str) : dIsi [.str a, .ty "str"] = some (.bl true) := (rfl)

/-! ### operators -/
@[simp] theorem dAdd_int (a b : Int) : dAdd (.int a) (.int b) = some (.int (a + b)) := (rfl)
@[simp] theorem dSub_int (a b : Int) : dSub (.int a) (.int b) = some (.int (a - b)) := (rfl)
@[simp] theorem dMul_int (a b : Int) : dMul (.int a) (.int b) = if small64 a || small64 b then some (.int (a * b)) else none := (rfl)
@[simp] theorem dMod_int (a b : Int) : dMod (.int a) (.int b) = if b ≠ 0 then some (.int (a.fmod b)) else none := (rfl)
@[simp] theorem dDiv_int (a b : Int) : dDiv (.int a) (.int b) = if b ≠ 0 ∧ b.natAbs < 1073741824 then some (.int (a.fdiv b)) else none := (rfl)
@[simp] theorem dLe_int (a b : Int) : dLe (.int a) (.int b) = some (.bl (decide (a ≤ b))) := (rfl)
@[simp] theorem dGt_int (a b : Int) : dGt (.int a) (.int b) = some (.bl (decide (b < a))) := (rfl)
@[simp] theorem dGe_int (a b : Int) : dGe (.int a) (.int b) = some (.bl (decide (b ≤ a))) := (rfl)
@[simp] theorem dLt_int (a b : Int) : dLt (.int a) (.int b) = some (.bl (decide (a < b))) := (rfl)
theorem dAdd_tup (a b : List D) (h : a.length + b.length ≤ cap) : dAdd (.tup a) (.tup b) = some (.tup (a ++ b)) := by simp [dAdd, h]
theorem dAdd_lst (a b : List D) (h : a.length + b.length ≤ cap) : dAdd (.lst a) (.lst b) = some (.lst (a ++ b)) := by simp [dAdd, h]
theorem dAdd_lot (a b : List Int) (h : a.length + b.length ≤ cap) : dAdd (lotI a) (lotI b) = some (lotI (a ++ b)) := by
  have := dAdd_tup (a.map .int) (b.map .int) (by simpa using h)
  rw [← List.map_append] at this; exact this
theorem okL_map {α : Type} {f : α → D} {n : Nat} (h : ∀ x, okD n (f x) = true) : ∀ xs : List α, okL n (xs.map f) = true
  | [] => rfl
  | x :: xs => by simp [okL, h x, okL_map h xs]
@[simp] theorem okD_int (n : Nat) (i : Int) : okD n (.int i) = true := by cases n <;> rfl
@[simp] theorem okD_bl (n : Nat) (i : Bool) : okD n (.bl i) = true := by cases n <;> rfl
@[simp] theorem okD_non (n : Nat) : okD n .non = true := by cases n <;> rfl
@[simp] theorem okD_tup (n : Nat) (xs : List D) : okD (n + 1) (.tup xs) = okL n xs := (rfl)
@[simp] theorem okD_lst (n : Nat) (xs : List D) : okD (n + 1) (.lst xs) = okL n xs := (rfl)
@[simp] theorem okL_nil (n : Nat) : okL n [] = true := (rfl)
@[simp] theorem okL_cons (n : Nat) (x : D) (xs : List D) : okL n (x :: xs) = (okD n x && okL n xs) := (rfl)
@[simp] theorem okL_ints (n : Nat) (l : List Int) : okL n (l.map .int) = true := okL_map (fun _ => okD_int _ _) _
@[simp] theorem okD_lot (n : Nat) (l : List Int) : okD (n + 1) (lotI l) = true := by simp [lotI, -tup_int]
@[simp] theorem okL_lots (n : Nat) (l : List (List Int)) : okL (n + 1) (l.map lotI) = true := okL_map (fun _ => okD_lot _ _) _
@[simp] theorem okD_bk (n : Nat) (l : List (List Int)) : okD (n + 2) (bkD l) = true := by simp [bkD, -tup_lot]
theorem okd_eq (x : D) : okd x = okD 40 x := rfl
@[simp] theorem okd_int (i : Int) : okd (.int i) = true := (rfl)
@[simp] theorem okd_bl (i : Bool) : okd (.bl i) = true := (rfl)
@[simp] theorem okd_non : okd .non = true := (rfl)
@[simp] theorem okd_lot (l : List Int) : okd (lotI l) = true := okD_lot 39 l
@[simp] theorem okd_bk (l : List (List Int)) : okd (bkD l) = true := okD_bk 38 l
@[simp] theorem okd_tup (l : List D) : okd (.tup l) = okL 39 l := (rfl)
@[simp] theorem okd_lst (l : List D) : okd (.lst l) = okL 39 l := (rfl)
@[simp] theorem eqL_ints : ∀ a b : List Int, eqL (a.map .int) (b.map .int) = decide (a = b)
  | [], [] => rfl
  | [], _ :: _ => rfl
  | _ :: _, [] => rfl
  | x :: a, y :: b => by simp [eqL, eqD, eqL_ints a b, Bool.decide_and, decide_eq_decide, beq_dec]
@[simp] theorem eqD_lot (a b : List Int) : eqD (lotI a) (lotI b) = decide (a = b) := eqL_ints a b
@[simp] theorem eqL_lots : ∀ a b : List (List Int), eqL (a.map lotI) (b.map lotI) = decide (a = b)
  | [], [] => rfl
  | [], _ :: _ => rfl
  | _ :: _, [] => rfl
  | x :: a, y :: b => by simp [eqL, eqL_lots a b, Bool.decide_and]
@[simp] theorem eqD_bk (a b : List (List Int)) : eqD (bkD a) (bkD b) = decide (a = b) := eqL_lots a b
@[simp] theorem eqD_int (a b : Int) : eqD (.int a) (.int b) = decide (a = b) := by simp [eqD, beq_dec]
@[simp] theorem eqD_bl (a b : Bool) : eqD (.bl a) (.bl b) = decide (a = b) := by simp [eqD, beq_dec]
@[simp] theorem eqD_lot_nil (a : List Int) : eqD (lotI a) (.tup []) = decide (a = []) := by
  cases a <;> rfl
@[simp] theorem eqD_bk_nil (a : List (List Int)) : eqD (bkD a) (.tup []) = decide (a = []) := by
  cases a <;> rfl
@[simp] theorem eqD_nil_lot (a : List Int) : eqD (.tup []) (lotI a) = decide (a = []) := by
  cases a <;> rfl
@[simp] theorem eqD_nil_bk (a : List (List Int)) : eqD (.tup []) (bkD a) = decide (a = []) := by
  cases a <;> rfl
@[simp] theorem eqD_tup (a b : List D) : eqD (.tup a) (.tup b) = eqL a b := (rfl)
@[simp] theorem eqD_lst (a b : List D) : eqD (.lst a) (.lst b) = eqL a b := (rfl)
@[simp] theorem eqL_nil : eqL [] [] = true := (rfl)
@[simp] theorem eqL_cons (x y : D) (a b : List D) : eqL (x :: a) (y :: b) = (eqD x y && eqL a b) := (rfl)
@[simp] theorem eqL_map_nil {α : Type} (f : α → D) (l : List α) : eqL (l.map f) [] = decide (l = []) := by cases l <;> simp [eqL]
@[simp] theorem eqD_non (a : D) : eqD .non a = isNon a := by cases a <;> simp [eqD, isNon]
@[simp] theorem dEq_of (x y : D) : dEq x y = if okd x && okd y then some (.bl (eqD x y)) else none := (rfl)
@[simp] theorem dNe_of (x y : D) : dNe x y = if okd x && okd y then some (.bl (!eqD x y)) else none := (rfl)
theorem inL_map {α : Type} [DecidableEq α] {f : α → D} (h : ∀ a b, eqD (f a) (f b) = decide (a = b)) (x : α) (l : List α) : inL (f x) (l.map f) = decide (x ∈ l) := by
  unfold inL
  induction l with
  | nil => simp
  | cons y l ih => simp only [List.map_cons, List.any_cons, ih, h, List.mem_cons, Bool.decide_or]; congr 1; simp [eq_comm]
@[simp] theorem inL_int (x : Int) (l : List Int) : inL (.int x) (l.map .int) = decide (x ∈ l) := (inL_map eqD_int x l).trans (by congr)
@[simp] theorem inL_lot (x : List Int) (l : List (List Int)) : inL (lotI x) (l.map lotI) = decide (x ∈ l) := (inL_map eqD_lot x l).trans (by congr)
@[simp] theorem inL_nil_lot (l : List (List Int)) : inL (.tup []) (l.map lotI) = decide ([] ∈ l) := inL_lot [] l
@[simp] theorem dIn_lot (x : Int) (l : List Int) : dIn (.int x) (lotI l) = some (.bl (decide (x ∈ l))) := by simp [dIn]
@[simp] theorem dNin_lot (x : Int) (l : List Int) : dNin (.int x) (lotI l) = some (.bl (!decide (x ∈ l))) := by simp [dNin]
@[simp] theorem dIn_bk (x : List Int) (l : List (List Int)) : dIn (lotI x) (bkD l) = some (.bl (decide (x ∈ l))) := by simp [dIn]
@[simp] theorem dNin_bk (x : List Int) (l : List (List Int)) : dNin (lotI x) (bkD l) = some (.bl (!decide (x ∈ l))) := by simp [dNin]
@[simp] theorem dIn_lots (x : List Int) (l : List (List Int)) : dIn (lotI x) (.lst (l.map lotI)) = some (.bl (decide (x ∈ l))) := by simp [dIn]
@[simp] theorem dNin_lots (x : List Int) (l : List (List Int)) : dNin (lotI x) (.lst (l.map lotI)) = some (.bl (!decide (x ∈ l))) := by simp [dNin]
@[simp] theorem dIn_ints (x : Int) (l : List Int) : dIn (.int x) (.lst (l.map .int)) = some (.bl (decide (x ∈ l))) := by simp [dIn]
@[simp] theorem dNin_ints (x : Int) (l : List Int) : dNin (.int x) (.lst (l.map .int)) = some (.bl (!decide (x ∈ l))) := by simp [dNin]
@[simp] theorem dIn_nilbk (l : List (List Int)) : dIn (.tup []) (bkD l) = some (.bl (decide ([] ∈ l))) := by simp [dIn]
@[simp] theorem dIs_non (d : D) : dIs d .non = some (.bl (isNon d)) := by cases d <;> rfl
@[simp] theorem dIsn_non (d : D) : dIsn d .non = some (.bl (!isNon d)) := by cases d <;> rfl
@[simp] theorem isNon_non : isNon .non = true := (rfl)
@[simp] theorem isNon_int (i : Int) : isNon (.int i) = false := (rfl)
@[simp] theorem isNon_lot (i : List Int) : isNon (lotI i) = false := (rfl)
@[simp] theorem isNon_tup (i : List D) : isNon (.tup i) = false := (rfl)
@[simp] theorem isNon_str (i : Str) : isNon (.str i) = false := (rfl)

/-! ### order -/
@[simp] theorem ltL_ints : ∀ a b : List Int, ltL (a.map .int) (b.map .int) = some (decide (a < b))
  | [], [] => by simp [ltL]
  | [], _ :: _ => by simp [ltL]
  | _ :: _, [] => by simp [ltL]
  | x :: a, y :: b => by
    simp only [List.map_cons, ltL, ltL_ints a b, ltD, eqD_int, decide_eq_true_eq, Option.some.injEq, List.cons_lt_cons_iff, Bool.decide_or, Bool.decide_and]
    by_cases h : x = y
    · subst h; simp
    · simp [h]
@[simp] theorem dLt_lot (a b : List Int) : dLt (lotI a) (lotI b) = some (.bl (decide (a < b))) := by
  simp [dLt, lotI, ltD, -tup_int]

/-! ### comprehensions -/
section
variable {δ : List Bx}
def cloopM {α : Type} (st : α → List Bx → Res (Option D)) : List α → List Bx → Res (List D)
  | [], δ => .ok [] δ
  | d :: ds, δ => (st d δ).bind fun o δ1 => (cloopM st ds δ1).bind fun r δ2 => .ok (o.toList ++ r) δ2
theorem cloop_map {α : Type} (f : α → D) (st : D → List Bx → Res (Option D)) : ∀ (xs : List α) (δ : List Bx), cloop st (xs.map f) δ = cloopM (fun x δ => st (f x) δ) xs δ
  | [], _ => rfl
  | x :: xs, δ => by
    simp only [List.map_cons, cloop, cloopM]
    congr 1; funext o δ1; rw [cloop_map f st xs δ1]
@[simp] theorem cloop_map' {α : Type} (f : α → D) (p vs ft fe ρ) (xs : List α) (δ : List Bx) : cloop (cstep p vs ft fe ρ) (xs.map f) δ = cloopM (fun x δ => cstep p vs ft fe ρ (f x) δ) xs δ := cloop_map f _ xs δ
@[simp] theorem cloopM_ok {α : Type} (h : α → Option D) : ∀ (xs : List α) (δ : List Bx), cloopM (fun x δ => Res.ok (h x) δ) xs δ = .ok (xs.filterMap h) δ
  | [], _ => rfl
  | x :: xs, δ => by
    simp only [cloopM, Res.bind_ok, cloopM_ok h xs δ, List.filterMap_cons]
    cases h x <;> rfl
theorem cloopM_congr {α : Type} {st st' : α → List Bx → Res (Option D)} : ∀ {xs : List α} {δ : List Bx}, (∀ x ∈ xs, ∀ δ, st x δ = st' x δ) → cloopM st xs δ = cloopM st' xs δ
  | [], _, _ => rfl
  | x :: xs, δ, h => by
    simp only [cloopM]
    rw [h x (List.mem_cons_self ..)]
    congr 1; funext o δ1
    rw [cloopM_congr fun y hy => h y (List.mem_cons_of_mem _ hy)]
theorem cloopM_eq {α : Type} {st : α → List Bx → Res (Option D)} (h : α → Option D) {xs : List α} (e : ∀ x ∈ xs, ∀ δ, st x δ = .ok (h x) δ) : cloopM st xs δ = .ok (xs.filterMap h) δ := by
  rw [cloopM_congr e, cloopM_ok]
def strO (o : Option (List Sl)) (k : List Sl → Res (Option D)) : Res (Option D) := match o with
  | some ρ => k ρ
  | none => .no
@[simp] theorem strO_some (ρ : List Sl) (k : List Sl → Res (Option D)) : strO (some ρ) k = k ρ := (rfl)
def stepK (ft : RX Bool) (fe : RX D) (δ : List Bx) (ρ : List Sl) : Res (Option D) := ((ft ρ δ).bind fun b δ1 => bI b ((fe ρ δ1).bind fun y δ2 => bI y.strong (.ok (some y) δ2) .no) (.ok none δ1)).noer
@[simp] theorem r_stepK (ft : RX Bool) (fe : RX D) (δ : List Bx) (ρ : List Sl) : stepK ft fe δ ρ = ((ft ρ δ).bind fun b δ1 => bI b ((fe ρ δ1).bind fun y δ2 => bI y.strong (.ok (some y) δ2) .no) (.ok none δ1)).noer := (rfl)
@[simp] theorem r_cstep (p : Pat) (vs : List Nat) (ft : RX Bool) (fe : RX D) (ρ : List Sl) (d : D) (δ : List Bx) : cstep p vs ft fe ρ d δ = strO (bindP p d (wipeR ρ vs)) (stepK ft fe δ) := by
  unfold cstep strO; split <;> rename_i h <;> rw [h] <;> rfl
@[simp] theorem wipeR_nil (ρ : List Sl) : wipeR ρ [] = ρ := (rfl)
@[simp] theorem wipeR_cons (ρ : List Sl) (v : Nat) (vs : List Nat) : wipeR ρ (v :: vs) = (wipeR ρ vs).set v .no := (rfl)
@[simp] theorem bindP_nm (i : Nat) (d : D) (ρ : List Sl) : bindP (.nm i) d ρ = if d.strong && decide (i < ρ.length) then some (ρ.set i (.v d)) else none := (rfl)
@[simp] theorem bindP_tp (is : List Nat) (ds : List D) (ρ : List Sl) : bindP (.tp is) (.tup ds) ρ = bindL is ds ρ := (rfl)
@[simp] theorem bindL_nil (ρ : List Sl) : bindL [] [] ρ = some ρ := (rfl)
@[simp] theorem bindL_cons (i : Nat) (is : List Nat) (d : D) (ds : List D) (ρ : List Sl) : bindL (i :: is) (d :: ds) ρ = if d.strong && decide (i < ρ.length) then bindL is ds (ρ.set i (.v d)) else none := (rfl)
@[simp] theorem atI_0 {α : Type} (x : α) (xs : List α) : atI (x :: xs) 0 = some x := by simp [atI, ixN]
@[simp] theorem atI_1 {α : Type} (x y : α) (xs : List α) : atI (x :: y :: xs) 1 = some y := by
  have : (1 : Int) < (xs.length : Int) + 1 + 1 := by omega
  simp [atI, ixN, this]
@[simp] theorem atI_2 {α : Type} (x y z : α) (xs : List α) : atI (x :: y :: z :: xs) 2 = some z := by
  have : (2 : Int) < (xs.length : Int) + 1 + 1 + 1 := by omega
  simp [atI, ixN, this]
@[simp] theorem rdSl_v (d : D) : rdSl (some (.v d)) = some d := (rfl)
@[simp] theorem rdSl_own (xs : List D) : rdSl (some (.own xs)) = some (.wk xs) := (rfl)
@[simp] theorem filterMap_bI {α β : Type} (p : α → Bool) (g : α → β) (xs : List α) : xs.filterMap (fun x => bI (p x) (some (g x)) none) = (xs.filter p).map g := by
  induction xs with
  | nil => rfl
  | cons x xs ih => cases h : p x <;> simp [List.filterMap_cons, List.filter_cons, h, ih]
@[simp] theorem filterMap_all {α β : Type} (g : α → β) (xs : List α) : xs.filterMap (fun x => some (g x)) = xs.map g := by
  induction xs with
  | nil => rfl
  | cons x xs ih => simp [List.filterMap_cons, ih]
end
end Pv
namespace Pv
open PySem PySem.Spec PyProof.Rows L2
/-! ### comprehensions of two clauses -/
def strO2 (o : Option (List Sl)) (k : List Sl → Res (List D)) : Res (List D) := match o with
  | some ρ => k ρ
  | none => .no
@[simp] theorem strO2_some (ρ : List Sl) (k : List Sl → Res (List D)) : strO2 (some ρ) k = k ρ := (rfl)
def stepK2 (ft : RX Bool) (fi1 : RX (List D)) (p1 : Pat) (vs1 : List Nat) (ft1 : RX Bool) (fe : RX D) (δ : List Bx) (ρ2 : List Sl) : Res (List D) := ((ft ρ2 δ).bind fun b δ1 => bI b ((fi1 ρ2 δ1).bind fun ds δ2 => cloop (cstep p1 vs1 ft1 fe ρ2) ds δ2) (.ok [] δ1)).noer
@[simp] theorem r_stepK2 (ft : RX Bool) (fi1 : RX (List D)) (p1 : Pat) (vs1 : List Nat) (ft1 : RX Bool) (fe : RX D) (δ : List Bx) (ρ2 : List Sl) : stepK2 ft fi1 p1 vs1 ft1 fe δ ρ2 = ((ft ρ2 δ).bind fun b δ1 => bI b ((fi1 ρ2 δ1).bind fun ds δ2 => cloop (cstep p1 vs1 ft1 fe ρ2) ds δ2) (.ok [] δ1)).noer := (rfl)
@[simp] theorem r_cstep2 (p : Pat) (vs : List Nat) (ft : RX Bool) (fi1 : RX (List D)) (p1 : Pat) (vs1 : List Nat) (ft1 : RX Bool) (fe : RX D) (ρ : List Sl) (d : D) (δ : List Bx) : cstep2 p vs ft fi1 p1 vs1 ft1 fe ρ d δ =
    strO2 (bindP p d (wipeR ρ vs)) (stepK2 ft fi1 p1 vs1 ft1 fe δ) := by
  unfold cstep2 strO2; split <;> rename_i h <;> rw [h] <;> rfl
def cloop2M {α : Type} (st : α → List Bx → Res (List D)) : List α → List Bx → Res (List D)
  | [], δ => .ok [] δ
  | d :: ds, δ => (st d δ).bind fun o δ1 => (cloop2M st ds δ1).bind fun r δ2 => .ok (o ++ r) δ2
theorem cloop2_map {α : Type} (f : α → D) (st : D → List Bx → Res (List D)) : ∀ (xs : List α) (δ : List Bx), cloop2 st (xs.map f) δ = cloop2M (fun x δ => st (f x) δ) xs δ
  | [], _ => rfl
  | x :: xs, δ => by
    simp only [List.map_cons, cloop2, cloop2M]
    congr 1; funext o δ1; rw [cloop2_map f st xs δ1]
@[simp] theorem cloop2_map' {α : Type} (f : α → D) (p vs ft fi1 p1 vs1 ft1 fe ρ) (xs : List α) (δ : List Bx) : cloop2 (cstep2 p vs ft fi1 p1 vs1 ft1 fe ρ) (xs.map f) δ = cloop2M (fun x δ => cstep2 p vs ft fi1 p1 vs1 ft1 fe ρ (f x) δ) xs δ := cloop2_map f _ xs δ
@[simp] theorem cloop2M_ok {α : Type} (h : α → List D) : ∀ (xs : List α) (δ : List Bx), cloop2M (fun x δ => Res.ok (h x) δ) xs δ = .ok (xs.flatMap h) δ
  | [], _ => rfl
  | x :: xs, δ => by simp only [cloop2M, Res.bind_ok, cloop2M_ok h xs δ, List.flatMap_cons]
theorem cloop2M_congr {α : Type} {st st' : α → List Bx → Res (List D)} : ∀ {xs : List α} {δ : List Bx}, (∀ x ∈ xs, ∀ δ, st x δ = st' x δ) → cloop2M st xs δ = cloop2M st' xs δ
  | [], _, _ => rfl
  | x :: xs, δ, h => by
    simp only [cloop2M]
    rw [h x (List.mem_cons_self ..)]
    congr 1; funext o δ1
    rw [cloop2M_congr fun y hy => h y (List.mem_cons_of_mem _ hy)]
@[simp] theorem blsD_append (a b : List D) : blsD (a ++ b) = (blsD a).bind fun x => (blsD b).map fun y => x ++ y := by
  induction a with
  | nil => simp [blsD]
  | cons d a ih => cases d <;> simp [blsD, ih]; cases blsD a <;> simp; cases blsD b <;> simp
@[simp] theorem blsD_flat {α β : Type} (ys : α → List β) (p : α → β → Bool) (xs : List α) : blsD (xs.flatMap fun x => (ys x).map fun y => .bl (p x y)) = some (xs.flatMap fun x => (ys x).map (p x)) := by
  induction xs with
  | nil => rfl
  | cons x xs ih => simp [List.flatMap_cons, ih]
/-! ### loops -/
theorem floop_inv {p : Pat} {body : RS} (I : Nat → List Sl → List Bx → Prop) : ∀ {xs : List D} {k : Nat} {ρ : List Sl} {δ : List Bx},
    (∀ d ∈ xs, ∀ k ρ δ, I k ρ δ → ∃ ρ2, bindP p d ρ = some ρ2 ∧ ∃ ρ' δ', body ρ2 δ = .ok (.nx, ρ') δ' ∧ I (k + 1) ρ' δ') → I k ρ δ → ∃ ρ' δ', floop p body xs ρ δ = .ok (.nx, ρ') δ' ∧ I (k + xs.length) ρ' δ'
  | [], k, ρ, δ, _, h0 => ⟨ρ, δ, rfl, h0⟩
  | d :: xs, k, ρ, δ, h, h0 => by
    obtain ⟨ρ2, e1, ρ', δ', e2, h1⟩ := h d (List.mem_cons_self ..) k ρ δ h0
    obtain ⟨ρ3, δ3, e3, h3⟩ := floop_inv I (xs := xs) (fun d hd => h d (List.mem_cons_of_mem _ hd)) h1
    refine ⟨ρ3, δ3, ?_, by rw [List.length_cons, show k + (xs.length + 1) = k + 1 + xs.length by omega]; exact h3⟩
    simp only [floop, e1, e2, Res.bind_ok]
    exact e3
theorem floop_invK {p : Pat} {body : RS} (I : Nat → List Sl → List Bx → Prop) (K : Nat) : ∀ {xs : List D} {k : Nat} {ρ : List Sl} {δ : List Bx}, k + xs.length ≤ K →
    (∀ d ∈ xs, ∀ k ρ δ, I k ρ δ → k < K → ∃ ρ2, bindP p d ρ = some ρ2 ∧ ∃ ρ' δ', body ρ2 δ = .ok (.nx, ρ') δ' ∧ I (k + 1) ρ' δ') → I k ρ δ → ∃ ρ' δ', floop p body xs ρ δ = .ok (.nx, ρ') δ' ∧ I (k + xs.length) ρ' δ'
  | [], k, ρ, δ, _, _, h0 => ⟨ρ, δ, rfl, h0⟩
  | d :: xs, k, ρ, δ, hK, h, h0 => by
    rw [List.length_cons] at hK
    obtain ⟨ρ2, e1, ρ', δ', e2, h1⟩ := h d (List.mem_cons_self ..) k ρ δ h0 (by omega)
    obtain ⟨ρ3, δ3, e3, h3⟩ := floop_invK I K (xs := xs) (by omega) (fun d hd => h d (List.mem_cons_of_mem _ hd)) h1
    refine ⟨ρ3, δ3, ?_, by rw [List.length_cons, show k + (xs.length + 1) = k + 1 + xs.length by omega]; exact h3⟩
    simp only [floop, e1, e2, Res.bind_ok]
    exact e3
/-- a loop by a property of slots and small heap, and what follows it -/
theorem loop_invC {β : Type} {p : Pat} {body : RS} {ds : List D} {ρ0 : List Sl} {δ0 : List Bx} {k : Fl × List Sl → List Bx → Res β} (C : Res β → Prop) (I : Nat → List Sl → List Bx → Prop) (K : Nat) (hK : ds.length ≤ K) (h0 : I 0 ρ0 δ0)
    (h : ∀ d ∈ ds, ∀ k ρ δ, I k ρ δ → k < K → ∃ ρ2, bindP p d ρ = some ρ2 ∧ ∃ ρ' δ', body ρ2 δ = .ok (.nx, ρ') δ' ∧ I (k + 1) ρ' δ') (hfin : ∀ ρ' δ', I ds.length ρ' δ' → C (k (.nx, ρ') δ')) : C ((floop p body ds ρ0 δ0).bind k) := by
  obtain ⟨ρ', δ', e, h'⟩ := floop_invK I K (xs := ds) (k := 0) (by omega) h h0
  rw [e]
  exact hfin ρ' δ' (by simpa using h')
/-- a loop that folds a state -/
theorem floop_fold {α S : Type} {p : Pat} {body : RS} {f : α → D} (emb : S → List Sl) (step : S → α → S) : ∀ {xs : List α} {s : S} {δ : List Bx},
    (∀ x ∈ xs, ∀ s, ∃ ρ2, bindP p (f x) (emb s) = some ρ2 ∧ body ρ2 δ = .ok (.nx, emb (step s x)) δ) → floop p body (xs.map f) (emb s) δ = .ok (.nx, emb (xs.foldl step s)) δ
  | [], _, _, _ => rfl
  | x :: xs, s, δ, h => by
    obtain ⟨ρ2, e1, e2⟩ := h x (List.mem_cons_self ..) s
    simp only [List.map_cons, floop, e1, e2, Res.bind_ok, List.foldl_cons]
    exact floop_fold emb step fun y hy => h y (List.mem_cons_of_mem _ hy)
/-- .. while a property of the state stays, by turns -/
theorem floop_foldP {α S : Type} {p : Pat} {body : RS} {f : α → D} (emb : S → List Sl) (step : S → α → S) (P : Nat → S → Prop) (K : Nat) : ∀ {xs : List α} {k : Nat} {s : S} {δ : List Bx}, k + xs.length ≤ K →
    (∀ x ∈ xs, ∀ k s, k < K → P k s → ∃ ρ2, bindP p (f x) (emb s) = some ρ2 ∧ body ρ2 δ = .ok (.nx, emb (step s x)) δ ∧ P (k + 1) (step s x)) → P k s → floop p body (xs.map f) (emb s) δ = .ok (.nx, emb (xs.foldl step s)) δ ∧ P (k + xs.length) (xs.foldl step s)
  | [], _, _, _, _, _, h0 => ⟨rfl, h0⟩
  | x :: xs, k, s, δ, hK, h, h0 => by
    rw [List.length_cons] at hK
    obtain ⟨ρ2, e1, e2, h1⟩ := h x (List.mem_cons_self ..) k s (by omega) h0
    simp only [List.map_cons, floop, e1, e2, Res.bind_ok, List.foldl_cons, List.length_cons]
    rw [show k + (xs.length + 1) = k + 1 + xs.length by omega]
    exact floop_foldP emb step P K (by omega) (fun y hy => h y (List.mem_cons_of_mem _ hy)) h1
/-- a loop that folds a state, and what follows it -/
theorem loop_bind {α S β : Type} {p : Pat} {body : RS} {f : α → D} {ρ0 : List Sl} {δ : List Bx} {k : Fl × List Sl → List Bx → Res β} {R : Res β} {ds : List D} (emb : S → List Sl) (step : S → α → S) (P : Nat → S → Prop) (K : Nat) (xs : List α) (s0 : S) (e0 : ρ0 = emb s0) (ed : ds = xs.map f) (hK : xs.length ≤ K)
    (h : ∀ x ∈ xs, ∀ k s, k < K → P k s → ∃ ρ2, bindP p (f x) (emb s) = some ρ2 ∧ body ρ2 δ = .ok (.nx, emb (step s x)) δ ∧ P (k + 1) (step s x)) (h0 : P 0 s0) (hR : P xs.length (xs.foldl step s0) → k (.nx, emb (xs.foldl step s0)) δ = R) : (floop p body ds ρ0 δ).bind k = R := by
  subst e0 ed
  obtain ⟨e, hp⟩ := floop_foldP emb step P K (xs := xs) (k := 0) (s := s0) (by omega) h h0
  rw [e]
  exact hR (by simpa using hp)
theorem foldl_app {α β : Type} (g : β → List α) : ∀ (xs : List β) (a : List α), xs.foldl (fun f x => f ++ g x) a = a ++ xs.flatMap g
  | [], a => by simp
  | x :: xs, a => by simp [foldl_app g xs, List.flatMap_cons]
theorem flatMap_bI {α : Type} (c : α → Bool) (xs : List α) : (xs.flatMap fun x => bI (c x) [x] []) = xs.filter c := by
  induction xs with
  | nil => rfl
  | cons x xs ih => cases h : c x <;> simp [List.flatMap_cons, List.filter_cons, h, ih]
theorem cloop_inv {st : D → List Bx → Res (Option D)} (J : List Bx → Prop) (v : D) : ∀ {xs : List D} {δ : List Bx}, (∀ d ∈ xs, ∀ δ, J δ → ∃ δ', st d δ = .ok (some v) δ' ∧ J δ') → J δ → ∃ δ', cloop st xs δ = .ok (xs.map fun _ => v) δ' ∧ J δ'
  | [], δ, _, h0 => ⟨δ, rfl, h0⟩
  | d :: xs, δ, h, h0 => by
    obtain ⟨δ1, e1, h1⟩ := h d (List.mem_cons_self ..) δ h0
    obtain ⟨δ2, e2, h2⟩ := cloop_inv J v (xs := xs) (fun d hd => h d (List.mem_cons_of_mem _ hd)) h1
    exact ⟨δ2, by simp [cloop, e1, e2], h2⟩
/-! ### more of typed data -/
theorem cutD_from {α : Type} (xs : List α) (k : Nat) : cutD xs (some (k : Int)) none = xs.drop k := by
  have h0 : HT.sIx xs.length xs.length none = xs.length := rfl
  have h1 : HT.sIx xs.length 0 (some (k : Int)) = min k xs.length := by
    unfold HT.sIx
    have : ¬ ((k : Int) < 0) := by omega
    simp [this]
  unfold cutD
  rw [h0, h1]
  by_cases h : k ≤ xs.length
  · rw [Nat.min_eq_left h, List.take_of_length_le (by rw [List.length_drop]; omega)]
  · rw [Nat.min_eq_right (by omega), List.drop_length, List.drop_of_length_le (by omega)]; simp
theorem cutD_to {α : Type} (xs : List α) (k : Nat) : cutD xs none (some (k : Int)) = xs.take k := by
  have h0 : HT.sIx xs.length 0 none = 0 := rfl
  have h1 : HT.sIx xs.length xs.length (some (k : Int)) = min k xs.length := by
    unfold HT.sIx
    have : ¬ ((k : Int) < 0) := by omega
    simp [this]
  unfold cutD
  rw [h0, h1]
  simp
@[simp] theorem dCut_lot1 (l : List Int) : dCut (lotI l) (some 1) none = some (lotI l.tail) := by
  show some (D.tup (cutD (l.map .int) (some ((1 : Nat) : Int)) none)) = _
  rw [cutD_from, List.drop_one, ← List.map_tail]; rfl
theorem zipG_lots (a b : List Int) (h : a.length ≤ cap) : zipG [lotI a, lotI b] = some ((a.zip b).map fun p => .tup [.int p.1, .int p.2]) := by
  show (if (a.map D.int).length ≤ cap then some (zipD (a.map .int) (b.map .int)) else none) = _
  rw [if_pos (by simpa using h)]
  congr 1
  unfold zipD
  rw [List.zipWith_map, List.zip_eq_zipWith, List.map_zipWith]
end Pv
set_option maxRecDepth 100000
set_option maxHeartbeats 1000000
/-! PvU: first_wrong with a lambda of two parameters -/
namespace Pv
open PySem PySem.Spec PyProof.Rows L2

/-- where the tables of the defs that make lambdas stand: place in the small heap, address -/
abbrev TBs := Str → Nat × Addr
def HasTab (TB : TBs) (x : Str) (δ : List Bx) : Prop := δ[(TB x).1]? = some (.tab (TB x).2 (lamQ x))
def smFW : Sm := (.seq (.fo (.tp [2, 3]) (.enumE (.cons (.var 0) .nil)) (.seq (.ite (.not (.callv 1 (.cons (.var 3) (.cons (.slc (.var 0) .nil (.var 2)) .nil)))) (.seq (.ret (.var 2)) .nil) .nil) .nil)) (.seq (.ret .non) .nil))
/-- the walk: from item i on -/
def FWgo (L : Fn) (dv : D) : Nat → List D → List Bx → Res D
  | _, [], δ => .ok .non δ
  | i, x :: xs, δ => if x.strong then (ofO (dCut dv none (some (i : Nat))) δ).bind fun pre δ1 => if pre.strong then (L [x, pre] δ1).bind fun d δ2 => (ofO (toB d) δ2).bind fun b δ3 => if b then FWgo L dv (i + 1) xs δ3 else .ok (.int (i : Nat)) δ3 else .no else .no
def FW (L : Fn) (dv : D) (δ : List Bx) : Res D := (ofO (enumG [dv]) δ).bind fun _ δ => match seqS dv with
  | some xs => FWgo L dv 0 xs δ
  | none => .no
theorem callV_clo {Φ : Phi} {ρ : List Sl} {δ : List Bx} {i : Nat} {f : RX (List D)} {a k : Addr} {q : Str} {ws : List D} {us : List V} {np : Nat} {F : Fn} (h : ρ[i]? = some (.v (.clo a k q ws us))) (e : Φ.clo a k q ws us = some (np, F)) : callV Φ i f ρ δ = callO F np f ρ δ := by
  unfold callV
  rw [h]
  show (match Φ.clo a k q ws us with | some (np, F) => callO F np f ρ δ | none => .no) = _
  rw [e]
theorem hFW (Φ' : Phi) (q : Str) (f k : Addr) (wds : List D) (us : List V) (L : Fn) (dv : D) (δ : List Bx) (hc : Φ'.clo f k q wds us = some (2, L)) (st : dv.strong = true) : mkF 4 2 (semS Φ' smFW) [dv, .clo f k q wds us] δ = FW L dv δ := by
  unfold smFW FW
  rw [r_mkF]
  rw [if_pos ⟨rfl, by simp [st]⟩]
  simp only [s_seq, s_fo, r_seqS2, r_for, m_enum_j, r_itA, m_cons_a, m_nil_a, r_consA, m_var, valS_d, r_nilA, List.map_cons, List.map_nil, List.cons_append, List.nil_append, List.getElem?_cons_zero, rdSl_v, ofO_some, Res.bind_ok]
  unfold enumG
  cases e : seqS dv with
  | none => simp [e]
  | some xs =>
    by_cases hl : xs.length ≤ cap
    · simp only [e, hl, if_true, ofO_some, Res.bind_ok]
      have key : ∀ (xs : List D) (i : Nat) (l2 l3 : Sl) (δ : List Bx),
          ((floop (.tp [2, 3]) (semS Φ' (.seq (.ite (.not (.callv 1 (.cons (.var 3) (.cons (.slc (.var 0) .nil (.var 2)) .nil)))) (.seq (.ret (.var 2)) .nil) .nil) .nil)) (enumL i xs) [.v dv, .v (.clo f k q wds us), l2, l3] δ).bind (thenK (seqS2 (semS Φ' (.ret .non)) (semS Φ' .nil)))).bind finF = FWgo L dv i xs δ := by
        intro xs
        induction xs with
        | nil => intro i l2 l3 δ; simp [enumL, floop, FWgo]
        | cons x xs ih =>
          intro i l2 l3 δ
          simp only [enumL, floop, FWgo, bindP_tp, bindL_cons, bindL_nil]
          by_cases hx : x.strong = true
          · simp only [hx, strong_int, if_true, List.length_cons, List.length_nil, List.length_set, Bool.true_and, List.set_cons_succ, List.set_cons_zero, Nat.reduceAdd, Nat.reduceLT, decide_true]
            simp only [s_seq, s_ite, r_seqS2, r_if, m_not_t, r_notT, m_callv, valS_t, r_asB, callV_clo (show ([Sl.v dv, .v (.clo f k q wds us), .v (.int (i : Nat)), .v x] : List Sl)[1]? = some (.v (.clo f k q wds us)) from rfl) hc]
            simp only [r_callO, m_cons_a, m_nil_a, r_consA, r_nilA, m_var, valS_d, m_slc, r_slc, m_nil_o, r_optN, valS_o, r_optS, List.getElem?_cons_zero, List.getElem?_cons_succ, rdSl_v, ofO_some, Res.bind_ok, toIO_int]
            cases ec : dCut dv none (some (i : Nat)) with
            | none => simp
            | some pre =>
              simp only [ofO_some, Res.bind_ok, List.length_cons, List.length_nil, List.all_cons, List.all_nil, hx, Bool.true_and, Bool.and_true, Nat.reduceAdd, true_and]
              by_cases hp : pre.strong = true
              · simp only [hp, if_true]
                cases el : L [x, pre] δ with
                | no => simp
                | er _ _ _ => simp
                | ok d δ2 =>
                  simp only [Res.bind_ok]
                  cases eb : toB d with
                  | none => simp
                  | some b =>
                    simp only [ofO_some, Res.bind_ok]
                    cases b with
                    | true => simpa using ih (i + 1) (.v (.int (i : Nat))) (.v x) δ2
                    | false => simp
              · simp [hp]
          · simp [hx]
      simpa using key xs 0 .no .no δ
    · simp [e, hl]
end Pv
set_option maxRecDepth 100000
set_option maxHeartbeats 0
namespace Pt
open PySem PySem.Spec PyProof.Rows L2 Pv
def sm_is_whole : Sm := (.seq (.ret (.and (.bi .isi (.cons (.var 0) (.cons (.tyn "int") .nil))) (.not (.bi .isi (.cons (.var 0) (.cons (.tyn "bool") .nil)))))) .nil)
def Phi_is_whole : Phi := { fns := [] }
def F_is_whole : Fn := mkF 1 1 (semS Phi_is_whole sm_is_whole)
def sm_is_between : Sm := (.seq (.ret (.and (.call 0 (.cons (.var 0) .nil)) (.cmp2 .LtE .LtE (.var 1) (.var 0) (.var 2)))) .nil)
def Phi_is_between : Phi := { fns := [(1, F_is_whole)] }
def F_is_between : Fn := mkF 3 3 (semS Phi_is_between sm_is_between)
def sm_is_row : Sm := (.seq (.ret (.and (.bi .isi (.cons (.var 0) (.cons (.tyn "tuple") .nil))) (.cmp2 .LtE .LtE (.var 1) (.bi .len (.cons (.var 0) .nil)) (.var 2)))) .nil)
def Phi_is_row : Phi := { fns := [] }
def F_is_row : Fn := mkF 3 3 (semS Phi_is_row sm_is_row)
def sm_first_wrong : Sm := (.seq (.fo (.tp [2, 3]) (.enumE (.cons (.var 0) .nil)) (.seq (.ite (.not (.callv 1 (.cons (.var 3) (.cons (.slc (.var 0) .nil (.var 2)) .nil)))) (.seq (.ret (.var 2)) .nil) .nil) .nil)) (.seq (.ret .non) .nil))
def Phi_first_wrong : Phi := { fns := [] }
def F_first_wrong : Fn := mkF 4 2 (semS Phi_first_wrong sm_first_wrong)
def sm_lowest : Sm := (.seq (.asg (.nm 2) (.ite (.cmp .Gt (.var 1) (.int 0)) (.bi .gcd (.cons (.var 0) (.cons (.var 1) .nil))) (.neg (.bi .gcd (.cons (.var 0) (.cons (.var 1) .nil)))))) (.seq (.ret (.tup (.cons (.bin .FloorDiv (.var 0) (.var 2)) (.cons (.bin .FloorDiv (.var 1) (.var 2)) .nil)))) .nil))
def Phi_lowest : Phi := { fns := [] }
def F_lowest : Fn := mkF 3 2 (semS Phi_lowest sm_lowest)
def sm_plus : Sm := (.seq (.ret (.call 0 (.cons (.bin .Add (.bin .Mult (.idx (.var 0) (.int 0)) (.idx (.var 1) (.int 1))) (.bin .Mult (.idx (.var 1) (.int 0)) (.idx (.var 0) (.int 1)))) (.cons (.bin .Mult (.idx (.var 0) (.int 1)) (.idx (.var 1) (.int 1))) .nil)))) .nil)
def Phi_plus : Phi := { fns := [(2, F_lowest)] }
def F_plus : Fn := mkF 2 2 (semS Phi_plus sm_plus)
def sm_is_things : Sm := (.seq (.ret (.call 0 (.cons (.var 0) (.cons (.int 1) (.cons (.glo "MOST_THINGS" (.int 6)) .nil))))) .nil)
def Phi_is_things : Phi := { fns := [(3, F_is_between)] }
def F_is_things : Fn := mkF 1 1 (semS Phi_is_things sm_is_things)
def sm_check_things : Sm := (.seq (.ite (.not (.call 0 (.cons (.var 0) .nil))) (.seq .any .nil) .nil) .nil)
def Phi_check_things : Phi := { fns := [(1, F_is_things)] }
def F_check_things : Fn := mkF 1 1 (semS Phi_check_things sm_check_things)
def sm_is_thing : Sm := (.seq (.ret (.call 0 (.cons (.var 1) (.cons (.int 0) (.cons (.bin .Sub (.var 0) (.int 1)) .nil))))) .nil)
def Phi_is_thing : Phi := { fns := [(3, F_is_between)] }
def F_is_thing : Fn := mkF 2 2 (semS Phi_is_thing sm_is_thing)
def sm_is_lot : Sm := (.seq (.ite (.or (.not (.bi .isi (.cons (.var 1) (.cons (.tyn "tuple") .nil)))) (.not (.bi .all (.cons (.lc (.nm 4) [4] (.var 1) .nil (.call 0 (.cons (.var 0) (.cons (.var 4) .nil)))) .nil)))) (.seq (.ret (.bl false)) .nil) .nil) (.seq (.ret (.bi .all (.cons (.lc (.tp [2, 3]) [2, 3] (.zipE (.cons (.var 1) (.cons (.slc (.var 1) (.int 1) .nil) .nil))) .nil (.cmp .Lt (.var 2) (.var 3))) .nil))) .nil))
def Phi_is_lot : Phi := { fns := [(2, F_is_thing)] }
def F_is_lot : Fn := mkF 5 2 (semS Phi_is_lot sm_is_lot)
def sm_check_lot : Sm := (.seq (.ite (.not (.call 0 (.cons (.var 0) (.cons (.var 1) .nil)))) (.seq .any .nil) .nil) .nil)
def Phi_check_lot : Phi := { fns := [(2, F_is_lot)] }
def F_check_lot : Fn := mkF 2 2 (semS Phi_check_lot sm_check_lot)
def sm_all_lots : Sm := (.seq (.new 1 .nil) (.seq (.fo (.nm 2) (.rng1 (.cons (.bin .Add (.var 0) (.int 1)) .nil)) (.seq (.ext 1 (.lc (.nm 3) [3] (.combE (.cons (.lrng (.var 0)) (.cons (.bi .int (.cons (.var 2) .nil)) .nil))) .nil (.var 3))) .nil)) (.frz 1 (.seq (.ret (.srt (.l .i) (.cons (.var 1) .nil))) .nil))))
def Phi_all_lots : Phi := { fns := [] }
def F_all_lots : Fn := mkF 4 1 (semS Phi_all_lots sm_all_lots)
def sm_is_within : Sm := (.seq (.ret (.bi .all (.cons (.lc (.nm 2) [2] (.var 0) .nil (.cmp .In (.var 2) (.var 1))) .nil))) .nil)
def Phi_is_within : Phi := { fns := [] }
def F_is_within : Fn := mkF 3 2 (semS Phi_is_within sm_is_within)
def sm_common_of : Sm := (.seq (.ret (.bi .tuple (.cons (.lc (.nm 2) [2] (.var 0) (.cmp .In (.var 2) (.var 1)) (.var 2)) .nil))) .nil)
def Phi_common_of : Phi := { fns := [] }
def F_common_of : Fn := mkF 3 2 (semS Phi_common_of sm_common_of)
def sm_rest_of : Sm := (.seq (.ret (.bi .tuple (.cons (.lc (.nm 2) [2] (.rng1 (.cons (.var 0) .nil)) (.cmp .NotIn (.var 2) (.var 1)) (.var 2)) .nil))) .nil)
def Phi_rest_of : Phi := { fns := [] }
def F_rest_of : Fn := mkF 3 2 (semS Phi_rest_of sm_rest_of)
def ex_wrong_lot : Pv.Ex := (.and (.call 0 (.cons (.var 2) (.cons (.var 0) .nil))) (.or (.cmp .Eq (.var 1) (.tup .nil)) (.cmp .Lt (.idx (.var 1) (.neg (.int 1))) (.var 0))))
def PhiL_wrong_lot : Phi := { fns := [(2, F_is_lot)] }
abbrev lamF_wrong_lot : List Pv.D → Fn := lamF 3 2 (sem PhiL_wrong_lot ex_wrong_lot).d
def F_wrong_lot (TB : TBs) : Fn := userF 2 (TB "wrong_lot").1 (TB "wrong_lot").2 (lamQ "wrong_lot") 1 [0] FW lamF_wrong_lot
def sm_check_lots : Sm := (.seq (.ite (.not (.call 1 (.cons (.var 1) (.cons (.int 0) (.cons (.glo "MOST_LOTS" (.int 20)) .nil))))) (.seq .any .nil) .nil) (.seq (.asg (.nm 2) (.call 0 (.cons (.var 0) (.cons (.var 1) .nil)))) (.seq (.ite (.cmp .IsNot (.var 2) .non) (.seq .any .nil) .nil) .nil)))
def Phi_check_lots (TB : TBs) : Phi := { fns := [(2, (F_wrong_lot TB)), (3, F_is_row)] }
def F_check_lots (TB : TBs) : Fn := mkF 3 2 (semS (Phi_check_lots TB) sm_check_lots)
def sm_check_book : Sm := (.seq (.drop (.call 1 (.cons (.var 0) .nil))) (.seq (.drop (.call 0 (.cons (.var 0) (.cons (.var 1) .nil)))) .nil))
def Phi_check_book (TB : TBs) : Phi := { fns := [(2, (F_check_lots TB)), (1, F_check_things)] }
def F_check_book (TB : TBs) : Fn := mkF 2 2 (semS (Phi_check_book TB) sm_check_book)
def sm_choose_by : Sm := (.seq (.asg (.nm 2) (.ite (.cmp .LtE (.var 1) (.var 0)) (.int 1) (.int 0))) (.seq (.fo (.nm 3) (.rng1 (.cons (.bi .min (.cons (.var 1) (.cons (.var 0) .nil))) .nil)) (.seq (.asg (.nm 2) (.bin .FloorDiv (.bin .Mult (.var 2) (.bin .Sub (.var 0) (.var 3))) (.bin .Add (.var 3) (.int 1)))) .nil)) (.seq (.ret (.var 2)) .nil)))
def Phi_choose_by : Phi := { fns := [] }
def F_choose_by : Fn := mkF 4 2 (semS Phi_choose_by sm_choose_by)
def sm_is_flat_of : Sm := (.seq (.ret (.not (.bi .any (.cons (.lc2 (.nm 1) [1, 2] (.var 0) .nil (.nm 2) [2] (.var 0) .nil (.and (.cmp .NotEq (.var 1) (.var 2)) (.call 0 (.cons (.var 1) (.cons (.var 2) .nil))))) .nil)))) .nil)
def Phi_is_flat_of : Phi := { fns := [(2, F_is_within)] }
def F_is_flat_of : Fn := mkF 3 1 (semS Phi_is_flat_of sm_is_flat_of)
def sm_wins_by : Sm := (.seq (.ret (.bi .any (.cons (.lc (.nm 2) [2] (.var 0) .nil (.call 0 (.cons (.var 2) (.cons (.var 1) .nil)))) .nil))) .nil)
def Phi_wins_by : Phi := { fns := [(2, F_is_within)] }
def F_wins_by : Fn := mkF 3 2 (semS Phi_wins_by sm_wins_by)
def sm_winning_by : Sm := (.seq (.ret (.lc (.nm 2) [2] (.call 0 (.cons (.var 0) .nil)) (.call 1 (.cons (.var 1) (.cons (.var 2) .nil))) (.var 2))) .nil)
def Phi_winning_by : Phi := { fns := [(1, F_all_lots), (2, F_wins_by)] }
def F_winning_by : Fn := mkF 3 2 (semS Phi_winning_by sm_winning_by)
def sm_least_by : Sm := (.seq (.ret (.bi .tuple (.cons (.lc (.nm 1) [1] (.var 0) (.not (.bi .any (.cons (.lc (.nm 2) [2] (.var 0) .nil (.and (.cmp .NotEq (.var 2) (.var 1)) (.call 0 (.cons (.var 2) (.cons (.var 1) .nil))))) .nil))) (.var 1)) .nil))) .nil)
def Phi_least_by : Phi := { fns := [(2, F_is_within)] }
def F_least_by : Fn := mkF 3 1 (semS Phi_least_by sm_least_by)
def sm_other_by : Sm := (.seq (.ret (.call 0 (.cons (.lc (.nm 2) [2] (.call 1 (.cons (.var 0) .nil)) (.not (.call 2 (.cons (.var 1) (.cons (.call 3 (.cons (.var 0) (.cons (.var 2) .nil))) .nil)))) (.var 2)) .nil))) .nil)
def Phi_other_by : Phi := { fns := [(1, F_least_by), (1, F_all_lots), (2, F_wins_by), (2, F_rest_of)] }
def F_other_by : Fn := mkF 3 2 (semS Phi_other_by sm_other_by)
def sm_check_lotted : Sm := (.seq (.drop (.call 1 (.cons (.var 0) (.cons (.var 1) .nil)))) (.seq (.drop (.call 0 (.cons (.var 0) (.cons (.var 2) .nil)))) .nil))
def Phi_check_lotted (TB : TBs) : Phi := { fns := [(2, F_check_lot), (2, (F_check_book TB))] }
def F_check_lotted (TB : TBs) : Fn := mkF 3 3 (semS (Phi_check_lotted TB) sm_check_lotted)
def sm_does_win : Sm := (.seq (.drop (.call 1 (.cons (.var 0) (.cons (.var 1) (.cons (.var 2) .nil))))) (.seq (.ret (.call 0 (.cons (.var 1) (.cons (.var 2) .nil)))) .nil))
def Phi_does_win (TB : TBs) : Phi := { fns := [(2, F_wins_by), (3, (F_check_lotted TB))] }
def F_does_win (TB : TBs) : Fn := mkF 3 3 (semS (Phi_does_win TB) sm_does_win)
def sm_least_winning : Sm := (.seq (.drop (.call 2 (.cons (.var 0) (.cons (.var 1) .nil)))) (.seq (.ret (.call 0 (.cons (.call 1 (.cons (.var 0) (.cons (.var 1) .nil))) .nil))) .nil))
def Phi_least_winning (TB : TBs) : Phi := { fns := [(1, F_least_by), (2, F_winning_by), (2, (F_check_book TB))] }
def F_least_winning (TB : TBs) : Fn := mkF 2 2 (semS (Phi_least_winning TB) sm_least_winning)
def sm_blocking : Sm := (.seq (.drop (.call 1 (.cons (.var 0) (.cons (.var 1) .nil)))) (.seq (.ret (.call 0 (.cons (.var 0) (.cons (.var 1) .nil)))) .nil))
def Phi_blocking (TB : TBs) : Phi := { fns := [(2, F_other_by), (2, (F_check_book TB))] }
def F_blocking (TB : TBs) : Fn := mkF 2 2 (semS (Phi_blocking TB) sm_blocking)
def sm_weight_by : Sm := (.seq (.asg (.nm 2) (.glo "ZERO" (.tup [(.int 0), (.int 1)]))) (.seq (.fo (.nm 3) (.var 1) (.seq (.asg (.nm 2) (.call 0 (.cons (.var 2) (.cons (.call 1 (.cons (.int 1) (.cons (.call 2 (.cons (.var 0) (.cons (.bi .len (.cons (.var 3) .nil)) .nil))) .nil))) .nil)))) .nil)) (.seq (.ret (.var 2)) .nil)))
def Phi_weight_by : Phi := { fns := [(2, F_plus), (2, F_lowest), (2, F_choose_by)] }
def F_weight_by : Fn := mkF 4 2 (semS Phi_weight_by sm_weight_by)
def sm_most_by : Sm := (.seq (.ret (.call 0 (.cons (.var 0) (.cons (.bin .FloorDiv (.var 0) (.int 2)) .nil)))) .nil)
def Phi_most_by : Phi := { fns := [(2, F_choose_by)] }
def F_most_by : Fn := mkF 1 1 (semS Phi_most_by sm_most_by)
def sm_is_flat : Sm := (.seq (.drop (.call 1 (.cons (.var 0) (.cons (.var 1) .nil)))) (.seq (.ret (.call 0 (.cons (.var 1) .nil))) .nil))
def Phi_is_flat (TB : TBs) : Phi := { fns := [(1, F_is_flat_of), (2, (F_check_book TB))] }
def F_is_flat (TB : TBs) : Fn := mkF 2 2 (semS (Phi_is_flat TB) sm_is_flat)
def sm_weight : Sm := (.seq (.drop (.call 1 (.cons (.var 0) (.cons (.var 1) .nil)))) (.seq (.ret (.call 0 (.cons (.var 0) (.cons (.var 1) .nil)))) .nil))
def Phi_weight (TB : TBs) : Phi := { fns := [(2, F_weight_by), (2, (F_check_book TB))] }
def F_weight (TB : TBs) : Fn := mkF 2 2 (semS (Phi_weight TB) sm_weight)
def sm_most_flat : Sm := (.seq (.drop (.call 1 (.cons (.var 0) .nil))) (.seq (.ret (.call 0 (.cons (.var 0) .nil))) .nil))
def Phi_most_flat : Phi := { fns := [(1, F_most_by), (1, F_check_things)] }
def F_most_flat : Fn := mkF 1 1 (semS Phi_most_flat sm_most_flat)
def sm_does_touch : Sm := (.seq (.ret (.bi .all (.cons (.lc (.nm 2) [2] (.var 0) .nil (.cmp .NotEq (.call 0 (.cons (.var 1) (.cons (.var 2) .nil))) (.tup .nil))) .nil))) .nil)
def Phi_does_touch : Phi := { fns := [(2, F_common_of)] }
def F_does_touch : Fn := mkF 3 2 (semS Phi_does_touch sm_does_touch)
def sm_touching_by : Sm := (.seq (.asg (.nm 2) (.lc (.nm 3) [3] (.call 1 (.cons (.var 0) .nil)) (.call 2 (.cons (.var 1) (.cons (.var 3) .nil))) (.var 3))) (.seq (.ret (.bi .tuple (.cons (.lc (.nm 3) [3] (.var 2) (.not (.bi .any (.cons (.lc (.nm 4) [4] (.var 2) .nil (.and (.cmp .NotEq (.var 4) (.var 3)) (.call 0 (.cons (.var 4) (.cons (.var 3) .nil))))) .nil))) (.var 3)) .nil))) .nil))
def Phi_touching_by : Phi := { fns := [(2, F_is_within), (1, F_all_lots), (2, F_does_touch)] }
def F_touching_by : Fn := mkF 5 2 (semS Phi_touching_by sm_touching_by)
def sm_cover_by : Sm := (.seq (.ret (.best false (.cons (.lc (.nm 2) [2] (.call 0 (.cons (.var 0) (.cons (.var 1) .nil))) .nil (.bi .len (.cons (.var 2) .nil))) .nil))) .nil)
def Phi_cover_by : Phi := { fns := [(2, F_touching_by)] }
def F_cover_by : Fn := mkF 3 2 (semS Phi_cover_by sm_cover_by)
def sm_touching : Sm := (.seq (.drop (.call 1 (.cons (.var 0) (.cons (.var 1) .nil)))) (.seq (.ret (.call 0 (.cons (.var 0) (.cons (.var 1) .nil)))) .nil))
def Phi_touching (TB : TBs) : Phi := { fns := [(2, F_touching_by), (2, (F_check_book TB))] }
def F_touching (TB : TBs) : Fn := mkF 2 2 (semS (Phi_touching TB) sm_touching)
def sm_cover_number : Sm := (.seq (.drop (.call 1 (.cons (.var 0) (.cons (.var 1) .nil)))) (.seq (.ret (.call 0 (.cons (.var 0) (.cons (.var 1) .nil)))) .nil))
def Phi_cover_number (TB : TBs) : Phi := { fns := [(2, F_cover_by), (2, (F_check_book TB))] }
def F_cover_number (TB : TBs) : Fn := mkF 2 2 (semS (Phi_cover_number TB) sm_cover_number)
def sm__law_bag : Sm := (.seq (.asg (.nm 2) (.bin .Add (.int 52027) (.bin .Mult (.int 8009) (.var 1)))) (.seq (.fo (.nm 3) (.slc (.var 0) .nil (.int 16)) (.seq (.asg (.nm 2) (.bin .Mod (.bi .int (.cons (.bin .Add (.bin .Add (.bin .Mult (.var 2) (.int 48271)) (.bin .Mod (.bi .int (.cons (.var 3) .nil)) (.int 2147483629))) (.int 23)) .nil)) (.int 2147483647))) .nil)) (.seq (.asg (.nm 4) (.ite (.cmp .Lt (.var 1) (.bi .len (.cons (.var 0) .nil))) (.bi .int (.cons (.idx (.var 0) (.var 1)) .nil)) (.int 0))) (.seq (.asg (.nm 2) (.bin .Mod (.bi .int (.cons (.bin .Add (.bin .Add (.bin .Mult (.var 2) (.int 31)) (.bin .Mult (.bin .Mod (.bi .int (.cons (.var 4) .nil)) (.int 2147483629)) (.int 17))) (.int 3)) .nil)) (.int 2147483647))) (.seq (.ret (.bag (.cons (.ite (.or (.cmp .Lt (.var 4) (.int 0)) (.cmp .GtE (.var 4) (.bin .Pow (.int 10) (.int 15)))) (.bi .abs (.cons (.var 4) .nil)) (.int 0)) (.cons (.var 2) (.cons (.int 0) .nil))))) .nil)))))
def Phi__law_bag : Phi := { fns := [] }
def F__law_bag : Fn := mkF 5 2 (semS Phi__law_bag sm__law_bag)
def sm__law_take : Sm := (.seq (.ite (.cmp .Gt (.idx (.var 0) (.int 0)) (.int 0)) (.seq (.bag2 0 0 2 (.bi .divmod (.cons (.idx (.var 0) (.int 0)) (.cons (.var 1) .nil)))) (.seq (.ret (.var 2)) .nil)) .nil) (.seq (.bag 0 2 (.bin .Add (.idx (.var 0) (.int 2)) (.int 1))) (.seq (.bag 0 1 (.bin .Mod (.bi .int (.cons (.bin .Add (.bin .Add (.bin .Mult (.idx (.var 0) (.int 1)) (.int 16807)) (.bin .Mult (.int 4099) (.idx (.var 0) (.int 2)))) (.int 1)) .nil)) (.int 2147483647))) (.seq (.ret (.bin .Mod (.bi .int (.cons (.bin .FloorDiv (.idx (.var 0) (.int 1)) (.int 911)) .nil)) (.var 1))) .nil))))
def Phi__law_take : Phi := { fns := [] }
def F__law_take : Fn := mkF 3 2 (semS Phi__law_take sm__law_take)
def sm__law_pull : Sm := (.seq (.ret (.idx (.var 1) (.call 0 (.cons (.var 0) (.cons (.bi .len (.cons (.var 1) .nil)) .nil))))) .nil)
def Phi__law_pull : Phi := { fns := [(2, F__law_take)] }
def F__law_pull : Fn := mkF 2 2 (semS Phi__law_pull sm__law_pull)
def sm__law_lots : Sm := (.seq (.asg (.nm 1) (.lst (.cons (.tup .nil) .nil))) (.seq (.fo (.nm 2) (.rng1 (.cons (.var 0) .nil)) (.seq (.asg (.nm 1) (.bin .Add (.var 1) (.lc (.nm 3) [3] (.var 1) .nil (.bin .Add (.var 3) (.tup (.cons (.var 2) .nil)))))) .nil)) (.seq (.ret (.srt (.l .i) (.cons (.var 1) .nil))) .nil)))
def Phi__law_lots : Phi := { fns := [] }
def F__law_lots : Fn := mkF 4 1 (semS Phi__law_lots sm__law_lots)
def sm__law_book : Sm := (.seq (.mpar [6, 3] [(true, .nil), (false, (.call 2 (.cons (.var 1) .nil)))]) (.seq (.asg (.nm 3) (.ite (.cmp .Gt (.call 0 (.cons (.var 0) (.cons (.int 4) .nil))) (.int 0)) (.slc (.var 3) (.int 1) .nil) (.var 3))) (.seq (.asg (.nm 4) (.call 0 (.cons (.var 0) (.cons (.bin .Add (.var 1) (.int 1)) .nil)))) (.seq (.fo (.nm 5) (.rng1 (.cons (.call 0 (.cons (.var 0) (.cons (.bin .Add (.var 2) (.int 1)) .nil))) .nil)) (.seq (.asg (.nm 7) (.call 1 (.cons (.var 0) (.cons (.var 3) .nil)))) (.seq (.setLc 8 (.nm 9) [9] (.var 3) (.cmp .Eq (.bi .len (.cons (.var 9) .nil)) (.var 4)) (.var 9)) (.seq (.app 6 (.ite (.and (.cmp .Eq (.call 0 (.cons (.var 0) (.cons (.int 3) .nil))) (.int 0)) (.cmp .NotEq (.var 8) (.lst .nil))) (.call 1 (.cons (.var 0) (.cons (.var 8) .nil))) (.var 7))) .nil)))) (.frz 6 (.seq (.ret (.bi .tuple (.cons (.srtSet (.cons (.var 6) .nil)) .nil))) .nil))))))
def Phi__law_book : Phi := { fns := [(2, F__law_take), (2, F__law_pull), (1, F__law_lots)] }
def F__law_book : Fn := mkF 10 3 (semS Phi__law_book sm__law_book)
def sm__law_meet : Sm := (.seq (.ret (.bi .tuple (.cons (.lc (.nm 2) [2] (.var 0) (.cmp .In (.var 2) (.var 1)) (.var 2)) .nil))) .nil)
def Phi__law_meet : Phi := { fns := [] }
def F__law_meet : Fn := mkF 3 2 (semS Phi__law_meet sm__law_meet)
def sm__law_is_within : Sm := (.seq (.ret (.not (.bi .any (.cons (.lc (.nm 2) [2] (.var 0) .nil (.cmp .NotIn (.var 2) (.var 1))) .nil)))) .nil)
def Phi__law_is_within : Phi := { fns := [] }
def F__law_is_within : Fn := mkF 3 2 (semS Phi__law_is_within sm__law_is_within)
def sm__law_touching : Sm := (.seq (.setLc 2 (.nm 4) [4] (.call 1 (.cons (.var 0) .nil)) (.not (.bi .any (.cons (.lc (.nm 6) [6] (.var 1) .nil (.cmp .Eq (.call 2 (.cons (.var 4) (.cons (.var 6) .nil))) (.tup .nil))) .nil))) (.var 4)) (.seq (.asg (.nm 3) (.lst .nil)) (.seq (.fo (.nm 4) (.var 2) (.seq (.setLc 5 (.nm 6) [6] (.var 2) (.and (.cmp .Lt (.bi .len (.cons (.var 6) .nil)) (.bi .len (.cons (.var 4) .nil))) (.call 0 (.cons (.var 6) (.cons (.var 4) .nil)))) (.var 6)) (.seq (.asg (.nm 3) (.bin .Add (.var 3) (.ite (.cmp .Eq (.var 5) (.lst .nil)) (.lst (.cons (.var 4) .nil)) (.lst .nil)))) .nil))) (.seq (.ret (.bi .tuple (.cons (.var 3) .nil))) .nil))))
def Phi__law_touching : Phi := { fns := [(2, F__law_is_within), (1, F__law_lots), (2, F__law_meet)] }
def F__law_touching : Fn := mkF 7 2 (semS Phi__law_touching sm__law_touching)
def sm__law_choose : Sm := (.seq (.asg (.nm 2) (.int 1)) (.seq (.fo (.nm 3) (.rng1 (.cons (.var 1) .nil)) (.seq (.asg (.nm 2) (.bin .FloorDiv (.bin .Mult (.var 2) (.bin .Sub (.var 0) (.var 3))) (.bin .Add (.var 3) (.int 1)))) .nil)) (.seq (.ret (.ite (.cmp .LtE (.var 1) (.var 0)) (.var 2) (.int 0))) .nil)))
def Phi__law_choose : Phi := { fns := [] }
def F__law_choose : Fn := mkF 4 2 (semS Phi__law_choose sm__law_choose)
def sm__law_lowest : Sm := (.seq (.mpar [2, 3] [(false, (.var 0)), (false, (.var 1))]) (.seq (.wh (.cmp .Gt (.var 3) (.int 0)) 4000 (.seq (.mpar [2, 3] [(false, (.var 3)), (false, (.bin .Mod (.bi .int (.cons (.var 2) .nil)) (.var 3)))]) .nil)) (.seq (.ret (.tup (.cons (.bin .FloorDiv (.var 0) (.var 2)) (.cons (.bin .FloorDiv (.var 1) (.var 2)) .nil)))) .nil)))
def Phi__law_lowest : Phi := { fns := [] }
def F__law_lowest : Fn := mkF 4 2 (semS Phi__law_lowest sm__law_lowest)
def sm__law_wins : Sm := (.seq (.ret (.bi .any (.cons (.lc (.nm 2) [2] (.var 0) .nil (.call 0 (.cons (.var 2) (.cons (.var 1) .nil)))) .nil))) .nil)
def Phi__law_wins : Phi := { fns := [(2, F__law_is_within)] }
def F__law_wins : Fn := mkF 3 2 (semS Phi__law_wins sm__law_wins)
def sm__law_rest : Sm := (.seq (.ret (.bi .tuple (.cons (.lc (.nm 2) [2] (.rng1 (.cons (.var 0) .nil)) (.cmp .NotIn (.var 2) (.var 1)) (.var 2)) .nil))) .nil)
def Phi__law_rest : Phi := { fns := [] }
def F__law_rest : Fn := mkF 3 2 (semS Phi__law_rest sm__law_rest)
def sm__law_right : Sm := (.seq (.asg (.nm 1) (.bin .Add (.int 1) (.call 16 (.cons (.var 0) (.cons (.int 5) .nil))))) (.seq (.asg (.nm 2) (.call 15 (.cons (.var 0) (.cons (.var 1) (.cons (.int 7) .nil))))) (.seq (.mpar [5, 6] [(false, (.call 10 (.cons (.var 1) (.cons (.var 2) .nil)))), (false, (.call 14 (.cons (.var 1) (.cons (.var 2) .nil))))]) (.seq (.ite (.or (.cmp .NotEq (.call 13 (.cons (.var 1) (.cons (.var 2) .nil))) (.var 5)) (.or (.cmp .NotEq (.var 5) (.call 12 (.cons (.var 1) (.cons (.var 2) .nil)))) (.cmp .NotEq (.call 10 (.cons (.var 1) (.cons (.var 6) .nil))) (.var 5)))) (.seq (.ret (.bl false)) .nil) .nil) (.seq (.ite (.or (.not (.call 11 (.cons (.var 1) (.cons (.var 6) .nil)))) (.or (.not (.call 11 (.cons (.var 1) (.cons (.var 5) .nil)))) (.cmp .NotEq (.call 10 (.cons (.var 1) (.cons (.var 5) .nil))) (.var 6)))) (.seq (.ret (.bl false)) .nil) .nil) (.seq (.fo (.nm 3) (.call 5 (.cons (.var 1) .nil)) (.seq (.asg (.nm 7) (.call 9 (.cons (.var 1) (.cons (.var 3) .nil)))) (.seq (.asg (.nm 8) (.not (.bi .any (.cons (.lc (.nm 12) [12] (.var 2) .nil (.cmp .Eq (.call 8 (.cons (.var 7) (.cons (.var 12) .nil))) (.tup .nil))) .nil)))) (.seq (.ite (.or (.cmp .NotEq (.call 6 (.cons (.var 1) (.cons (.var 2) (.cons (.var 3) .nil)))) (.call 7 (.cons (.var 2) (.cons (.var 3) .nil)))) (.cmp .Eq (.call 6 (.cons (.var 1) (.cons (.var 2) (.cons (.var 3) .nil)))) (.var 8))) (.seq (.ret (.bl false)) .nil) .nil) .nil)))) (.seq (.asg (.tp [9, 10]) (.call 1 (.cons (.var 1) (.cons (.var 6) .nil)))) (.seq (.ite (.or (.cmp .Gt (.var 9) (.var 10)) (.or (.cmp .Gt (.bi .len (.cons (.var 6) .nil)) (.call 4 (.cons (.var 1) .nil))) (.cmp .NotEq (.call 4 (.cons (.var 1) .nil)) (.call 3 (.cons (.var 1) (.cons (.bin .FloorDiv (.var 1) (.int 2)) .nil)))))) (.seq (.ret (.bl false)) .nil) .nil) (.seq (.asg (.nm 4) (.tup (.cons (.int 0) (.cons (.int 1) .nil)))) (.seq (.fo (.nm 3) (.var 2) (.seq (.asg (.nm 11) (.call 3 (.cons (.var 1) (.cons (.bi .len (.cons (.var 3) .nil)) .nil)))) (.seq (.asg (.nm 4) (.call 2 (.cons (.bin .Add (.bin .Mult (.idx (.var 4) (.int 0)) (.var 11)) (.idx (.var 4) (.int 1))) (.cons (.bin .Mult (.idx (.var 4) (.int 1)) (.var 11)) .nil)))) .nil))) (.seq (.ite (.cmp .NotEq (.call 1 (.cons (.var 1) (.cons (.var 2) .nil))) (.ite (.cmp .NotEq (.var 2) (.tup .nil)) (.var 4) (.tup (.cons (.int 0) (.cons (.int 1) .nil))))) (.seq (.ret (.bl false)) .nil) .nil) (.seq (.ret (.cmp .Eq (.call 0 (.cons (.var 1) (.cons (.var 2) .nil))) (.ite (.cmp .NotEq (.var 5) (.tup .nil)) (.bi .min (.cons (.lc (.nm 3) [3] (.var 5) .nil (.bi .len (.cons (.var 3) .nil))) .nil)) .non))) .nil))))))))))))
def Phi__law_right (TB : TBs) : Phi := { fns := [(2, (F_cover_number TB)), (2, (F_weight TB)), (2, F__law_lowest), (2, F__law_choose), (1, F_most_flat), (1, F__law_lots), (3, (F_does_win TB)), (2, F__law_wins), (2, F__law_meet), (2, F__law_rest), (2, (F_touching TB)), (2, (F_is_flat TB)), (2, F__law_touching), (2, (F_blocking TB)), (2, (F_least_winning TB)), (3, F__law_book), (2, F__law_take)] }
def F__law_right (TB : TBs) : Fn := mkF 13 1 (semS (Phi__law_right TB) sm__law_right)
def sm_law : Sm := (.seq (.fo (.nm 1) (.rng1 (.cons (.bi .max (.cons (.int 2) (.cons (.bi .min (.cons (.bi .len (.cons (.var 0) .nil)) (.cons (.int 3) .nil))) .nil))) .nil)) (.seq (.asg (.nm 2) (.call 1 (.cons (.var 0) (.cons (.var 1) .nil)))) (.seq (.ite (.not (.bi .all (.cons (.lc (.nm 3) [3] (.rng1 (.cons (.int 15) .nil)) .nil (.call 0 (.cons (.var 2) .nil))) .nil))) (.seq (.ret (.bl false)) .nil) .nil) .nil))) (.seq (.ret (.bl true)) .nil))
def Phi_law (TB : TBs) : Phi := { fns := [(1, (F__law_right TB)), (2, F__law_bag)] }
def F_law (TB : TBs) : Fn := mkF 4 1 (semS (Phi_law TB) sm_law)
end Pt
set_option maxRecDepth 100000
set_option maxHeartbeats 1000000
/-! Ma: lots, books: what the base defs reckon -/
namespace Pt
open PySem PySem.Spec Pv PyProof.Rows
abbrev Lot := List Int
/-- things from k on, m of them: all lots, in order -/
def lotsF : Nat → Int → List Lot
  | 0, _ => [[]]
  | m + 1, k => [] :: ((lotsF m (k + 1)).map (k :: ·) ++ (lotsF m (k + 1)).tail)
def lots (n : Int) : List Lot := lotsF n.toNat 0
def rg (n : Int) : List Int := (List.range n.toNat).map fun i : Nat => (i : Int)
def within (a b : Lot) : Bool := a.all fun x => decide (x ∈ b)
def meet (a b : Lot) : Lot := a.filter fun x => decide (x ∈ b)
def rest (n : Int) (l : Lot) : Lot := (rg n).filter fun x => !decide (x ∈ l)
def wins (b : List Lot) (l : Lot) : Bool := b.any fun o => within o l
def minL (L : List Lot) : List Lot := L.filter fun l => !(L.any fun o => !decide (o = l) && within o l)
def touches (b : List Lot) (l : Lot) : Bool := b.all fun o => !decide (meet l o = [])
/-- what a lot of n things is; a book -/
def LotOk (n : Int) (l : Lot) : Prop := l.Pairwise (· < ·) ∧ ∀ x ∈ l, 0 ≤ x ∧ x < n
structure BookOk (n : Int) (b : List Lot) : Prop where
  asc : b.Pairwise (· < ·)
  lot : ∀ l ∈ b, LotOk n l
  most : b.length ≤ 20
structure Nn (n : Int) : Prop where
  lo : 1 ≤ n
  hi : n ≤ 6
theorem Nn.cases {n : Int} (h : Nn n) : n = 1 ∨ n = 2 ∨ n = 3 ∨ n = 4 ∨ n = 5 ∨ n = 6 := by
  have := h.lo; have := h.hi; omega
section
variable {δ : List Bx} {TB : TBs}
theorem rng1_of {n : Int} (h : -1000000 ≤ n ∧ n ≤ 1000000) : rng1 [.int n] = some ((rg n).map .int) := by
  have h1 : inRng n = true := by simp only [inRng, Bool.and_eq_true, decide_eq_true_eq]; omega
  have h2 : n.toNat ≤ cap := by unfold cap; omega
  simp [rng1, h1, h2, rngL, rg]
theorem dLrng_of {n : Int} (h : -1000000 ≤ n ∧ n ≤ 1000000) : dLrng (.int n) = some (.lst ((rg n).map .int)) := by
  have h1 : inRng n = true := by simp only [inRng, Bool.and_eq_true, decide_eq_true_eq]; omega
  have h2 : n.toNat ≤ cap := by unfold cap; omega
  simp [dLrng, h1, h2, rngL, rg]
@[simp] theorem f_is_whole_int (i : Int) : F_is_whole [.int i] δ = .ok (.bl true) δ := by
  simp [F_is_whole, sm_is_whole, Phi_is_whole]
@[simp] theorem f_is_between (i a b : Int) : F_is_between [.int i, .int a, .int b] δ = .ok (.bl (decide (a ≤ i) && decide (i ≤ b))) δ := by
  simp [F_is_between, sm_is_between, Phi_is_between]
@[simp] theorem f_is_row (b : List Lot) (i j : Int) : F_is_row [bkD b, .int i, .int j] δ = .ok (.bl (decide (i ≤ b.length) && decide ((b.length : Int) ≤ j))) δ := by
  simp [F_is_row, sm_is_row, Phi_is_row]
@[simp] theorem f_is_within (a b : Lot) : F_is_within [lotI a, lotI b] δ = .ok (.bl (within a b)) δ := by
  simp [F_is_within, sm_is_within, Phi_is_within, within]
@[simp] theorem f_common_of (a b : Lot) : F_common_of [lotI a, lotI b] δ = .ok (lotI (meet a b)) δ := by
  simp [F_common_of, sm_common_of, Phi_common_of, meet]
theorem f_rest_of {n : Int} (h : Nn n) (l : Lot) : F_rest_of [.int n, lotI l] δ = .ok (lotI (rest n l)) δ := by
  have := h.lo; have := h.hi
  simp [F_rest_of, sm_rest_of, Phi_rest_of, rest, rng1_of (n := n) (by omega)]
@[simp] theorem f_wins_by (b : List Lot) (l : Lot) : F_wins_by [bkD b, lotI l] δ = .ok (.bl (wins b l)) δ := by
  simp [F_wins_by, sm_wins_by, Phi_wins_by, wins]
@[simp] theorem f_least_by (b : List Lot) : F_least_by [.lst (b.map lotI)] δ = .ok (bkD (minL b)) δ := by
  simp [F_least_by, sm_least_by, Phi_least_by, minL]
@[simp] theorem f_does_touch (b : List Lot) (l : Lot) : F_does_touch [bkD b, lotI l] δ = .ok (.bl (touches b l)) δ := by
  simp [F_does_touch, sm_does_touch, Phi_does_touch, touches]
theorem f_all_lots {n : Int} (h : Nn n) : F_all_lots [.int n] δ = .ok (.lst ((lots n).map lotI)) δ := by
  rcases h.cases with rfl | rfl | rfl | rfl | rfl | rfl <;> kernel_rfl
end
end Pt
set_option maxRecDepth 100000
set_option maxHeartbeats 1000000
/-! Mb: facts of lots; the checks -/
namespace Pt
open PySem PySem.Spec Pv PyProof.Rows

/-! ### lots -/
theorem lotsF_head : ∀ m k, ∃ t, lotsF m k = [] :: t ∧ ∀ l ∈ t, l ≠ []
  | 0, _ => ⟨[], rfl, by simp⟩
  | m + 1, k => by
    obtain ⟨t, e, h⟩ := lotsF_head m (k + 1)
    refine ⟨_, rfl, fun l hl => ?_⟩
    rw [e] at hl
    simp only [List.map_cons, List.tail_cons, List.cons_append, List.mem_cons, List.mem_append, List.mem_map] at hl
    rcases hl with rfl | ⟨a, _, rfl⟩ | hl
    · simp
    · simp
    · exact h l hl
theorem mem_lotsF : ∀ (m : Nat) (k : Int) (l : Lot), l ∈ lotsF m k ↔ l.Pairwise (· < ·) ∧ ∀ x ∈ l, k ≤ x ∧ x < k + m
  | 0, k, l => by
    simp only [lotsF, List.mem_singleton]
    constructor
    · rintro rfl; simp
    · rintro ⟨_, h⟩
      cases l with
      | nil => rfl
      | cons x l => have := h x (List.mem_cons_self ..); omega
  | m + 1, k, l => by
    obtain ⟨t, e, ht⟩ := lotsF_head m (k + 1)
    have ih := mem_lotsF m (k + 1)
    simp only [lotsF, e, List.tail_cons, List.mem_cons, List.mem_append, List.mem_map]
    have ht' : ∀ l, l ∈ t ↔ l ∈ lotsF m (k + 1) ∧ l ≠ [] := fun l => by
      rw [e, List.mem_cons]
      constructor
      · intro h; exact ⟨.inr h, ht l h⟩
      · rintro ⟨h | h, n⟩
        · exact absurd h n
        · exact h
    have hmem : ∀ a, (a = [] ∨ a ∈ t) ↔ a ∈ lotsF m (k + 1) := fun a => by rw [e, List.mem_cons]
    simp only [hmem]
    simp only [ht', ih]
    constructor
    · rintro (rfl | ⟨a, ⟨h1, h2⟩, rfl⟩ | ⟨⟨h1, h2⟩, h3⟩)
      · simp
      · refine ⟨List.pairwise_cons.mpr ⟨fun x hx => ?_, h1⟩, fun x hx => ?_⟩
        · have := h2 x hx; omega
        · rcases List.mem_cons.mp hx with rfl | hx
          · omega
          · have := h2 x hx; omega
      · exact ⟨h1, fun x hx => by have := h2 x hx; omega⟩
    · rintro ⟨h1, h2⟩
      cases l with
      | nil => exact .inl rfl
      | cons x l =>
        obtain ⟨h3, h4⟩ := List.pairwise_cons.mp h1
        have hx := h2 x (List.mem_cons_self ..)
        by_cases hk : x = k
        · subst hk
          refine .inr (.inl ⟨l, ⟨h4, fun y hy => ?_⟩, rfl⟩)
          have := h3 y hy
          have := h2 y (List.mem_cons_of_mem _ hy)
          omega
        · refine .inr (.inr ⟨⟨h1, fun y hy => ?_⟩, by simp⟩)
          have := h2 y hy
          rcases List.mem_cons.mp hy with rfl | hy
          · omega
          · have := h3 y hy; omega
theorem mem_lots {n : Int} (h : 0 ≤ n) {l : Lot} : l ∈ lots n ↔ LotOk n l := by
  unfold lots LotOk
  rw [mem_lotsF]
  have : ((n.toNat : Nat) : Int) = n := Int.toNat_of_nonneg h
  simp [this]
theorem lots_asc {n : Int} (h : Nn n) : (lots n).Pairwise (· < ·) := by
  rcases h.cases with rfl | rfl | rfl | rfl | rfl | rfl <;> decide +kernel
theorem asc_nodup {b : List Lot} (h : b.Pairwise (· < ·)) : b.Nodup := h.imp fun h e => by subst e; exact List.lt_irrefl _ h
theorem lt_nodup {b : Lot} (h : b.Pairwise (· < ·)) : b.Nodup := h.imp fun h e => by omega
theorem lot_len {n : Int} (h : Nn n) {l : Lot} (hl : LotOk n l) : (l.length : Int) ≤ n := by
  have key : ∀ l ∈ lots n, (l.length : Int) ≤ n := by
    rcases h.cases with rfl | rfl | rfl | rfl | rfl | rfl <;> decide +kernel
  exact key l ((mem_lots (n := n) (by have := h.lo; omega)).mpr hl)
theorem mem_rg {n x : Int} : x ∈ rg n ↔ 0 ≤ x ∧ x < n := by
  unfold rg
  simp only [List.mem_map, List.mem_range]
  constructor
  · rintro ⟨i, hi, rfl⟩; omega
  · rintro ⟨h1, h2⟩; exact ⟨x.toNat, by omega, by omega⟩
/-- an ascending list within another one, as long, is it -/
theorem asc_sub : ∀ {a b : Lot}, a.Pairwise (· < ·) → b.Pairwise (· < ·) → (∀ x ∈ a, x ∈ b) → a.Sublist b
  | [], b, _, _, _ => List.nil_sublist b
  | x :: a, [], _, _, h => by have := h x (List.mem_cons_self ..); cases this
  | x :: a, y :: b, ha, hb, h => by
    obtain ⟨h1, h2⟩ := List.pairwise_cons.mp ha
    obtain ⟨h3, h4⟩ := List.pairwise_cons.mp hb
    by_cases e : x = y
    · subst e
      refine (asc_sub h2 h4 fun z hz => ?_).cons_cons x
      rcases List.mem_cons.mp (h z (List.mem_cons_of_mem _ hz)) with rfl | hz'
      · have := h1 z hz; omega
      · exact hz'
    · refine (asc_sub ha h4 fun z hz => ?_).cons y
      rcases List.mem_cons.mp (h z hz) with rfl | hz'
      · rcases List.mem_cons.mp (h x (List.mem_cons_self ..)) with rfl | hx
        · exact absurd rfl e
        · have := h3 x hx
          rcases List.mem_cons.mp hz with rfl | hz2
          · exact absurd rfl e
          · have := h1 z hz2; omega
      · exact hz'
theorem within_iff {a b : Lot} : within a b = true ↔ ∀ x ∈ a, x ∈ b := by simp [within]
theorem within_len {a b : Lot} (ha : a.Pairwise (· < ·)) (hb : b.Pairwise (· < ·)) (h : within a b = true) : a.length ≤ b.length := (asc_sub ha hb (within_iff.mp h)).length_le
theorem within_eq {a b : Lot} (ha : a.Pairwise (· < ·)) (hb : b.Pairwise (· < ·)) (h : within a b = true) (e : b.length ≤ a.length) : a = b := (asc_sub ha hb (within_iff.mp h)).eq_of_length_le e
theorem within_refl (a : Lot) : within a a = true := within_iff.mpr fun _ h => h
theorem within_trans {a b c : Lot} (h1 : within a b = true) (h2 : within b c = true) : within a c = true := within_iff.mpr fun x hx => within_iff.mp h2 x (within_iff.mp h1 x hx)
theorem within_antisymm {a b : Lot} (ha : a.Pairwise (· < ·)) (hb : b.Pairwise (· < ·)) (h1 : within a b = true) (h2 : within b a = true) : a = b := within_eq ha hb h1 (within_len hb ha h2)

/-! ### the checks -/
section
variable {δ : List Bx} {TB : TBs}
theorem f_is_things {n : Int} : F_is_things [.int n] δ = .ok (.bl (decide (1 ≤ n) && decide (n ≤ 6))) δ := by
  simp [F_is_things, sm_is_things, Phi_is_things]
theorem f_check_things {n : Int} (h : Nn n) : F_check_things [.int n] δ = .ok .non δ := by
  have := h.lo; have := h.hi
  simp [F_check_things, sm_check_things, Phi_check_things, f_is_things, *]
@[simp] theorem f_is_thing {n x : Int} : F_is_thing [.int n, .int x] δ = .ok (.bl (decide (0 ≤ x) && decide (x ≤ n - 1))) δ := by
  simp [F_is_thing, sm_is_thing, Phi_is_thing]
def isLot (n : Int) (l : Lot) : Bool := (l.all fun x => decide (0 ≤ x) && decide (x ≤ n - 1)) && (l.zip l.tail).all fun p => decide (p.1 < p.2)
theorem f_is_lot {n : Int} {l : Lot} (h : l.length ≤ cap) : F_is_lot [.int n, lotI l] δ = .ok (.bl (isLot n l)) δ := by
  cases e : l.all fun x => decide (0 ≤ x) && decide (x ≤ n - 1) <;>
    simp [F_is_lot, sm_is_lot, Phi_is_lot, isLot, zipG_lots _ _ h, e, Function.comp_def, bI_of, bI_not]
end
end Pt
namespace Pt
open PySem PySem.Spec Pv PyProof.Rows
theorem atI_last {α : Type} (xs : List α) (y : α) : L2.atI (xs ++ [y]) (-1) = some y := by
  unfold L2.atI L2.ixN
  have h1 : -(((xs ++ [y]).length : Nat) : Int) ≤ -1 := by simp; omega
  have h2 : (-1 + (((xs ++ [y]).length : Nat) : Int)).toNat = xs.length := by simp; omega
  rw [if_neg (by omega), if_pos h1, h2]
  simp
theorem isLot_ok {n : Int} {l : Lot} (h : LotOk n l) : isLot n l = true := by
  unfold isLot
  simp only [Bool.and_eq_true, List.all_eq_true, decide_eq_true_eq]
  refine ⟨fun x hx => by have := h.2 x hx; omega, ?_⟩
  have h1 := h.1
  clear h
  induction l with
  | nil => simp
  | cons x l ih =>
    obtain ⟨h2, h3⟩ := List.pairwise_cons.mp h1
    cases l with
    | nil => simp
    | cons y l =>
      intro p hp
      simp only [List.tail_cons, List.zip_cons_cons, List.mem_cons] at hp
      rcases hp with rfl | hp
      · exact h2 y (List.mem_cons_self ..)
      · exact ih h3 p hp
theorem isLot_iff {n : Int} {l : Lot} : isLot n l = true ↔ LotOk n l := by
  refine ⟨fun h => ?_, isLot_ok⟩
  unfold isLot at h
  simp only [Bool.and_eq_true, List.all_eq_true, decide_eq_true_eq] at h
  refine ⟨?_, fun x hx => by have := h.1 x hx; omega⟩
  have h2 := h.2
  clear h
  induction l with
  | nil => exact .nil
  | cons x l ih =>
    cases l with
    | nil => exact List.pairwise_singleton _ _
    | cons y l =>
      simp only [List.tail_cons, List.zip_cons_cons, List.mem_cons, forall_eq_or_imp] at h2 ih
      have ih := ih h2.2
      refine List.pairwise_cons.mpr ⟨fun z hz => ?_, ih⟩
      rcases List.mem_cons.mp hz with rfl | hz
      · exact h2.1
      · have := (List.pairwise_cons.mp ih).1 z hz
        have := h2.1
        omega
section
variable {δ : List Bx} {TB : TBs}
theorem lot_cap {n : Int} (h : Nn n) {l : Lot} (hl : LotOk n l) : l.length ≤ cap := by
  have := lot_len h hl; have := h.hi; unfold cap; omega
theorem f_lam_wrong_lot {n : Int} {x : Lot} {pre : List Lot} (h : x.length ≤ cap) : lamF_wrong_lot [.int n] [lotI x, bkD pre] δ = .ok (.bl (isLot n x && (decide (pre = []) || match pre.getLast? with | some l => decide (l < x) | none => false))) δ := by
  rcases List.eq_nil_or_concat pre with rfl | ⟨p, y, rfl⟩
  · simp [lamF_wrong_lot, lamF, ex_wrong_lot, PhiL_wrong_lot, f_is_lot h]
  · have e : idxK (bkD (p ++ [y])) (.int (-1)) δ = .ok (lotI y) δ := by
      show ofO (L2.atI ((p ++ [y]).map lotI) (-1)) δ = _
      rw [List.map_append, List.map_singleton, atI_last]; rfl
    simp [lamF_wrong_lot, lamF, ex_wrong_lot, PhiL_wrong_lot, f_is_lot h, e]
theorem dCut_bk_to (b : List Lot) (k : Nat) : dCut (bkD b) none (some (k : Int)) = some (bkD (b.take k)) := by
  show some (D.tup (cutD (b.map lotI) none (some (k : Int)))) = _
  rw [cutD_to, ← List.map_take]; rfl
theorem wrong_go {n : Int} (hn : Nn n) (b : List Lot) (hl : ∀ l ∈ b, LotOk n l) : ∀ (suf pre : List Lot), b = pre ++ suf → b.Pairwise (· < ·) → FWgo (lamF_wrong_lot [.int n]) (bkD b) pre.length (suf.map lotI) δ = .ok .non δ
  | [], _, _, _ => rfl
  | x :: suf, pre, e, asc => by
    have ih := wrong_go hn b hl suf (pre ++ [x]) (by rw [e]; simp) asc
    have hx := hl x (by rw [e]; simp)
    have et : b.take pre.length = pre := by rw [e]; simp
    have hlast : (decide (pre = []) || match pre.getLast? with | some l => decide (l < x) | none => false) = true := by
      rcases List.eq_nil_or_concat pre with rfl | ⟨p, y, rfl⟩
      · rfl
      · rw [e] at asc
        have : y < x := by
          have := (List.pairwise_append.mp asc).2.2 y (by simp) x (by simp)
          exact this
        simp [this]
    have el := f_lam_wrong_lot (δ := δ) (n := n) (x := x) (pre := pre) (lot_cap hn hx)
    rw [hlast, isLot_ok hx] at el
    simp only [List.map_cons, FWgo, strong_lot, if_true, dCut_bk_to, et, ofO_some, Res.bind_ok, strong_bk, el, toB_bl, Bool.and_self]
    rw [List.length_append] at ih
    exact ih
theorem f_wrong_lot {n : Int} {b : List Lot} (hn : Nn n) (hb : BookOk n b) (ht : HasTab TB "wrong_lot" δ) : F_wrong_lot TB [.int n, bkD b] δ = .ok .non δ := by
  unfold F_wrong_lot userF
  rw [if_pos ⟨rfl, rfl⟩]
  unfold HasTab at ht
  simp only [List.getElem?_cons_succ, List.getElem?_cons_zero, ht, and_self, if_true]
  unfold FW enumG
  have := hb.most
  simp only [seqS_bk, List.length_map, show b.length ≤ cap from by unfold cap; omega, if_true, ofO_some, Res.bind_ok]
  exact wrong_go hn b hb.lot b [] rfl hb.asc
theorem f_check_lots {n : Int} {b : List Lot} (hn : Nn n) (hb : BookOk n b) (ht : HasTab TB "wrong_lot" δ) : F_check_lots TB [.int n, bkD b] δ = .ok .non δ := by
  have := hb.most
  simp [F_check_lots, sm_check_lots, Phi_check_lots, f_wrong_lot hn hb ht, show (b.length : Int) ≤ 20 by omega]
theorem f_check_book {n : Int} {b : List Lot} (hn : Nn n) (hb : BookOk n b) (ht : HasTab TB "wrong_lot" δ) : F_check_book TB [.int n, bkD b] δ = .ok .non δ := by
  simp [F_check_book, sm_check_book, Phi_check_book, f_check_things hn, f_check_lots hn hb ht]
theorem f_check_lot {n : Int} {l : Lot} (hn : Nn n) (hl : LotOk n l) : F_check_lot [.int n, lotI l] δ = .ok .non δ := by
  simp [F_check_lot, sm_check_lot, Phi_check_lot, f_is_lot (lot_cap hn hl), isLot_ok hl]
end
end Pt
set_option maxRecDepth 100000
set_option maxHeartbeats 1000000
/-! Mc: touching, winning, flat books; choose -/
namespace Pt
open PySem PySem.Spec Pv PyProof.Rows
def isFlat (b : List Lot) : Bool := !(b.any fun l => b.any fun o => !decide (l = o) && within l o)
def winning (n : Int) (b : List Lot) : List Lot := (lots n).filter (wins b)
def touching (n : Int) (b : List Lot) : List Lot := minL ((lots n).filter (touches b))
def other (n : Int) (b : List Lot) : List Lot := minL ((lots n).filter fun l => !wins b (rest n l))
theorem any_flat {α : Type} (xs : List α) (ys : α → List Bool) : (xs.flatMap ys).any id = xs.any fun x => (ys x).any id := by
  induction xs with
  | nil => rfl
  | cons x xs ih => simp [List.flatMap_cons, ih]
def leastO : List Int → D
  | [] => .non
  | x :: xs => .int (xs.foldl min x)
theorem dBest_lst (l : List Lot) : dBest false [.lst (l.map fun x => .int x.length)] = some (leastO (l.map fun x => (x.length : Int))) := by
  cases l with
  | nil => rfl
  | cons x l =>
    simp only [dBest, listD_lst]
    rw [intsD_map]
    rfl
section
variable {δ : List Bx} {TB : TBs} {n : Int} {b : List Lot}
theorem f_is_flat_of (hl : b.length ≤ 1000) : F_is_flat_of [bkD b] δ = .ok (.bl (isFlat b)) δ := by
  have hz : (List.map (fun a => b.length) b).sum ≤ cap := by
    simp only [List.map_const', List.sum_replicate_nat]
    have := Nat.mul_le_mul hl hl
    unfold cap; omega
  simp only [F_is_flat_of, sm_is_flat_of, Phi_is_flat_of]
  simp
  rw [if_pos hz]
  simp [any_flat, isFlat, Function.comp_def]
theorem f_winning_by (hn : Nn n) : F_winning_by [.int n, bkD b] δ = .ok (.lst ((winning n b).map lotI)) δ := by
  simp [F_winning_by, sm_winning_by, Phi_winning_by, f_all_lots hn, winning]
theorem f_other_by (hn : Nn n) : F_other_by [.int n, bkD b] δ = .ok (bkD (other n b)) δ := by
  simp [F_other_by, sm_other_by, Phi_other_by, f_all_lots hn, f_rest_of hn, other]
theorem f_touching_by (hn : Nn n) : F_touching_by [.int n, bkD b] δ = .ok (bkD (touching n b)) δ := by
  simp [F_touching_by, sm_touching_by, Phi_touching_by, f_all_lots hn, touching, minL]
theorem f_cover_by (hn : Nn n) : F_cover_by [.int n, bkD b] δ = .ok (leastO ((touching n b).map fun x => (x.length : Int))) δ := by
  simp [F_cover_by, sm_cover_by, Phi_cover_by, f_touching_by hn, dBest_lst]
theorem f_touching (hn : Nn n) (hb : BookOk n b) (ht : HasTab TB "wrong_lot" δ) : F_touching TB [.int n, bkD b] δ = .ok (bkD (touching n b)) δ := by
  simp [F_touching, sm_touching, Phi_touching, f_check_book hn hb ht, f_touching_by hn]
theorem f_cover_number (hn : Nn n) (hb : BookOk n b) (ht : HasTab TB "wrong_lot" δ) : F_cover_number TB [.int n, bkD b] δ = .ok (leastO ((touching n b).map fun x => (x.length : Int))) δ := by
  simp [F_cover_number, sm_cover_number, Phi_cover_number, f_check_book hn hb ht, f_cover_by hn]
theorem f_is_flat (hn : Nn n) (hb : BookOk n b) (ht : HasTab TB "wrong_lot" δ) : F_is_flat TB [.int n, bkD b] δ = .ok (.bl (isFlat b)) δ := by
  have := hb.most
  simp [F_is_flat, sm_is_flat, Phi_is_flat, f_check_book hn hb ht, f_is_flat_of (b := b) (by omega)]
theorem f_blocking (hn : Nn n) (hb : BookOk n b) (ht : HasTab TB "wrong_lot" δ) : F_blocking TB [.int n, bkD b] δ = .ok (bkD (other n b)) δ := by
  simp [F_blocking, sm_blocking, Phi_blocking, f_check_book hn hb ht, f_other_by hn]
theorem f_least_winning (hn : Nn n) (hb : BookOk n b) (ht : HasTab TB "wrong_lot" δ) : F_least_winning TB [.int n, bkD b] δ = .ok (bkD (minL (winning n b))) δ := by
  simp [F_least_winning, sm_least_winning, Phi_least_winning, f_check_book hn hb ht, f_winning_by hn]
theorem f_does_win (hn : Nn n) (hb : BookOk n b) (ht : HasTab TB "wrong_lot" δ) {l : Lot} (hl : LotOk n l) : F_does_win TB [.int n, bkD b, lotI l] δ = .ok (.bl (wins b l)) δ := by
  simp [F_does_win, sm_does_win, Phi_does_win, F_check_lotted, sm_check_lotted, Phi_check_lotted, f_check_book hn hb ht, f_check_lot hn hl]
/-! ### choose, weights -/
def ch : Nat → Nat → Nat
  | _, 0 => 1
  | 0, _ + 1 => 0
  | n + 1, k + 1 => ch n k + ch n (k + 1)
theorem Kk.cases {k : Int} (h : 0 ≤ k) (h' : k ≤ 6) : k = 0 ∨ k = 1 ∨ k = 2 ∨ k = 3 ∨ k = 4 ∨ k = 5 ∨ k = 6 := by omega
theorem f_choose_by {k : Int} (hn : Nn n) (h : 0 ≤ k) (h' : k ≤ 6) : F_choose_by [.int n, .int k] δ = .ok (.int (ch n.toNat k.toNat)) δ := by
  rcases hn.cases with rfl | rfl | rfl | rfl | rfl | rfl <;> rcases Kk.cases h h' with rfl | rfl | rfl | rfl | rfl | rfl | rfl <;> kernel_rfl
theorem f__law_choose {k : Int} (hn : Nn n) (h : 0 ≤ k) (h' : k ≤ 6) : F__law_choose [.int n, .int k] δ = .ok (.int (ch n.toNat k.toNat)) δ := by
  rcases hn.cases with rfl | rfl | rfl | rfl | rfl | rfl <;> rcases Kk.cases h h' with rfl | rfl | rfl | rfl | rfl | rfl | rfl <;> kernel_rfl
theorem f_most_flat (hn : Nn n) : F_most_flat [.int n] δ = .ok (.int (ch n.toNat (n.toNat / 2))) δ := by
  rcases hn.cases with rfl | rfl | rfl | rfl | rfl | rfl <;> kernel_rfl
theorem f__law_lots (hn : Nn n) : F__law_lots [.int n] δ = .ok (.lst ((lots n).map lotI)) δ := by
  rcases hn.cases with rfl | rfl | rfl | rfl | rfl | rfl <;> kernel_rfl
@[simp] theorem f__law_meet (a b : Lot) : F__law_meet [lotI a, lotI b] δ = .ok (lotI (meet a b)) δ := by
  simp [F__law_meet, sm__law_meet, Phi__law_meet, meet]
@[simp] theorem f__law_is_within (a b : Lot) : F__law_is_within [lotI a, lotI b] δ = .ok (.bl (within a b)) δ := by
  have : (!a.any fun x => !decide (x ∈ b)) = within a b := by
    unfold within; rw [List.any_eq_not_all_not]; simp
  simp [F__law_is_within, sm__law_is_within, Phi__law_is_within, Function.comp_def, this]
@[simp] theorem f__law_wins (b : List Lot) (l : Lot) : F__law_wins [bkD b, lotI l] δ = .ok (.bl (wins b l)) δ := by
  simp [F__law_wins, sm__law_wins, Phi__law_wins, wins, Function.comp_def]
theorem f__law_rest (h : Nn n) (l : Lot) : F__law_rest [.int n, lotI l] δ = .ok (lotI (rest n l)) δ := by
  have := h.lo; have := h.hi
  simp [F__law_rest, sm__law_rest, Phi__law_rest, rest, rng1_of (n := n) (by omega)]
end
end Pt
set_option maxRecDepth 100000
set_option maxHeartbeats 1000000
/-! Md: the law's own touching lots -/
namespace Pt
open PySem PySem.Spec Pv PyProof.Rows
section
variable {δ : List Bx} {TB : TBs} {n : Int} {b : List Lot}
def lawLess (L : List Lot) (l : Lot) : List Lot := L.filter fun o => decide (o.length < l.length) && within o l
theorem foldl_fst {α β γ : Type} (g : β → List α) (h : β → γ) : ∀ (xs : List β) (s : List α × γ), (xs.foldl (fun s x => (s.1 ++ g x, h x)) s).1 = s.1 ++ xs.flatMap g
  | [], s => by simp
  | x :: xs, s => by simp [foldl_fst g h xs, List.flatMap_cons]
theorem less_min {L : List Lot} (h : ∀ l ∈ L, l.Pairwise (· < ·)) : (L.filter fun x => decide (lawLess L x = [])) = minL L := by
  unfold minL
  refine List.filter_congr fun x hx => ?_
  rw [Bool.eq_iff_iff]
  unfold lawLess
  simp only [decide_eq_true_eq, List.filter_eq_nil_iff, Bool.and_eq_true, not_and, Bool.not_eq_true', List.any_eq_false, Bool.not_eq_true, decide_eq_false_iff_not]
  refine ⟨fun q o ho ne => ?_, fun q o ho hl => ?_⟩
  · cases e : within o x with
    | false => rfl
    | true =>
      have h1 := within_len (h o ho) (h x hx) e
      rcases Nat.lt_or_eq_of_le h1 with h2 | h2
      · exact (q o ho h2 |> fun z => by rw [e] at z; cases z)
      · exact absurd (within_eq (h o ho) (h x hx) e (by omega)) ne
  · exact q o ho (fun e => by rw [e] at hl; omega)
theorem f__law_touching (hn : Nn n) (hb : BookOk n b) : F__law_touching [.int n, bkD b] δ = .ok (bkD (touching n b)) δ := by
  have e0 : (fun l : Lot => !(b.any fun o => decide (meet l o = []))) = touches b := by
    funext l; unfold touches; rw [List.all_eq_not_any_not]; simp
  have hlen : ((lots n).filter (touches b)).length ≤ 64 := by
    refine Nat.le_trans (List.length_filter_le _ _) ?_
    rcases hn.cases with rfl | rfl | rfl | rfl | rfl | rfl <;> decide +kernel
  simp [F__law_touching, sm__law_touching, Phi__law_touching, f__law_lots hn, Function.comp_def, e0]
  generalize hL : (lots n).filter (touches b) = L at hlen
  refine loop_bind (fun s : List Lot × Sl × Sl => [.v (.int n), .v (bkD b), .v (.lst (L.map lotI)), .v (.lst (s.1.map lotI)), s.2.1, s.2.2, .no]) (fun s x => (s.1 ++ bI (decide (lawLess L x = [])) [x] [], .v (lotI x), .v (.lst ((lawLess L x).map lotI)))) (fun k s => s.1.length ≤ k) 64 L ([], .no, .no) rfl rfl hlen ?_ (by simp) ?_
  · intro x hx k s hk hs
    refine ⟨_, rfl, ?_⟩
    have hc : s.1.length + 1 ≤ cap := by unfold cap; omega
    have hc0 : s.1.length ≤ cap := by omega
    have h1 : 1 ≤ cap := by decide
    have eL : (L.filter fun o => decide (o.length < x.length) && within o x) = lawLess L x := rfl
    cases e : decide (lawLess L x = []) <;> simp [eL, e, dAdd, hc, hc0, h1, -List.filter_eq_nil_iff, -decide_eq_true_eq, -decide_eq_false_iff_not] <;> omega
  · intro hlen'
    have hL2 : ∀ l ∈ L, l.Pairwise (· < ·) := fun l hl => by
      rw [← hL] at hl
      exact ((mem_lots (by have := hn.lo; omega)).mp (List.mem_filter.mp hl).1).1
    simp [foldl_fst, flatMap_bI, less_min hL2, touching, hL]
end
end Pt
set_option maxRecDepth 100000
set_option maxHeartbeats 1000000
/-! Me: drawn things -/
namespace Pt
open PySem PySem.Spec Pv PyProof.Rows
theorem idxK_ref {δ : List Bx} {i : Nat} {xs : List D} (h : δ[i]? = some (.lst xs)) (k : Int) : idxK (.ref i) (.int k) δ = ofO (L2.atI xs k) δ := by
  unfold idxK; simp [h]
def bagK (ρ : List Sl) (i : Nat) (k : Int) (d : D) (δ1 : List Bx) : Res (Fl × List Sl) := match bagAt ρ δ1 i with
  | none => .no
  | some (b, xs) => match L2.ixN xs.length k with
    | none => .no
    | some j => if d.strong then .ok (.nx, ρ) (δ1.set b (.lst (xs.set j d))) else .no
@[simp] theorem r_bag (i : Nat) (k : Int) (f : RX D) (ρ : List Sl) (δ : List Bx) : bagS i k f ρ δ = (f ρ δ).bind fun d δ1 => bagK ρ i k d δ1 := (rfl)
def bag2K (ρ : List Sl) (i : Nat) (k : Int) (m : Nat) (t : D) (δ1 : List Bx) : Res (Fl × List Sl) := match t with
  | .tup [d, e] => match bagAt ρ δ1 i with
    | none => .no
    | some (b, xs) => match L2.ixN xs.length k with
      | none => .no
      | some j => if d.strong && e.strong && decide (m < ρ.length) then .ok (.nx, ρ.set m (.v e)) (δ1.set b (.lst (xs.set j d))) else .no
  | _ => .no
@[simp] theorem r_bag2 (i : Nat) (k : Int) (m : Nat) (f : RX D) (ρ : List Sl) (δ : List Bx) : bag2S i k m f ρ δ = (f ρ δ).bind fun d δ1 => bag2K ρ i k m d δ1 := (rfl)
theorem bagAt_of {ρ : List Sl} {δ : List Bx} {i b : Nat} {xs : List D} (h1 : ρ[i]? = some (.v (.ref b))) (h2 : δ[b]? = some (.lst xs)) : bagAt ρ δ i = some (b, xs) := by
  unfold bagAt; simp [h1, h2]
/-- the bag in the small heap -/
def BagAt (i : Nat) (δ : List Bx) : Prop := ∃ a s c : Int, 0 ≤ a ∧ δ[i]? = some (.lst [.int a, .int s, .int c])
/-- later: the bag is one still, all else stands -/
structure Nxt (i : Nat) (δ δ' : List Bx) : Prop where
  bag : BagAt i δ'
  same : ∀ j, j ≠ i → δ'[j]? = δ[j]?
theorem Nxt.trans {i : Nat} {δ δ1 δ2 : List Bx} (a : Nxt i δ δ1) (b : Nxt i δ1 δ2) : Nxt i δ δ2 := ⟨b.bag, fun j h => (b.same j h).trans (a.same j h)⟩
theorem Nxt.refl {i : Nat} {δ : List Bx} (a : BagAt i δ) : Nxt i δ δ := ⟨a, fun _ _ => rfl⟩
theorem Nxt.tab {i : Nat} {δ δ' : List Bx} {TB : TBs} {x : Str} (a : Nxt i δ δ') (h : HasTab TB x δ) (ne : (TB x).1 ≠ i) : HasTab TB x δ' := by
  unfold HasTab at *; rw [a.same _ ne]; exact h
theorem take_ok {i : Nat} {δ : List Bx} {top : Int} (h : BagAt i δ) (h1 : 1 ≤ top) (h2 : top ≤ 1000000000) : ∃ k δ', 0 ≤ k ∧ k < top ∧ F__law_take [.ref i, .int top] δ = .ok (.int k) δ' ∧ Nxt i δ δ' := by
  obtain ⟨a, s, c, ha, e⟩ := h
  have hi : i < δ.length := (List.getElem?_eq_some_iff.mp e).1
  by_cases hp : 0 < a
  · refine ⟨a % top, δ.set i (.lst [.int (a / top), .int s, .int c]), Int.emod_nonneg _ (by omega), Int.emod_lt_of_pos _ (by omega), ?_, ⟨_, s, c, Int.ediv_nonneg ha (by omega), List.getElem?_set_self hi⟩, fun j hj => List.getElem?_set_ne (Ne.symm hj)⟩
    have hd : dDivmod [.int a, .int top] = some (.tup [.int (a / top), .int (a % top)]) := by
      show (if 0 < top ∧ top < 1073741824 then some (D.tup [.int (a / top), .int (a % top)]) else none) = _
      rw [if_pos ⟨by omega, by omega⟩]
    have hb : bagAt [.v (.ref i), .v (.int top), .no] δ 0 = some (i, [.int a, .int s, .int c]) := bagAt_of rfl e
    have hx : L2.ixN 3 0 = some 0 := rfl
    simp [F__law_take, sm__law_take, Phi__law_take, idxK_ref e, hp, hd, bag2K, hb, hx]
  · have hb : bagAt [.v (.ref i), .v (.int top), .no] δ 0 = some (i, [.int a, .int s, .int c]) := bagAt_of rfl e
    have hx : L2.ixN 3 2 = some 2 := rfl
    have hx1 : L2.ixN 3 1 = some 1 := rfl
    have e2 : (δ.set i (.lst [.int a, .int s, .int (c + 1)]))[i]? = some (.lst [.int a, .int s, .int (c + 1)]) := List.getElem?_set_self hi
    have hb2 : bagAt [.v (.ref i), .v (.int top), .no] (δ.set i (.lst [.int a, .int s, .int (c + 1)])) 0 = some (i, [.int a, .int s, .int (c + 1)]) := bagAt_of rfl e2
    have sm1 : small64 16807 = true := by decide
    have sm2 : small64 4099 = true := by decide
    have ht : top ≠ 0 := by omega
    let s' := (s * 16807 + 4099 * (c + 1) + 1).fmod 2147483647
    have e3 : (δ.set i (.lst [.int a, .int s', .int (c + 1)]))[i]? = some (.lst [.int a, .int s', .int (c + 1)]) := List.getElem?_set_self hi
    refine ⟨(s'.fdiv 911).fmod top, δ.set i (.lst [.int a, .int s', .int (c + 1)]), ?_, ?_, ?_, ⟨_, _, _, ha, e3⟩, fun j hj => List.getElem?_set_ne (Ne.symm hj)⟩
    · exact Int.fmod_nonneg_of_pos _ (by omega)
    · exact Int.fmod_lt_of_pos _ (by omega)
    · simp [F__law_take, sm__law_take, Phi__law_take, idxK_ref e, idxK_ref e2, idxK_ref e3, hp, bagK, hb, hb2, hx, hx1, sm1, sm2, ht, s']
theorem atI_in {α : Type} {xs : List α} {k : Int} (h0 : 0 ≤ k) (h1 : k < xs.length) : ∃ d, d ∈ xs ∧ L2.atI xs k = some d := by
  refine ⟨xs[k.toNat]'(by omega), List.getElem_mem _, ?_⟩
  unfold L2.atI L2.ixN
  rw [if_pos h0, if_pos h1]
  simp
theorem pull_ok {i : Nat} {δ : List Bx} {xs : List D} (h : BagAt i δ) (h1 : 1 ≤ xs.length) (h2 : xs.length ≤ 1000000000) : ∃ d δ', d ∈ xs ∧ F__law_pull [.ref i, .lst xs] δ = .ok d δ' ∧ Nxt i δ δ' := by
  obtain ⟨k, δ', k0, k1, e, nx⟩ := take_ok h (top := (xs.length : Int)) (by omega) (by omega)
  obtain ⟨d, hd, ea⟩ := atI_in k0 k1
  exact ⟨d, δ', hd, by simp [F__law_pull, sm__law_pull, Phi__law_pull, e, ea], nx⟩
theorem pull_lots {i : Nat} {δ : List Bx} {xs : List Lot} (h : BagAt i δ) (h1 : xs ≠ []) (h2 : xs.length ≤ 1000000000) : ∃ d δ', d ∈ xs ∧ F__law_pull [.ref i, .lst (xs.map lotI)] δ = .ok (lotI d) δ' ∧ Nxt i δ δ' := by
  obtain ⟨d, δ', hd, e, nx⟩ := pull_ok (xs := xs.map lotI) h (by rw [List.length_map]; exact List.length_pos_iff.mpr h1) (by simpa using h2)
  obtain ⟨l, hl, rfl⟩ := List.mem_map.mp hd
  exact ⟨l, δ', hl, e, nx⟩
end Pt
set_option maxRecDepth 100000
set_option maxHeartbeats 1000000
/-! Ms: sorted lots -/
namespace Pt
open PySem PySem.Spec Pv PyProof.Rows
theorem hasTy_lot (a : List Int) : hasTy (.l .i) (lotI a) = true := by
  show hasTyL .i (a.map .int) = true
  exact hasTyL_ints' a
where
  hasTyL_ints' : ∀ a : List Int, hasTyL .i (a.map .int) = true
    | [] => rfl
    | x :: a => by simp [hasTyL, hasTy, hasTyL_ints' a]
theorem enc_lt {a b : List Int} : enc (lotI a) < enc (lotI b) ↔ a < b := by
  have h := lt_enc (hasTy_lot a) (hasTy_lot b)
  have h2 : ltD (lotI a) (lotI b) = some (decide (a < b)) := ltL_ints a b
  rw [h2] at h
  have := Option.some.inj h
  simpa using this.symm
theorem enc_eq {a b : List Int} : enc (lotI a) = enc (lotI b) ↔ a = b := ⟨fun h => lotD_inj (enc_inj (hasTy_lot a) (hasTy_lot b) h), fun h => by rw [h]⟩
def insL (x : List Int) : List (List Int) → List (List Int)
  | [] => [x]
  | y :: ys => if y < x then y :: insL x ys else x :: y :: ys
def sortL : List (List Int) → List (List Int)
  | [] => []
  | x :: xs => insL x (sortL xs)
def dedL : List (List Int) → List (List Int)
  | [] => []
  | x :: xs => if x ∈ xs then dedL xs else x :: dedL xs
theorem insD_lot (x : List Int) : ∀ ys : List (List Int), insD (lotI x) (ys.map lotI) = (insL x ys).map lotI
  | [] => rfl
  | y :: ys => by
    simp only [List.map_cons, insD, insL, enc_lt, insD_lot x ys]
    split <;> rfl
theorem srtD_lot : ∀ ys : List (List Int), srtD (ys.map lotI) = (sortL ys).map lotI
  | [] => rfl
  | y :: ys => by simp only [List.map_cons, srtD, sortL, srtD_lot ys, insD_lot]
theorem dedD_lot : ∀ ys : List (List Int), dedD (ys.map lotI) = (dedL ys).map lotI
  | [] => rfl
  | y :: ys => by
    simp only [List.map_cons, dedD, dedL, dedD_lot ys]
    have e : ((ys.map lotI).any fun z => enc z == enc (lotI y)) = decide (y ∈ ys) := by
      induction ys with
      | nil => rfl
      | cons z ys ih =>
        simp only [List.map_cons, List.any_cons, ih, List.mem_cons, Bool.decide_or]
        congr 1
        rw [Bool.eq_iff_iff, beq_iff_eq, enc_eq, decide_eq_true_eq]; exact eq_comm
    rw [e]
    by_cases h : y ∈ ys <;> simp [h]
theorem insL_perm (x : List Int) : ∀ ys, (insL x ys).Perm (x :: ys)
  | [] => .refl _
  | y :: ys => by
    unfold insL
    split
    · exact ((insL_perm x ys).cons y).trans (.swap x y ys)
    · exact .refl _
theorem sortL_perm : ∀ ys, (sortL ys).Perm ys
  | [] => .refl _
  | y :: ys => (insL_perm y _).trans ((sortL_perm ys).cons y)
theorem lt_tri (a b : List Int) : a < b ∨ a = b ∨ b < a := by
  rcases Decidable.em (a < b) with h | h
  · exact .inl h
  · rcases Decidable.em (b < a) with h' | h'
    · exact .inr (.inr h')
    · exact .inr (.inl (List.le_antisymm (List.not_lt.mp h') (List.not_lt.mp h)))
theorem insL_asc (x : List Int) : ∀ {ys : List (List Int)}, ys.Pairwise (· < ·) → x ∉ ys → (insL x ys).Pairwise (· < ·)
  | [], _, _ => List.pairwise_singleton _ _
  | y :: ys, h, n => by
    obtain ⟨h1, h2⟩ := List.pairwise_cons.mp h
    unfold insL
    split
    · rename_i hy
      refine List.pairwise_cons.mpr ⟨fun z hz => ?_, insL_asc x h2 fun z => n (List.mem_cons_of_mem _ z)⟩
      rcases List.mem_cons.mp ((insL_perm x ys).mem_iff.mp hz) with rfl | hz
      · exact hy
      · exact h1 z hz
    · rename_i hy
      have hxy : x < y := by
        rcases lt_tri x y with h | rfl | h
        · exact h
        · exact absurd (List.mem_cons_self ..) n
        · exact absurd h hy
      refine List.pairwise_cons.mpr ⟨fun z hz => ?_, h⟩
      rcases List.mem_cons.mp hz with rfl | hz
      · exact hxy
      · exact List.lt_trans hxy (h1 z hz)
theorem sortL_asc : ∀ {ys : List (List Int)}, ys.Nodup → (sortL ys).Pairwise (· < ·)
  | [], _ => .nil
  | y :: ys, h => insL_asc y (sortL_asc (List.nodup_cons.mp h).2) fun z => (List.nodup_cons.mp h).1 ((sortL_perm ys).mem_iff.mp z)
theorem mem_sortL {x : List Int} {ys : List (List Int)} : x ∈ sortL ys ↔ x ∈ ys := (sortL_perm ys).mem_iff
theorem len_sortL (ys : List (List Int)) : (sortL ys).length = ys.length := (sortL_perm ys).length_eq
theorem mem_dedL {x : List Int} : ∀ {ys : List (List Int)}, x ∈ dedL ys ↔ x ∈ ys
  | [] => Iff.rfl
  | y :: ys => by
    unfold dedL
    split
    · rename_i h
      rw [mem_dedL, List.mem_cons]
      exact ⟨.inr, fun z => z.elim (fun e => e ▸ h) id⟩
    · rw [List.mem_cons, List.mem_cons, mem_dedL]
theorem nodup_dedL : ∀ ys : List (List Int), (dedL ys).Nodup
  | [] => List.nodup_nil
  | y :: ys => by
    unfold dedL
    split
    · exact nodup_dedL ys
    · rename_i h
      exact List.nodup_cons.mpr ⟨fun z => h (mem_dedL.mp z), nodup_dedL ys⟩
theorem len_dedL : ∀ ys : List (List Int), (dedL ys).length ≤ ys.length
  | [] => Nat.le_refl _
  | y :: ys => by
    unfold dedL
    have := len_dedL ys
    split
    · simp; omega
    · simp; omega
/-- ascending lists with the same items are the same -/
theorem asc_ext {a b : List (List Int)} (ha : a.Pairwise (· < ·)) (hb : b.Pairwise (· < ·)) (h : ∀ x, x ∈ a ↔ x ∈ b) : a = b := by
  have na : a.Nodup := ha.imp fun h e => by subst e; exact List.lt_irrefl _ h
  have nb : b.Nodup := hb.imp fun h e => by subst e; exact List.lt_irrefl _ h
  have p : a.Perm b := (List.perm_ext_iff_of_nodup na nb).mpr fun x => h x
  exact p.eq_of_pairwise (fun x y _ _ h1 h2 => absurd (List.lt_trans h1 h2) (List.lt_irrefl _)) ha hb
theorem sortL_of_asc {a : List (List Int)} (ha : a.Pairwise (· < ·)) : sortL a = a := by
  refine asc_ext (sortL_asc (ha.imp fun h e => by subst e; exact List.lt_irrefl _ h)) ha fun x => mem_sortL
theorem all_hasTy (ys : List (List Int)) : (ys.map lotI).all (hasTy (.l .i)) = true := by
  simp only [List.all_map, List.all_eq_true, Function.comp_apply]
  exact fun x _ => hasTy_lot x
theorem dSorted_lots (ys : List (List Int)) : dSorted (.l .i) [.lst (ys.map lotI)] = some (.lst ((sortL ys).map lotI)) := by
  show (if (ys.map lotI).all (hasTy (.l .i)) && (ys.map lotI).all okd then some (D.lst (srtD (ys.map lotI))) else none) = _
  have : (ys.map lotI).all okd = true := by simp
  rw [all_hasTy, this, srtD_lot]; rfl
theorem dSortSet_lots {ys : List (List Int)} (h : ys.length < 64) : dSortSet [.lst (ys.map lotI)] = some (.lst ((sortL (dedL ys)).map lotI)) := by
  show (if (ys.map lotI).all (hasTy (.l .i)) && decide ((ys.map lotI).length < 64) then some (D.lst (srtD (dedD (ys.map lotI)))) else none) = _
  rw [all_hasTy, dedD_lot, srtD_lot, List.length_map, decide_eq_true h]; rfl
end Pt
set_option maxRecDepth 100000
set_option maxHeartbeats 1000000
/-! Mf: the drawn book, the bag, the law's loop -/
namespace Pt
open PySem PySem.Spec Pv PyProof.Rows
@[simp] theorem storeM_nil (ρ : List Sl) : storeM [] [] ρ = some ρ := (rfl)
@[simp] theorem storeM_d (i : Nat) (is : List Nat) (x : D) (ms : List Im) (ρ : List Sl) : storeM (i :: is) (.d x :: ms) ρ = if decide (i < ρ.length) then storeM is ms (ρ.set i (.v x)) else none := (rfl)
@[simp] theorem storeM_o (i : Nat) (is : List Nat) (x : List D) (ms : List Im) (ρ : List Sl) : storeM (i :: is) (.o x :: ms) ρ = if decide (i < ρ.length) then storeM is ms (ρ.set i (.own x)) else none := (rfl)
@[simp] theorem dCut_lst1 {α : Type} (f : α → D) (xs : List α) : dCut (.lst (xs.map f)) (some 1) none = some (.lst (xs.tail.map f)) := by
  show some (D.lst (cutD (xs.map f) (some ((1 : Nat) : Int)) none)) = _
  rw [cutD_from, List.drop_one, ← List.map_tail]
theorem bI_lst' {α : Type} (c : Bool) (f : α → D) (x y : List α) : bI c (D.lst (x.map f)) (D.lst (y.map f)) = D.lst ((bI c x y).map f) := by cases c <;> rfl
theorem lots_two {n : Int} (hn : Nn n) : (lots n).tail ≠ [] ∧ lots n ≠ [] ∧ (lots n).length ≤ 64 := by
  rcases hn.cases with rfl | rfl | rfl | rfl | rfl | rfl <;> decide +kernel
/-- one turn of the drawing -/
theorem book_ok {i : Nat} {δ : List Bx} {n most : Int} (h : BagAt i δ) (hn : Nn n) (h1 : 0 ≤ most) (h2 : most ≤ 20) :
    ∃ (b : List Lot) (δ' : List Bx), F__law_book [.ref i, .int n, .int most] δ = .ok (bkD b) δ' ∧ BookOk n b ∧ (b.length : Int) ≤ most ∧ Nxt i δ δ' := by
  have nlo := hn.lo
  have nhi := hn.hi
  obtain ⟨q1, δ1, a0, a1, e1, n1⟩ := take_ok h (top := 4) (by omega) (by omega)
  obtain ⟨q2, δ2, c0, c1, e2, n2⟩ := take_ok n1.bag (top := n + 1) (by omega) (by omega)
  obtain ⟨q3, δ3, d0, d1, e3, n3⟩ := take_ok n2.bag (top := most + 1) (by omega) (by omega)
  obtain ⟨t1, t2, t3⟩ := lots_two hn
  have key : ∃ ev : List Lot, (∀ l ∈ ev, l ∈ lots n) ∧ ev ≠ [] ∧ ev.length ≤ 64 ∧ bI (decide (0 < q1)) (lots n).tail (lots n) = ev := by
    refine ⟨_, ?_, ?_, ?_, rfl⟩
    all_goals cases decide (0 < q1) <;> simp only [bI_true, bI_false]
    · exact fun l h => h
    · exact fun l h => List.mem_of_mem_tail h
    · exact t2
    · exact t1
    · exact t3
    · rw [List.length_tail]; omega
  obtain ⟨ev, v1, v2, v3, v4⟩ := key
  have v5 : bI (decide (0 < q1)) ((lots n).map lotI).tail ((lots n).map lotI) = ev.map lotI := by
    rw [← v4]; cases decide (0 < q1) <;> simp
  simp [F__law_book, sm__law_book, Phi__law_book, f__law_lots hn, e1, e2, e3, v5, rng1_of (n := q3) (by omega)]
  let I : Nat → List Sl → List Bx → Prop := fun k ρ δ' => ∃ (ys : List Lot) (s5 s7 s8 : Sl), ρ = [.v (.ref i), .v (.int n), .v (.int most), .v (.lst (ev.map lotI)), .v (.int q2), s5, .own (ys.map lotI), s7, s8, .no] ∧ ys.length ≤ k ∧ (∀ y ∈ ys, y ∈ lots n) ∧ Nxt i δ3 δ'
  have hI0 : I 0 [.v (.ref i), .v (.int n), .v (.int most), .v (.lst (ev.map lotI)), .v (.int q2), .no, .own [], .no, .no, .no] δ3 := ⟨[], .no, .no, .no, rfl, Nat.le_refl _, by simp, .refl n3.bag⟩
  have hlen : ((rg q3).map D.int).length = q3.toNat := by simp [rg]
  refine (fun {body} hstep => ?_ : ∀ {body : RS}, (∀ d ∈ (rg q3).map D.int, ∀ k ρ δ, I k ρ δ → k < 21 → ∃ ρ2, bindP (.nm 5) d ρ = some ρ2 ∧ ∃ ρ' δ', body ρ2 δ = .ok (.nx, ρ') δ' ∧ I (k + 1) ρ' δ') → ∃ b δ', (floop (.nm 5) body ((rg q3).map D.int) _ δ3).bind _ = .ok (bkD b) δ' ∧ BookOk n b ∧ (b.length : Int) ≤ most ∧ Nxt i δ δ') ?_
  · obtain ⟨ρ', δ', e, ys, s5, s7, s8, rfl, l1, l2, l3⟩ := floop_invK I 21 (xs := (rg q3).map D.int) (k := 0) (by omega) hstep hI0
    rw [e]
    refine ⟨sortL (dedL ys), δ', ?_, ⟨sortL_asc (nodup_dedL _), fun l hl => (mem_lots (by omega)).mp (l2 l (mem_dedL.mp (mem_sortL.mp hl))), ?_⟩, ?_, ((n1.trans n2).trans n3).trans l3⟩
    · simp [r_frz, ownAt, dSortSet_lots (ys := ys) (by omega)]
    · have := len_dedL ys; rw [len_sortL]; omega
    · have := len_dedL ys; rw [len_sortL]; omega
  · rintro d hd k ρ δ4 ⟨ys, s5, s7, s8, rfl, l1, l2, l3⟩ hk
    obtain ⟨t, ht, rfl⟩ := List.mem_map.mp hd
    refine ⟨_, rfl, ?_⟩
    obtain ⟨lot, δ5, f1, g1, m1⟩ := pull_lots l3.bag (xs := ev) v2 (by omega)
    obtain ⟨q4, δ6, _, _, g2, m2⟩ := take_ok m1.bag (top := 3) (by omega) (by omega)
    have cp : (ys.length : Nat) < cap := by unfold cap; omega
    by_cases hz : q4 = 0
    · subst hz
      cases hs : decide ((ev.filter fun x => decide ((x.length : Int) = q2)) = []) with
      | true =>
        refine ⟨_, δ6, ?_, ys ++ [lot], .v (.int t), .v (lotI lot), .v (.lst ((ev.filter fun x => decide ((x.length : Int) = q2)).map lotI)), rfl, by simp; omega, fun y hy => ?_, (l3.trans m1).trans m2⟩
        · simp [g1, g2, r_app, ownAt, hs, cp, -List.filter_eq_nil_iff, -decide_eq_true_eq]
        · rcases List.mem_append.mp hy with hy | hy
          · exact l2 y hy
          · rw [List.mem_singleton.mp hy]; exact v1 _ f1
      | false =>
        have hs' : (ev.filter fun x => decide ((x.length : Int) = q2)) ≠ [] := by simpa using hs
        obtain ⟨lot2, δ7, f3, g3, m3⟩ := pull_lots m2.bag hs' (Nat.le_trans (List.length_filter_le _ _) (by omega))
        refine ⟨_, δ7, ?_, ys ++ [lot2], .v (.int t), .v (lotI lot), .v (.lst ((ev.filter fun x => decide ((x.length : Int) = q2)).map lotI)), rfl, by simp; omega, fun y hy => ?_, ((l3.trans m1).trans m2).trans m3⟩
        · simp [g1, g2, g3, r_app, ownAt, hs, cp, -List.filter_eq_nil_iff, -decide_eq_false_iff_not]
        · rcases List.mem_append.mp hy with hy | hy
          · exact l2 y hy
          · rw [List.mem_singleton.mp hy]; exact v1 _ (List.mem_filter.mp f3).1
    · refine ⟨_, δ6, ?_, ys ++ [lot], .v (.int t), .v (lotI lot), .v (.lst ((ev.filter fun x => decide ((x.length : Int) = q2)).map lotI)), rfl, by simp; omega, fun y hy => ?_, (l3.trans m1).trans m2⟩
      · simp [g1, g2, r_app, ownAt, hz, cp, -List.filter_eq_nil_iff]
      · rcases List.mem_append.mp hy with hy | hy
        · exact l2 y hy
        · rw [List.mem_singleton.mp hy]; exact v1 _ f1
end Pt
set_option maxRecDepth 100000
set_option maxHeartbeats 1000000
/-! Na: pairs of lots in order, the least of them -/
namespace Pt
open PySem PySem.Spec Pv PyProof.Rows
abbrev Pr := Lot × Lot
def prD (p : Pr) : D := .tup [lotI p.1, lotI p.2]
def plt (p q : Pr) : Prop := p.1 < q.1 ∨ p.1 = q.1 ∧ p.2 < q.2
instance (p q : Pr) : Decidable (plt p q) := by unfold plt; exact inferInstance
def kL (p : Pr) : Nat := p.1.length + p.2.length
def klt (p q : Pr) : Prop := kL p < kL q ∨ kL p = kL q ∧ plt p q
instance (p q : Pr) : Decidable (klt p q) := by unfold klt; exact inferInstance
theorem plt_tri (p q : Pr) : plt p q ∨ p = q ∨ plt q p := by
  rcases lt_tri p.1 q.1 with h | h | h
  · exact .inl (.inl h)
  · rcases lt_tri p.2 q.2 with h2 | h2 | h2
    · exact .inl (.inr ⟨h, h2⟩)
    · exact .inr (.inl (Prod.ext h h2))
    · exact .inr (.inr (.inr ⟨h.symm, h2⟩))
  · exact .inr (.inr (.inl h))
theorem klt_tri (p q : Pr) : klt p q ∨ p = q ∨ klt q p := by
  rcases Nat.lt_trichotomy (kL p) (kL q) with h | h | h
  · exact .inl (.inl h)
  · rcases plt_tri p q with h2 | h2 | h2
    · exact .inl (.inr ⟨h, h2⟩)
    · exact .inr (.inl h2)
    · exact .inr (.inr (.inr ⟨h.symm, h2⟩))
  · exact .inr (.inr (.inl h))
theorem plt_trans {p q r : Pr} (h1 : plt p q) (h2 : plt q r) : plt p r := by
  rcases h1 with h1 | ⟨e1, h1⟩ <;> rcases h2 with h2 | ⟨e2, h2⟩
  · exact .inl (List.lt_trans h1 h2)
  · exact .inl (by rw [← e2]; exact h1)
  · exact .inl (by rw [e1]; exact h2)
  · exact .inr ⟨e1.trans e2, List.lt_trans h1 h2⟩
theorem klt_trans {p q r : Pr} (h1 : klt p q) (h2 : klt q r) : klt p r := by
  rcases h1 with h1 | ⟨e1, h1⟩ <;> rcases h2 with h2 | ⟨e2, h2⟩
  · exact .inl (by omega)
  · exact .inl (by omega)
  · exact .inl (by omega)
  · exact .inr ⟨e1.trans e2, plt_trans h1 h2⟩
theorem plt_irr (p : Pr) : ¬ plt p p := by
  rintro (h | ⟨_, h⟩) <;> exact List.lt_irrefl _ h
theorem klt_irr (p : Pr) : ¬ klt p p := by
  rintro (h | ⟨_, h⟩)
  · omega
  · exact plt_irr _ h
/-- the least that there is -/
def IsL (V : Pr → Prop) : Option Pr → Prop
  | none => ∀ p, ¬ V p
  | some p => V p ∧ ∀ q, V q → ¬ klt q p
theorem IsL.uniq {V : Pr → Prop} : ∀ {a b : Option Pr}, IsL V a → IsL V b → a = b
  | none, none, _, _ => rfl
  | none, some q, h, h2 => absurd h2.1 (h q)
  | some p, none, h, h2 => absurd h.1 (h2 p)
  | some p, some q, h, h2 => by
    rcases klt_tri p q with e | e | e
    · exact absurd e (h2.2 p h.1)
    · rw [e]
    · exact absurd e (h.2 q h2.1)
theorem IsL.congr {V W : Pr → Prop} (e : ∀ p, V p ↔ W p) : ∀ {a : Option Pr}, IsL V a → IsL W a
  | none, h => fun p k => h p ((e p).mpr k)
  | some p, h => ⟨(e p).mp h.1, fun q k => h.2 q ((e q).mpr k)⟩
/-- one more is looked at -/
def bet (V : Pr → Bool) (r : Option Pr) (p : Pr) : Option Pr := if V p then (match r with | none => some p | some q => if klt p q then some p else some q) else r
theorem IsL.bet {V : Pr → Bool} {L : List Pr} {r : Option Pr} {p : Pr} (h : IsL (fun q => q ∈ L ∧ V q = true) r) : IsL (fun q => q ∈ L ++ [p] ∧ V q = true) (bet V r p) := by
  unfold Pt.bet
  by_cases hv : V p = true
  · rw [if_pos hv]
    cases r with
    | none =>
      refine ⟨⟨by simp, hv⟩, fun q hq => ?_⟩
      rcases List.mem_append.mp hq.1 with h' | h'
      · exact absurd ⟨h', hq.2⟩ (h q)
      · rw [List.mem_singleton.mp h']; exact klt_irr _
    | some q0 =>
      show IsL _ (if klt p q0 then some p else some q0)
      by_cases hk : klt p q0
      · rw [if_pos hk]
        refine ⟨⟨by simp, hv⟩, fun q hq hqp => ?_⟩
        rcases List.mem_append.mp hq.1 with h' | h'
        · exact h.2 q ⟨h', hq.2⟩ (klt_trans hqp hk)
        · rw [List.mem_singleton.mp h'] at hqp; exact klt_irr _ hqp
      · rw [if_neg hk]
        refine ⟨⟨List.mem_append_left _ h.1.1, h.1.2⟩, fun q hq hqp => ?_⟩
        rcases List.mem_append.mp hq.1 with h' | h'
        · exact h.2 q ⟨h', hq.2⟩ hqp
        · rw [List.mem_singleton.mp h'] at hqp; exact hk hqp
  · rw [if_neg hv]
    refine IsL.congr (fun q => ?_) h
    simp only [List.mem_append, List.mem_singleton]
    constructor
    · rintro ⟨a, b⟩; exact ⟨.inl a, b⟩
    · rintro ⟨a | a, b⟩
      · exact ⟨a, b⟩
      · rw [a] at b; exact absurd b hv
/-! ### the first of the least, of pairs -/
def minP (x : Pr) (xs : List Pr) : Pr := xs.foldl (fun a y => if plt y a then y else a) x
theorem minP_mem : ∀ (xs : List Pr) (x : Pr), minP x xs ∈ x :: xs
  | [], x => by simp [minP]
  | y :: xs, x => by
    have e : minP x (y :: xs) = minP (if plt y x then y else x) xs := rfl
    have := minP_mem xs (if plt y x then y else x)
    rw [← e] at this
    rcases List.mem_cons.mp this with h | h
    · rw [h]; split <;> simp
    · simp [h]
theorem minP_least : ∀ (xs : List Pr) (x : Pr), (¬ plt x (minP x xs)) ∧ ∀ y ∈ xs, ¬ plt y (minP x xs)
  | [], x => ⟨plt_irr _, by simp⟩
  | y :: xs, x => by
    have e : minP x (y :: xs) = minP (if plt y x then y else x) xs := rfl
    obtain ⟨h1, h2⟩ := minP_least xs (if plt y x then y else x)
    rw [← e] at h1 h2
    have le : ∀ {a b c : Pr}, ¬ plt b a → ¬ plt a c → ¬ plt b c := fun {a b c} hab hac hbc => by
      rcases plt_tri a b with t | t | t
      · exact hac (plt_trans t hbc)
      · subst t; exact hac hbc
      · exact hab t
    by_cases hyx : plt y x
    · rw [if_pos hyx] at h1
      refine ⟨fun k => h1 (plt_trans hyx k), fun z hz => ?_⟩
      rcases List.mem_cons.mp hz with rfl | hz
      · exact h1
      · exact h2 z hz
    · rw [if_neg hyx] at h1
      refine ⟨h1, fun z hz => ?_⟩
      rcases List.mem_cons.mp hz with rfl | hz
      · exact le hyx h1
      · exact h2 z hz
theorem alikeL_ints : ∀ xs ys : List Int, PySem.W.alikeAll (pdL (xs.map .int)) (pdL (ys.map .int)) = true
  | [], _ => by simp only [List.map_nil, pdL, PySem.W.alikeAll]
  | _ :: _, [] => by simp only [List.map_nil, List.map_cons, pdL, PySem.W.alikeAll]
  | x :: xs, y :: ys => by simp only [List.map_cons, pdL, pd, PySem.W.alikeAll, PySem.W.alike, alikeL_ints xs ys, Bool.and_self]
theorem alike_lot (a b : Lot) : PySem.W.alike (pd (lotI a)) (pd (lotI b)) = true := by
  show PySem.W.alike (.tuple _) (.tuple _) = true
  simp only [PySem.W.alike]
  exact alikeL_ints a b
theorem pdL_int (a : List Int) : pdL (a.map .int) = a.map PyData.int := by
  rw [pdL_map, List.map_map]; rfl
theorem dlt_lot (a b : Lot) : PySem.W.dataLt (pd (lotI a)) (pd (lotI b)) = decide (a < b) := by
  show PySem.W.dataLt (.tuple (pdL (a.map .int))) (.tuple (pdL (b.map .int))) = _
  rw [PySem.W.dataLt_tuple, pdL_int, pdL_int]
  exact PySem.W.dataLt_ints a b
theorem eqv_lot (a b : Lot) : PyData.eqv (pd (lotI a)) (pd (lotI b)) = decide (a = b) := by
  rw [← eqD_pd 1 1 (lotI a) (lotI b) (okD_lot 0 a) (okD_lot 0 b), eqD_lot]
theorem dlt_pr (p q : Pr) : PySem.W.dataLt (pd (prD p)) (pd (prD q)) = decide (plt p q) := by
  show PySem.W.dataLt (.tuple [pd (lotI p.1), pd (lotI p.2)]) (.tuple [pd (lotI q.1), pd (lotI q.2)]) = _
  rw [PySem.W.dataLt_pair (alike_lot _ _) (alike_lot _ _), eqv_lot, eqv_lot, dlt_lot, dlt_lot]
  unfold plt
  by_cases h1 : p.1 = q.1
  · by_cases h2 : p.2 = q.2
    · simp [h1, h2, List.lt_irrefl]
    · simp [h1, h2, List.lt_irrefl]
  · simp [h1]
theorem alk_pr (L : List Pr) : alk (L.map prD) = true := by
  unfold alk
  simp only [List.all_map, List.all_eq_true, Function.comp_apply, Bool.and_eq_true]
  refine fun p hp => ⟨fun q hq => ?_, rfl⟩
  show PySem.W.alike (.tuple [pd (lotI p.1), pd (lotI p.2)]) (.tuple [pd (lotI q.1), pd (lotI q.2)]) = true
  simp only [PySem.W.alike, PySem.W.alikeAll, alike_lot, Bool.and_self]
theorem minT_pr : ∀ (L : List Pr) (p : Pr), minT (prD p) (L.map prD) = prD (minP p L)
  | [], p => rfl
  | y :: L, p => by
    have e1 : minT (prD p) ((y :: L).map prD) = minT (if PySem.W.dataLt (pd (prD y)) (pd (prD p)) then prD y else prD p) (L.map prD) := rfl
    have e2 : minP p (y :: L) = minP (if plt y p then y else p) L := rfl
    rw [e1, e2, dlt_pr, ← minT_pr L]
    by_cases h : plt y p <;> simp [h]
@[simp] theorem strong_pr (p : Pr) : (prD p).strong = true := rfl
theorem okD_pr (n : Nat) (p : Pr) : okD (n + 2) (prD p) = true := by
  simp [prD]
theorem okL_prs (L : List Pr) : okL 39 (L.map prD) = true := okL_map (fun p => okD_pr 37 p) L
theorem dMinT_pr (p : Pr) (L : List Pr) : dMinT [.lst ((p :: L).map prD)] = some (prD (minP p L)) := by
  have h1 : okL 39 (prD p :: L.map prD) = true := okL_prs (p :: L)
  have h2 : alk (prD p :: L.map prD) = true := alk_pr (p :: L)
  show (if okL 39 (prD p :: L.map prD) && alk (prD p :: L.map prD) then some (minT (prD p) (L.map prD)) else none) = _
  rw [h1, h2, minT_pr]; rfl
/-! ### the pairs of each size -/
def combs {α : Type} : Nat → List α → List (List α)
  | 0, _ => [[]]
  | _ + 1, [] => []
  | k + 1, x :: xs => (combs k xs).map (x :: ·) ++ combs (k + 1) xs
def splits (s : Lot) : List Pr := (List.range (s.length - 1)).flatMap fun k => (combs k s.tail).map fun more => (s.headD 0 :: more, s.filter fun x => !decide (x ∈ s.headD 0 :: more))
def allP (m : Int) (z : Nat) : List Pr := (combs z (rg m)).flatMap splits
def pokB (p : Pr) : Bool := !p.1.isEmpty && !p.2.isEmpty && decide (p.1.headD 0 < p.2.headD 0) && p.1.all fun x => !decide (x ∈ p.2)
/-- a pair of index lots that can be twins -/
def Pok (m : Int) (p : Pr) : Prop := LotOk m p.1 ∧ LotOk m p.2 ∧ pokB p = true
theorem allP_ok : ∀ m ∈ List.range 7, ∀ z ∈ List.range 7, ((allP (m : Nat) z).all fun p => (lots (m : Nat)).contains p.1 && (lots (m : Nat)).contains p.2 && pokB p && decide (kL p = z)) = true := by decide +kernel
theorem allP_all : ∀ m ∈ List.range 7, ((lots (m : Nat)).all fun a => (lots (m : Nat)).all fun b => !pokB (a, b) || ((allP (m : Nat) (kL (a, b))).contains (a, b) && decide (2 ≤ kL (a, b)) && decide (kL (a, b) ≤ m))) = true := by decide +kernel
theorem mem_allP {m : Nat} (hm : m ≤ 6) {z : Nat} (hz : z ≤ 6) {p : Pr} : p ∈ allP m z ↔ Pok m p ∧ kL p = z := by
  constructor
  · intro h
    have := allP_ok m (by simp; omega) z (by simp; omega)
    rw [List.all_eq_true] at this
    have := this p h
    simp only [Bool.and_eq_true, List.contains_iff_mem, decide_eq_true_eq] at this
    obtain ⟨⟨⟨h1, h2⟩, h3⟩, h4⟩ := this
    exact ⟨⟨(mem_lots (by omega)).mp h1, (mem_lots (by omega)).mp h2, h3⟩, h4⟩
  · rintro ⟨⟨h1, h2, h3⟩, h4⟩
    have := allP_all m (by simp; omega)
    rw [List.all_eq_true] at this
    have := this p.1 ((mem_lots (by omega)).mpr h1)
    rw [List.all_eq_true] at this
    have := this p.2 ((mem_lots (by omega)).mpr h2)
    have e : ((p.1, p.2) : Pr) = p := rfl
    rw [e, h3, h4] at this
    simp at this
    exact this.1.1
theorem pok_size {m : Nat} (hm : m ≤ 6) {p : Pr} (h : Pok m p) : 2 ≤ kL p ∧ kL p ≤ m := by
  obtain ⟨h1, h2, h3⟩ := h
  have := allP_all m (by simp; omega)
  rw [List.all_eq_true] at this
  have := this p.1 ((mem_lots (by omega)).mpr h1)
  rw [List.all_eq_true] at this
  have := this p.2 ((mem_lots (by omega)).mpr h2)
  have e : ((p.1, p.2) : Pr) = p := rfl
  rw [e, h3] at this
  simp at this
  exact ⟨this.1.2, this.2⟩
end Pt
set_option maxRecDepth 100000
set_option maxHeartbeats 0
namespace Pt
open PySem PySem.Spec PyProof.Rows L2 Pv
def sm_codes_of : Sm := (.seq (.ret (.lc (.nm 2) [2] (.var 0) .nil (.bi .sum (.cons (.lc (.nm 3) [3] (.var 2) .nil (.bin .LShift (.int 1) (.bin .Mult (.var 1) (.var 3)))) .nil)))) .nil)
def Phi_codes_of : Phi := { fns := [] }
def F_codes_of : Fn := mkF 4 2 (semS Phi_codes_of sm_codes_of)
def sm_union_of : Sm := (.seq (.asg (.nm 2) (.int 0)) (.seq (.fo (.nm 3) (.var 1) (.seq (.asg (.nm 2) (.bin .BitOr (.var 2) (.idx (.var 0) (.var 3)))) .nil)) (.seq (.ret (.var 2)) .nil)))
def Phi_union_of : Phi := { fns := [] }
def F_union_of : Fn := mkF 4 2 (semS Phi_union_of sm_union_of)
def sm_sum_of : Sm := (.seq (.ret (.bi .sum (.cons (.lc (.nm 2) [2] (.var 1) .nil (.idx (.var 0) (.var 2))) .nil))) .nil)
def Phi_sum_of : Phi := { fns := [] }
def F_sum_of : Fn := mkF 3 2 (semS Phi_sum_of sm_sum_of)
def sm_splits_of : Sm := (.seq (.new 1 .nil) (.seq (.fo (.nm 2) (.rng1 (.cons (.bin .Sub (.bi .len (.cons (.var 0) .nil)) (.int 1)) .nil)) (.seq (.fo (.nm 3) (.combE (.cons (.slc (.var 0) (.int 1) .nil) (.cons (.bi .int (.cons (.var 2) .nil)) .nil))) (.seq (.asg (.nm 4) (.tupS (.cons (.idx (.var 0) (.int 0)) (.star (.var 3) .nil)))) (.seq (.app 1 (.tup (.cons (.var 4) (.cons (.bi .tuple (.cons (.lc (.nm 5) [5] (.var 0) (.cmp .NotIn (.var 5) (.var 4)) (.var 5)) .nil)) .nil)))) .nil))) .nil)) (.frz 1 (.seq (.ret (.var 1)) .nil))))
def Phi_splits_of : Phi := { fns := [] }
def F_splits_of : Fn := mkF 6 1 (semS Phi_splits_of sm_splits_of)
def sm_first_split : Sm := (.seq (.fo (.nm 2) (.rng2 (.cons (.int 2) (.cons (.bin .Add (.bi .len (.cons (.var 0) .nil)) (.int 1)) .nil))) (.seq (.new 3 .nil) (.seq (.fo (.nm 4) (.combE (.cons (.lrng (.bi .len (.cons (.var 0) .nil))) (.cons (.bi .int (.cons (.var 2) .nil)) .nil))) (.seq (.ext 3 (.lc (.nm 5) [5] (.call 0 (.cons (.var 4) .nil)) (.cmp .Eq (.callv 1 (.cons (.var 0) (.cons (.idx (.var 5) (.int 0)) .nil))) (.callv 1 (.cons (.var 0) (.cons (.idx (.var 5) (.int 1)) .nil)))) (.var 5))) .nil)) (.frz 3 (.seq (.ite (.cmp .NotEq (.var 3) (.lst .nil)) (.seq (.ret (.bi .minT (.cons (.var 3) .nil))) .nil) .nil) .nil))))) (.seq (.ret .non) .nil))
def Phi_first_split : Phi := { fns := [(1, F_splits_of)], named := fun y => if y = ("union_of" : Str) then some (2, F_union_of) else none }
def F_first_split : Fn := mkF 6 2 (semS Phi_first_split sm_first_split)
def sm_first_even_split : Sm := (.seq (.fo (.nm 1) (.rng2 (.cons (.int 2) (.cons (.bin .Add (.bi .len (.cons (.var 0) .nil)) (.int 1)) .nil))) (.seq (.new 2 .nil) (.seq (.fo (.nm 3) (.combE (.cons (.lrng (.bi .len (.cons (.var 0) .nil))) (.cons (.bi .int (.cons (.var 1) .nil)) .nil))) (.seq (.asg (.nm 4) (.call 1 (.cons (.var 0) (.cons (.var 3) .nil)))) (.seq (.ext 2 (.lc (.nm 5) [5] (.call 0 (.cons (.var 3) .nil)) (.cmp .Eq (.bin .Mult (.int 2) (.call 1 (.cons (.var 0) (.cons (.idx (.var 5) (.int 0)) .nil)))) (.var 4)) (.var 5))) .nil))) (.frz 2 (.seq (.ite (.cmp .NotEq (.var 2) (.lst .nil)) (.seq (.ret (.bi .minT (.cons (.var 2) .nil))) .nil) .nil) .nil))))) (.seq (.ret .non) .nil))
def Phi_first_even_split : Phi := { fns := [(1, F_splits_of), (2, F_sum_of)] }
def F_first_even_split : Fn := mkF 6 1 (semS Phi_first_even_split sm_first_even_split)
def sm_twins_by : Sm := (.seq (.ret (.call 0 (.cons (.call 1 (.cons (.var 0) (.cons (.int 1) .nil))) (.cons (.fnv "union_of") .nil)))) .nil)
def Phi_twins_by : Phi := { fns := [(2, F_first_split), (2, F_codes_of)] }
def F_twins_by : Fn := mkF 1 1 (semS Phi_twins_by sm_twins_by)
def sm_doubles_by : Sm := (.seq (.ret (.call 0 (.cons (.call 1 (.cons (.var 0) (.cons (.int 4) .nil))) .nil))) .nil)
def Phi_doubles_by : Phi := { fns := [(1, F_first_even_split), (2, F_codes_of)] }
def F_doubles_by : Fn := mkF 1 1 (semS Phi_doubles_by sm_doubles_by)
def sm_have_twins : Sm := (.seq (.ret (.or (.cmp .Gt (.bi .len (.cons (.lc (.nm 2) [2] (.var 1) (.cmp .NotEq (.var 2) (.tup .nil)) (.var 2)) .nil)) (.var 0)) (.cmp .IsNot (.call 0 (.cons (.var 1) .nil)) .non))) .nil)
def Phi_have_twins : Phi := { fns := [(1, F_twins_by)] }
def F_have_twins : Fn := mkF 3 2 (semS Phi_have_twins sm_have_twins)
def sm_check_paired : Sm := (.seq (.drop (.call 0 (.cons (.var 0) (.cons (.var 1) .nil)))) (.seq (.ite (.cmp .Gt (.bi .len (.cons (.var 1) .nil)) (.glo "MOST_PAIRED" (.int 12))) (.seq .any .nil) .nil) .nil))
def Phi_check_paired (TB : TBs) : Phi := { fns := [(2, (F_check_book TB))] }
def F_check_paired (TB : TBs) : Fn := mkF 2 2 (semS (Phi_check_paired TB) sm_check_paired)
def sm_has_twins : Sm := (.seq (.drop (.call 1 (.cons (.var 0) (.cons (.var 1) .nil)))) (.seq (.ret (.call 0 (.cons (.var 0) (.cons (.var 1) .nil)))) .nil))
def Phi_has_twins (TB : TBs) : Phi := { fns := [(2, F_have_twins), (2, (F_check_paired TB))] }
def F_has_twins (TB : TBs) : Fn := mkF 2 2 (semS (Phi_has_twins TB) sm_has_twins)
def sm_first_twins : Sm := (.seq (.drop (.call 1 (.cons (.var 0) (.cons (.var 1) .nil)))) (.seq (.ret (.call 0 (.cons (.var 1) .nil))) .nil))
def Phi_first_twins (TB : TBs) : Phi := { fns := [(1, F_twins_by), (2, (F_check_paired TB))] }
def F_first_twins (TB : TBs) : Fn := mkF 2 2 (semS (Phi_first_twins TB) sm_first_twins)
def sm_has_doubles : Sm := (.seq (.drop (.call 1 (.cons (.var 0) (.cons (.var 1) .nil)))) (.seq (.ret (.cmp .IsNot (.call 0 (.cons (.var 1) .nil)) .non)) .nil))
def Phi_has_doubles (TB : TBs) : Phi := { fns := [(1, F_doubles_by), (2, (F_check_paired TB))] }
def F_has_doubles (TB : TBs) : Fn := mkF 2 2 (semS (Phi_has_doubles TB) sm_has_doubles)
def sm_first_doubles : Sm := (.seq (.drop (.call 1 (.cons (.var 0) (.cons (.var 1) .nil)))) (.seq (.ret (.call 0 (.cons (.var 1) .nil))) .nil))
def Phi_first_doubles (TB : TBs) : Phi := { fns := [(1, F_doubles_by), (2, (F_check_paired TB))] }
def F_first_doubles (TB : TBs) : Fn := mkF 2 2 (semS (Phi_first_doubles TB) sm_first_doubles)
def sm__law_some_of : Sm := (.seq (.asg (.nm 1) (.lst (.cons (.tup .nil) .nil))) (.seq (.fo (.nm 2) (.rng1 (.cons (.var 0) .nil)) (.seq (.asg (.nm 1) (.bin .Add (.var 1) (.lc (.nm 3) [3] (.var 1) .nil (.bin .Add (.var 3) (.tup (.cons (.var 2) .nil)))))) .nil)) (.seq (.ret (.srt (.l .i) (.cons (.var 1) .nil))) .nil)))
def Phi__law_some_of : Phi := { fns := [] }
def F__law_some_of : Fn := mkF 4 1 (semS Phi__law_some_of sm__law_some_of)
def sm__law_twins : Sm := (.seq (.asg (.nm 2) .non) (.seq (.fo (.nm 3) (.slc (.call 0 (.cons (.bi .len (.cons (.var 0) .nil)) .nil)) (.int 1) .nil) (.seq (.fo (.nm 4) (.slc (.call 0 (.cons (.bi .len (.cons (.var 0) .nil)) .nil)) (.int 1) .nil) (.seq (.ite (.and (.cmp .Lt (.idx (.var 3) (.int 0)) (.idx (.var 4) (.int 0))) (.not (.bi .any (.cons (.lc (.nm 8) [8] (.var 3) .nil (.cmp .In (.var 8) (.var 4))) .nil)))) (.seq (.new 5 .nil) (.seq (.fo (.nm 6) (.tup (.cons (.var 3) (.cons (.var 4) .nil))) (.seq (.asg (.nm 7) (.lst .nil)) (.seq (.fo (.nm 8) (.var 6) (.seq (.asg (.nm 7) (.bin .Add (.var 7) (.bi .list (.cons (.idx (.var 0) (.var 8)) .nil)))) .nil)) (.seq (.app 5 (.ite (.var 1) (.srt .i (.cons (.var 7) .nil)) (.srtSetI (.cons (.var 7) .nil)))) .nil)))) (.frz 5 (.seq (.ite (.cmp .Eq (.idx (.var 5) (.int 0)) (.idx (.var 5) (.int 1))) (.seq (.asg (.nm 9) (.tup (.cons (.bin .Add (.bi .len (.cons (.var 3) .nil)) (.bi .len (.cons (.var 4) .nil))) (.cons (.var 3) (.cons (.var 4) .nil))))) (.seq (.asg (.nm 2) (.ite (.or (.cmp .Is (.var 2) .non) (.cmp .Lt (.var 9) (.var 2))) (.var 9) (.var 2))) .nil)) .nil) .nil)))) .nil) .nil)) .nil)) (.seq (.ret (.ite (.cmp .IsNot (.var 2) .non) (.slc (.var 2) (.int 1) .nil) .non)) .nil)))
def Phi__law_twins : Phi := { fns := [(1, F__law_some_of)] }
def F__law_twins : Fn := mkF 10 2 (semS Phi__law_twins sm__law_twins)
def sm__law_right_k90 : Sm := (.seq (.asg (.nm 1) (.bin .Add (.int 1) (.call 6 (.cons (.var 0) (.cons (.int 4) .nil))))) (.seq (.asg (.nm 2) (.call 5 (.cons (.var 0) (.cons (.var 1) (.cons (.int 6) .nil))))) (.seq (.mpar [3, 4] [(false, (.call 4 (.cons (.var 2) (.cons (.bl false) .nil)))), (false, (.call 4 (.cons (.var 2) (.cons (.bl true) .nil))))]) (.seq (.ite (.rep true (.lst (.cons (.call 3 (.cons (.var 1) (.cons (.var 2) .nil))) (.cons (.callK 3 0 2 [1, 0] .nil (.cons (.var 2) (.cons (.var 1) .nil))) .nil))) (.lst (.cons (.var 3) (.cons (.var 3) .nil)))) (.seq (.ret (.bl false)) .nil) .nil) (.seq (.ite (.rep true (.lst (.cons (.call 2 (.cons (.var 1) (.cons (.var 2) .nil))) (.cons (.callK 2 0 2 [1, 0] .nil (.cons (.var 2) (.cons (.var 1) .nil))) .nil))) (.lst (.cons (.var 4) (.cons (.var 4) .nil)))) (.seq (.ret (.bl false)) .nil) .nil) (.seq (.ite (.rep true (.lst (.cons (.call 1 (.cons (.var 1) (.cons (.var 2) .nil))) (.cons (.call 0 (.cons (.var 1) (.cons (.var 2) .nil))) .nil))) (.lst (.cons (.cmp .IsNot (.var 3) .non) (.cons (.cmp .IsNot (.var 4) .non) .nil)))) (.seq (.ret (.bl false)) .nil) .nil) (.seq (.ite (.and (.cmp .IsNot (.var 4) .non) (.cmp .Is (.var 3) .non)) (.seq (.ret (.bl false)) .nil) .nil) (.seq (.ret (.or (.cmp .LtE (.bi .len (.cons (.var 2) .nil)) (.var 1)) (.or (.cmp .In (.tup .nil) (.var 2)) (.cmp .IsNot (.var 3) .non)))) .nil))))))))
def Phi__law_right_k90 (TB : TBs) : Phi := { fns := [(2, (F_has_doubles TB)), (2, (F_has_twins TB)), (2, (F_first_doubles TB)), (2, (F_first_twins TB)), (2, F__law_twins), (3, F__law_book), (2, F__law_take)] }
def F__law_right_k90 (TB : TBs) : Fn := mkF 5 1 (semS (Phi__law_right_k90 TB) sm__law_right_k90)
def sm_law_k90 : Sm := (.seq (.fo (.nm 1) (.rng1 (.cons (.bi .max (.cons (.int 2) (.cons (.bi .min (.cons (.bi .len (.cons (.var 0) .nil)) (.cons (.int 3) .nil))) .nil))) .nil)) (.seq (.asg (.nm 2) (.call 1 (.cons (.var 0) (.cons (.var 1) .nil)))) (.seq (.ite (.not (.bi .all (.cons (.lc (.nm 3) [3] (.rng1 (.cons (.int 6) .nil)) .nil (.call 0 (.cons (.var 2) .nil))) .nil))) (.seq (.ret (.bl false)) .nil) .nil) .nil))) (.seq (.ret (.bl true)) .nil))
def Phi_law_k90 (TB : TBs) : Phi := { fns := [(1, (F__law_right_k90 TB)), (2, F__law_bag)] }
def F_law_k90 (TB : TBs) : Fn := mkF 4 1 (semS (Phi_law_k90 TB) sm_law_k90)
end Pt
set_option maxRecDepth 100000
set_option maxHeartbeats 2000000
/-! Nb: k90's search -/
namespace Pt
open PySem PySem.Spec Pv PyProof.Rows
section
variable {δ : List Bx}
def code (w : Int) (l : Lot) : Int := (l.map fun t => (2 : Int) ^ (w * t).toNat).sum
theorem atI_get {α : Type} {xs : List α} {k : Int} (h0 : 0 ≤ k) (h1 : k < xs.length) : L2.atI xs k = xs[k.toNat]? := by
  unfold L2.atI L2.ixN
  rw [if_pos h0, if_pos h1]
  rfl
theorem atI_ints {cs : List Int} {k : Int} (h0 : 0 ≤ k) (h1 : k < cs.length) : L2.atI (cs.map D.int) k = some (.int (cs.getD k.toNat 0)) := by
  rw [atI_get h0 (by simpa using h1), List.getElem?_map, List.getD_eq_getElem?_getD, List.getElem?_eq_getElem (show k.toNat < cs.length by omega)]
  rfl
theorem filterMap_some' {α β : Type} (f : α → β) (xs : List α) : xs.filterMap (fun x => some (f x)) = xs.map f := by
  induction xs with
  | nil => rfl
  | cons x xs ih => simp [ih]
theorem f_codes_of {n : Int} (hn : n ≤ 6) {b : List Lot} (hb : ∀ l ∈ b, LotOk n l) {w : Int} (hw : w = 1 ∨ w = 4) : F_codes_of [bkD b, .int w] δ = .ok (.lst ((b.map (code w)).map .int)) δ := by
  simp [F_codes_of, sm_codes_of, Phi_codes_of]
  rw [cloopM_eq (h := fun l => some (D.int (code w l)))]
  · rw [filterMap_some']; simp [Function.comp_def]
  · intro l hl δ
    rw [cloopM_eq (h := fun t => some (D.int ((2 : Int) ^ (w * t).toNat)))]
    · rw [filterMap_some']; simp [code]
    · intro t ht δ
      have := (hb l hl).2 t ht
      have hs : small64 w = true := by rcases hw with rfl | rfl <;> rfl
      have e : dShl (.int 1) (.int (w * t)) = some (.int ((2 : Int) ^ (w * t).toNat)) := by
        have h1 : 0 ≤ w * t ∧ w * t ≤ 1000000 := by rcases hw with rfl | rfl <;> omega
        simp [dShl, h1]
      simp [hs, e]
theorem f_union_of {cs : List Int} {one : Lot} (h : ∀ k ∈ one, 0 ≤ k ∧ k < cs.length) : F_union_of [.lst (cs.map .int), lotI one] δ = .ok (.int (one.foldl (fun f k => Builtin.bitOr f (cs.getD k.toNat 0)) 0)) δ := by
  simp only [F_union_of, sm_union_of, Phi_union_of]
  simp [-List.getD_eq_getElem?_getD]
  refine loop_bind (f := D.int) (fun s : Int × Sl => [.v (.lst (cs.map .int)), .v (lotI one), .v (.int s.1), s.2]) (fun s k => (Builtin.bitOr s.1 (cs.getD k.toNat 0), .v (.int k))) (fun _ _ => True) one.length one (0, .no) rfl rfl (Nat.le_refl _) ?_ trivial ?_
  · intro k hk i s _ _
    refine ⟨_, rfl, ?_, trivial⟩
    simp [atI_ints (h k hk).1 (h k hk).2, dOr, -List.getD_eq_getElem?_getD]
  · intro _
    have key : ∀ (one : Lot) (s : Int × Sl), (one.foldl (fun s k => ((Builtin.bitOr s.1 (cs.getD k.toNat 0), Sl.v (D.int k)) : Int × Sl)) s).1 = one.foldl (fun f k => Builtin.bitOr f (cs.getD k.toNat 0)) s.1 := by
      intro one
      induction one with
      | nil => intro s; rfl
      | cons l b ih => intro s; rw [List.foldl_cons, List.foldl_cons, ih]
    have k2 := key one (0, .no)
    simp only [] at k2
    rw [← k2]
    simp
theorem f_sum_of {cs : List Int} {one : Lot} (h : ∀ k ∈ one, 0 ≤ k ∧ k < cs.length) : F_sum_of [.lst (cs.map .int), lotI one] δ = .ok (.int ((one.map fun k => cs.getD k.toNat 0).sum)) δ := by
  simp only [F_sum_of, sm_sum_of, Phi_sum_of]
  simp [-List.getD_eq_getElem?_getD]
  rw [cloopM_eq (h := fun k => some (D.int (cs.getD k.toNat 0)))]
  · rw [filterMap_some']; simp
  · intro k hk δ
    simp [atI_ints (h k hk).1 (h k hk).2, -List.getD_eq_getElem?_getD]
theorem splits_all (δ : List Bx) : (lots 6).map (fun s => F_splits_of [lotI s] δ) = (lots 6).map fun s => Res.ok (.lst ((splits s).map prD)) δ := by kernel_rfl
theorem f_splits_of {s : Lot} (h : s ∈ lots 6) : F_splits_of [lotI s] δ = .ok (.lst ((splits s).map prD)) δ := List.map_inj_left.mp (splits_all δ) s h
/-! ### the search -/
def sz (m : Nat) : List Nat := (List.range (m - 1)).map (· + 2)
theorem rng2_sz {m : Nat} (hm : m ≤ 6) : rng2 [.int 2, .int ((m : Int) + 1)] = some ((sz m).map fun z : Nat => D.int z) := by
  rcases (by omega : m = 0 ∨ m = 1 ∨ m = 2 ∨ m = 3 ∨ m = 4 ∨ m = 5 ∨ m = 6) with rfl | rfl | rfl | rfl | rfl | rfl | rfl <;> rfl
theorem mem_sz {m z : Nat} : z ∈ sz m ↔ 2 ≤ z ∧ z ≤ m := by
  simp only [sz, List.mem_map, List.mem_range]
  constructor
  · rintro ⟨a, h, rfl⟩; omega
  · intro h; exact ⟨z - 2, by omega, by omega⟩
theorem comb_all : (List.range 7).map (fun m => (List.range 7).map fun z => combG [.lst ((rg (m : Nat)).map .int), .int (z : Nat)]) = (List.range 7).map fun m => (List.range 7).map fun z => some ((combs z (rg (m : Nat))).map lotI) := by kernel_rfl
theorem combG_rg {m z : Nat} (hm : m ≤ 6) (hz : z ≤ 6) : combG [.lst ((rg (m : Nat)).map .int), .int (z : Nat)] = some ((combs z (rg (m : Nat))).map lotI) := by
  have h := List.map_inj_left.mp comb_all m (by simp; omega)
  exact List.map_inj_left.mp h z (by simp; omega)
theorem combs_lots : ∀ m ∈ List.range 7, ∀ z ∈ List.range 7, ((combs z (rg (m : Nat))).all fun s => (lots 6).contains s) = true := by decide +kernel
theorem combs_in {m z : Nat} (hm : m ≤ 6) (hz : z ≤ 6) {s : Lot} (h : s ∈ combs z (rg (m : Nat))) : s ∈ lots 6 := by
  have := combs_lots m (by simp; omega) z (by simp; omega)
  rw [List.all_eq_true] at this
  simpa using this s h
theorem combs_len {m z : Nat} (hm : m ≤ 6) (hz : z ≤ 6) : (combs z (rg (m : Nat))).length ≤ 20 := by
  have : ∀ m ∈ List.range 7, ∀ z ∈ List.range 7, (combs z (rg (m : Nat))).length ≤ 20 := by decide +kernel
  exact this m (by simp; omega) z (by simp; omega)
theorem splits_len {s : Lot} (h : s ∈ lots 6) : (splits s).length ≤ 64 := by
  have : ((lots 6).all fun s => decide ((splits s).length ≤ 64)) = true := by decide +kernel
  rw [List.all_eq_true] at this
  simpa using this s h
/-- what a search gives -/
def srch (E : Pr → Bool) (m : Nat) : Option Pr := (sz m).findSome? fun z => match (allP m z).filter E with
  | [] => none
  | p :: L => some (minP p L)
theorem srch_least {m : Nat} (hm : m ≤ 6) (E : Pr → Bool) : IsL (fun p => Pok m p ∧ E p = true) (srch E m) := by
  have mem : ∀ z, z ≤ 6 → ∀ p, p ∈ (allP m z).filter E ↔ (Pok m p ∧ kL p = z) ∧ E p = true := fun z hz p => by rw [List.mem_filter, mem_allP hm hz]
  have key : ∀ zs : List Nat, zs.Pairwise (· < ·) → (∀ z ∈ zs, z ≤ 6) → IsL (fun p => (Pok m p ∧ E p = true) ∧ kL p ∈ zs) (zs.findSome? fun z => match (allP m z).filter E with
      | [] => none
      | p :: L => some (minP p L)) := by
    intro zs
    induction zs with
    | nil => intro _ _ p hp; cases hp.2
    | cons z zs ih =>
      intro hpw hz
      obtain ⟨hp1, hp2⟩ := List.pairwise_cons.mp hpw
      have hz6 := hz z (List.mem_cons_self ..)
      rw [List.findSome?_cons]
      cases hL : (allP m z).filter E with
      | nil =>
        refine IsL.congr (fun p => ?_) (ih hp2 fun y hy => hz y (List.mem_cons_of_mem _ hy))
        constructor
        · rintro ⟨a, b⟩; exact ⟨a, List.mem_cons_of_mem _ b⟩
        · rintro ⟨a, b⟩
          refine ⟨a, ?_⟩
          rcases List.mem_cons.mp b with b | b
          · have := (mem z hz6 p).mpr ⟨⟨a.1, b⟩, a.2⟩
            rw [hL] at this
            cases this
          · exact b
      | cons p0 L =>
        have hmem := minP_mem L p0
        have hle := minP_least L p0
        rw [← hL] at hmem
        have hq := (mem z hz6 _).mp hmem
        refine ⟨⟨⟨hq.1.1, hq.2⟩, by rw [hq.1.2]; exact List.mem_cons_self ..⟩, fun q ⟨⟨q1, q2⟩, q3⟩ hk => ?_⟩
        have hk2 : kL q ≤ kL (minP p0 L) := by rcases hk with h | h <;> omega
        rw [hq.1.2] at hk2
        rcases List.mem_cons.mp q3 with e | q3
        · have hin := (mem z hz6 q).mpr ⟨⟨q1, e⟩, q2⟩
          rw [hL] at hin
          rcases hk with h | h
          · rw [hq.1.2, e] at h; omega
          · rcases List.mem_cons.mp hin with e2 | e2
            · subst e2; exact hle.1 h.2
            · exact hle.2 q e2 h.2
        · have := hp1 _ q3; omega
  refine IsL.congr (fun p => ?_) (key (sz m) ?_ fun z hz => ?_)
  · constructor
    · exact fun h => h.1
    · exact fun h => ⟨h, mem_sz.mpr (pok_size hm h.1)⟩
  · rcases (by omega : m = 0 ∨ m = 1 ∨ m = 2 ∨ m = 3 ∨ m = 4 ∨ m = 5 ∨ m = 6) with rfl | rfl | rfl | rfl | rfl | rfl | rfl <;> decide
  · have := mem_sz.mp hz; omega
/-- a loop that gives back what it first finds -/
theorem floop_find {α : Type} {p : Pat} {body : RS} {f : α → D} {δ : List Bx} (I : List Sl → Prop) (g : α → Option D) : ∀ {xs : List α} {ρ : List Sl}, I ρ →
    (∀ x ∈ xs, ∀ ρ, I ρ → ∃ ρ2, bindP p (f x) ρ = some ρ2 ∧ ∃ ρ', match g x with
      | none => body ρ2 δ = .ok (.nx, ρ') δ ∧ I ρ'
      | some d => body ρ2 δ = .ok (.rt d, ρ') δ) →
    ∃ ρ', match xs.findSome? g with
      | none => floop p body (xs.map f) ρ δ = .ok (.nx, ρ') δ ∧ I ρ'
      | some d => floop p body (xs.map f) ρ δ = .ok (.rt d, ρ') δ
  | [], ρ, h0, _ => ⟨ρ, rfl, h0⟩
  | x :: xs, ρ, h0, h => by
    obtain ⟨ρ2, e1, ρ', h1⟩ := h x (List.mem_cons_self ..) ρ h0
    rw [List.findSome?_cons]
    cases hg : g x with
    | none =>
      rw [hg] at h1
      obtain ⟨e2, h2⟩ := h1
      obtain ⟨ρ3, h3⟩ := floop_find (f := f) I g (xs := xs) h2 fun y hy => h y (List.mem_cons_of_mem _ hy)
      refine ⟨ρ3, ?_⟩
      simp only [List.map_cons, floop, e1, e2, Res.bind_ok]
      exact h3
    | some d =>
      rw [hg] at h1
      refine ⟨ρ', ?_⟩
      simp only [List.map_cons, floop, e1, h1, Res.bind_ok]
end
end Pt
set_option maxRecDepth 100000
set_option maxHeartbeats 4000000
/-! Nc: k90's search, the defs -/
namespace Pt
open PySem PySem.Spec Pv PyProof.Rows
section
variable {δ : List Bx}
def unionOf (cs : List Int) (one : Lot) : Int := one.foldl (fun f k => Builtin.bitOr f (cs.getD k.toNat 0)) 0
def sumOf (cs : List Int) (one : Lot) : Int := (one.map fun k => cs.getD k.toNat 0).sum
def optD : Option Pr → D
  | none => .non
  | some p => prD p
theorem callV_fn {Φ : Phi} {ρ : List Sl} {i : Nat} {f : RX (List D)} {x : Str} {np : Nat} {F : Fn} (h : ρ[i]? = some (.v (.fn x))) (e : Φ.named x = some (np, F)) : callV Φ i f ρ δ = callO F np f ρ δ := by
  unfold callV
  rw [h]
  show (match Φ.named x with | some (np, F) => callO F np f ρ δ | none => .no) = _
  rw [e]
def Et (cs : List Int) (p : Pr) : Bool := decide (unionOf cs p.1 = unionOf cs p.2)
def gF (E : Pr → Bool) (m z : Nat) : Option D := match (allP m z).filter E with
  | [] => none
  | p :: L => some (prD (minP p L))
def smFS : Sm := (.seq (.new 3 .nil) (.seq (.fo (.nm 4) (.combE (.cons (.lrng (.bi .len (.cons (.var 0) .nil))) (.cons (.bi .int (.cons (.var 2) .nil)) .nil))) (.seq (.ext 3 (.lc (.nm 5) [5] (.call 0 (.cons (.var 4) .nil)) (.cmp .Eq (.callv 1 (.cons (.var 0) (.cons (.idx (.var 5) (.int 0)) .nil))) (.callv 1 (.cons (.var 0) (.cons (.idx (.var 5) (.int 1)) .nil)))) (.var 5))) .nil)) (.frz 3 (.seq (.ite (.cmp .NotEq (.var 3) (.lst .nil)) (.seq (.ret (.bi .minT (.cons (.var 3) .nil))) .nil) .nil) .nil))))
@[simp] theorem idxK_pr0 (p : Pr) : idxK (prD p) (.int 0) δ = .ok (lotI p.1) δ := by simp [prD]
@[simp] theorem idxK_pr1 (p : Pr) : idxK (prD p) (.int 1) δ = .ok (lotI p.2) δ := by simp [prD]
@[simp] theorem bare_fs : Phi_first_split.bare = Phi_first_split := rfl
theorem eqL_cn (x : D) (xs : List D) : eqL (x :: xs) [] = false := rfl
theorem callP_fs (f : RX (List D)) : callP Phi_first_split 0 f = callO F_splits_of 1 f := rfl
theorem filterMap_bI {α : Type} (E : α → Bool) (f : α → D) (xs : List α) : xs.filterMap (fun x => bI (E x) (some (f x)) none) = (xs.filter E).map f := by
  induction xs with
  | nil => rfl
  | cons x xs ih => cases h : E x <;> simp [h, ih]
theorem fold_flat {α β : Type} (g : α → List β) (q : α → Sl) : ∀ (xs : List α) (a : List β) (s : Sl), (xs.foldl (fun (st : List β × Sl) x => (st.1 ++ g x, q x)) (a, s)).1 = a ++ xs.flatMap g
  | [], a, s => by simp
  | x :: xs, a, s => by rw [List.foldl_cons, fold_flat g q xs]; simp
theorem filter_flat {α β : Type} (E : β → Bool) (g : α → List β) (xs : List α) : (xs.flatMap g).filter E = xs.flatMap fun x => (g x).filter E := by
  rw [List.filter_flatMap]
theorem named_fs : Phi_first_split.named "union_of" = some (2, F_union_of) := by
  show (if ("union_of" : Str) = ("union_of" : Str) then some (2, F_union_of) else none) = _
  rw [if_pos rfl]
theorem allP_len {m z : Nat} (hm : m ≤ 6) (hz : z ≤ 6) : (allP m z).length ≤ 2000 := by
  have : ∀ m ∈ List.range 7, ∀ z ∈ List.range 7, (allP (m : Nat) z).length ≤ 2000 := by decide +kernel
  exact this m (by simp; omega) z (by simp; omega)
theorem combs_rg {m z : Nat} (hm : m ≤ 6) (hz : z ≤ 6) {s : Lot} (h : s ∈ combs z (rg (m : Nat))) : ∀ k ∈ s, 0 ≤ k ∧ k < (m : Int) := by
  have : ∀ m ∈ List.range 7, ∀ z ∈ List.range 7, ((combs z (rg (m : Nat))).all fun s => s.all fun k => decide (0 ≤ k) && decide (k < (m : Int))) = true := by decide +kernel
  have := this m (by simp; omega) z (by simp; omega)
  rw [List.all_eq_true] at this
  have := this s h
  rw [List.all_eq_true] at this
  intro k hk
  simpa using this k hk
theorem fs_inner {cs : List Int} {m : Nat} (hm : m ≤ 6) (hl : cs.length = m) {z : Nat} (hz : z ≤ 6) (s4 s5 : Sl) :
    ∃ s4', floop (.nm 4) (semS Phi_first_split (.seq (.ext 3 (.lc (.nm 5) [5] (.call 0 (.cons (.var 4) .nil)) (.cmp .Eq (.callv 1 (.cons (.var 0) (.cons (.idx (.var 5) (.int 0)) .nil))) (.callv 1 (.cons (.var 0) (.cons (.idx (.var 5) (.int 1)) .nil)))) (.var 5))) .nil)) ((combs z (rg (m : Nat))).map lotI)
      [.v (.lst (cs.map .int)), .v (.fn "union_of"), .v (.int (z : Nat)), .own [], s4, s5] δ = .ok (.nx, [.v (.lst (cs.map .int)), .v (.fn "union_of"), .v (.int (z : Nat)), .own (((allP m z).filter (Et cs)).map prD), s4', s5]) δ := by
  have hb := floop_foldP (p := .nm 4) (body := semS Phi_first_split (.seq (.ext 3 (.lc (.nm 5) [5] (.call 0 (.cons (.var 4) .nil)) (.cmp .Eq (.callv 1 (.cons (.var 0) (.cons (.idx (.var 5) (.int 0)) .nil))) (.callv 1 (.cons (.var 0) (.cons (.idx (.var 5) (.int 1)) .nil)))) (.var 5))) .nil)) (f := lotI)
    (fun s : List Pr × Sl => [.v (.lst (cs.map .int)), .v (.fn "union_of"), .v (.int (z : Nat)), .own (s.1.map prD), s.2, s5]) (fun s l => (s.1 ++ (splits l).filter (Et cs), .v (lotI l))) (fun k s => s.1.length ≤ 64 * k) 20 (xs := combs z (rg (m : Nat))) (k := 0) (s := ([], s4)) (δ := δ) (by have := combs_len hm hz; omega) ?_ (by simp)
  · obtain ⟨e, -⟩ := hb
    refine ⟨((combs z (rg (m : Nat))).foldl (fun (s : List Pr × Sl) l => (s.1 ++ (splits l).filter (Et cs), .v (lotI l))) ([], s4)).2, ?_⟩
    rw [show ([.v (.lst (cs.map .int)), .v (.fn "union_of"), .v (.int (z : Nat)), .own [], s4, s5] : List Sl) = [.v (.lst (cs.map .int)), .v (.fn "union_of"), .v (.int (z : Nat)), .own (([] : List Pr).map prD), s4, s5] from rfl, e]
    rw [fold_flat (fun l => (splits l).filter (Et cs)) (fun l => .v (lotI l)), List.nil_append, ← filter_flat]
    rfl
  · rintro l hl2 k s hk hp
    have hsl := combs_in hm hz hl2
    have hlen := splits_len hsl
    have hfl : ((splits l).filter (Et cs)).length ≤ 64 := Nat.le_trans (List.length_filter_le _ _) hlen
    refine ⟨_, rfl, ?_, by simp only [List.length_append]; omega⟩
    have hin : ∀ p ∈ splits l, (∀ k ∈ p.1, 0 ≤ k ∧ k < (cs.length : Nat)) ∧ (∀ k ∈ p.2, 0 ≤ k ∧ k < (cs.length : Nat)) := fun p hp => by
      have := ((mem_allP hm hz).mp (List.mem_flatMap.mpr ⟨l, hl2, hp⟩)).1
      rw [hl]
      exact ⟨this.1.2, this.2.1.2⟩
    have cpn : s.1.length + ((splits l).filter (Et cs)).length ≤ cap := by unfold cap; omega
    simp [r_ext, ownAt, f_splits_of hsl, callP_fs, -List.map_append]
    rw [cloopM_eq (h := fun p => bI (Et cs p) (some (prD p)) none), filterMap_bI]
    · simp [cpn]
    · intro p hp δ
      obtain ⟨h1, h2⟩ := hin p hp
      have c1 : ∀ (f : RX (List D)) (ρ : List Sl), ρ[1]? = some (.v (.fn "union_of")) → callV Phi_first_split 1 f ρ δ = callO F_union_of 2 f ρ δ := fun f ρ h => callV_fn h named_fs
      have u1 : F_union_of [.lst (cs.map .int), lotI p.1] δ = .ok (.int (unionOf cs p.1)) δ := f_union_of (δ := δ) (cs := cs) h1
      have u2 : F_union_of [.lst (cs.map .int), lotI p.2] δ = .ok (.int (unionOf cs p.2)) δ := f_union_of (δ := δ) (cs := cs) h2
      simp [c1, u1, u2, Et]
theorem fs_turn {cs : List Int} {m : Nat} (hm : m ≤ 6) (hl : cs.length = m) (z : Nat) (hz : z ∈ sz m) (ρ : List Sl) (hI : ∃ s2 s3 s4 s5, ρ = [.v (.lst (cs.map .int)), .v (.fn "union_of"), s2, s3, s4, s5]) :
    ∃ ρ2, bindP (.nm 2) (.int (z : Nat)) ρ = some ρ2 ∧ ∃ ρ', match gF (Et cs) m z with
      | none => semS Phi_first_split smFS ρ2 δ = .ok (.nx, ρ') δ ∧ ∃ s2 s3 s4 s5, ρ' = [.v (.lst (cs.map .int)), .v (.fn "union_of"), s2, s3, s4, s5]
      | some d => semS Phi_first_split smFS ρ2 δ = .ok (.rt d, ρ') δ := by
  obtain ⟨s2, s3, s4, s5, rfl⟩ := hI
  have hz2 := mem_sz.mp hz
  refine ⟨_, rfl, ?_⟩
  obtain ⟨s4', e⟩ := fs_inner (δ := δ) hm hl (show z ≤ 6 by omega) s4 s5
  have cp2 : 0 ≤ cap := Nat.zero_le _
  simp [callP_fs] at e
  cases hL : (allP m z).filter (Et cs) with
  | nil =>
    have hg : gF (Et cs) m z = none := by unfold gF; rw [hL]
    rw [hL] at e
    rw [hg]
    refine ⟨[.v (.lst (cs.map .int)), .v (.fn "union_of"), .v (.int (z : Nat)), .v (.lst []), s4', s5], ?_, ⟨_, _, _, _, rfl⟩⟩
    · simp [smFS, hl, dLrng_of (n := (m : Int)) (by omega), combG_rg hm (show z ≤ 6 by omega), callP_fs]
      rw [e]
      simp [r_frz, ownAt]
  | cons p L =>
    have hg : gF (Et cs) m z = some (prD (minP p L)) := by unfold gF; rw [hL]
    rw [hL] at e
    rw [hg]
    refine ⟨[.v (.lst (cs.map .int)), .v (.fn "union_of"), .v (.int (z : Nat)), .v (.lst ((p :: L).map prD)), s4', s5], ?_⟩
    simp [smFS, hl, dLrng_of (n := (m : Int)) (by omega), combG_rg hm (show z ≤ 6 by omega), callP_fs]
    rw [e]
    have hd := dMinT_pr p L
    simp at hd
    simp [r_frz, ownAt, hd, show okD 39 (prD p) = true from okD_pr 37 p, okL_prs L, eqL_cn]
theorem f_first_split {cs : List Int} {m : Nat} (hm : m ≤ 6) (hl : cs.length = m) : F_first_split [.lst (cs.map .int), .fn "union_of"] δ = .ok (optD (srch (Et cs) m)) δ := by
  obtain ⟨ρ', h⟩ := floop_find (p := .nm 2) (f := fun z : Nat => D.int z) (body := semS Phi_first_split smFS) (δ := δ)
    (fun ρ => ∃ s2 s3 s4 s5, ρ = [.v (.lst (cs.map .int)), .v (.fn "union_of"), s2, s3, s4, s5]) (gF (Et cs) m) (xs := sz m) (ρ := [.v (.lst (cs.map .int)), .v (.fn "union_of"), .no, .no, .no, .no]) ⟨_, _, _, _, rfl⟩ (fs_turn hm hl)
  have e : srch (Et cs) m = (sz m).findSome? fun z => match (allP m z).filter (Et cs) with
    | [] => none
    | p :: L => some (minP p L) := rfl
  have e2 : ∀ zs : List Nat, zs.findSome? (gF (Et cs) m) = (zs.findSome? fun z => match (allP m z).filter (Et cs) with
    | [] => none
    | p :: L => some (minP p L)).map prD := by
    intro zs
    induction zs with
    | nil => rfl
    | cons z zs ih =>
      rw [List.findSome?_cons, List.findSome?_cons]
      cases hf : (allP m z).filter (Et cs) with
      | nil => simp only [gF, hf]; exact ih
      | cons p L => simp only [gF, hf]; rfl
  rw [e2, ← e] at h
  simp only [F_first_split, sm_first_split]
  cases hs : srch (Et cs) m with
  | none =>
    rw [hs] at h
    obtain ⟨h, _, _, _, _, rfl⟩ := h
    simp [smFS] at h
    simp [hl, rng2_sz hm]
    rw [h]
    simp [optD]
  | some p =>
    rw [hs] at h
    simp [smFS] at h
    simp [hl, rng2_sz hm]
    rw [h]
    simp [optD]
/-! ### even splits -/
def Ee (cs : List Int) (p : Pr) : Bool := decide (sumOf cs p.1 = sumOf cs p.2)
theorem splits_perm {s : Lot} (h : s ∈ lots 6) {p : Pr} (hp : p ∈ splits s) : (p.1 ++ p.2).Perm s := by
  have : ((lots 6).all fun s => (splits s).all fun p => (p.1 ++ p.2).isPerm s) = true := by decide +kernel
  rw [List.all_eq_true] at this
  have := this s h
  rw [List.all_eq_true] at this
  exact List.isPerm_iff.mp (this p hp)
theorem sum_perm {a b : List Int} (h : a.Perm b) : a.sum = b.sum := by
  induction h with
  | nil => rfl
  | cons x _ ih => simp only [List.sum_cons, ih]
  | swap x y l => simp only [List.sum_cons]; omega
  | trans _ _ h1 h2 => exact h1.trans h2
theorem sum_app (a b : List Int) : (a ++ b).sum = a.sum + b.sum := by
  induction a with
  | nil => simp
  | cons x a ih => simp only [List.cons_append, List.sum_cons, ih]; omega
theorem sumOf_perm (cs : List Int) {a b s : Lot} (h : (a ++ b).Perm s) : sumOf cs s = sumOf cs a + sumOf cs b := by
  unfold sumOf
  rw [← sum_perm (h.map _), List.map_append, sum_app]
theorem ee_eq {cs : List Int} {s : Lot} (h : s ∈ lots 6) {p : Pr} (hp : p ∈ splits s) : decide (2 * sumOf cs p.1 = sumOf cs s) = Ee cs p := by
  unfold Ee
  rw [sumOf_perm cs (splits_perm h hp)]
  by_cases e : sumOf cs p.1 = sumOf cs p.2
  · rw [decide_eq_true e, decide_eq_true]; omega
  · rw [decide_eq_false e, decide_eq_false]; omega
@[simp] theorem bare_es : Phi_first_even_split.bare = Phi_first_even_split := rfl
theorem callP_es0 (f : RX (List D)) : callP Phi_first_even_split 0 f = callO F_splits_of 1 f := rfl
theorem callP_es1 (f : RX (List D)) : callP Phi_first_even_split 1 f = callO F_sum_of 2 f := rfl
def smEI : Sm := (.seq (.asg (.nm 4) (.call 1 (.cons (.var 0) (.cons (.var 3) .nil)))) (.seq (.ext 2 (.lc (.nm 5) [5] (.call 0 (.cons (.var 3) .nil)) (.cmp .Eq (.bin .Mult (.int 2) (.call 1 (.cons (.var 0) (.cons (.idx (.var 5) (.int 0)) .nil)))) (.var 4)) (.var 5))) .nil))
theorem es_inner {cs : List Int} {m : Nat} (hm : m ≤ 6) (hl : cs.length = m) {z : Nat} (hz : z ≤ 6) (s4 s5 s6 : Sl) :
    ∃ s4' s5', floop (.nm 3) (semS Phi_first_even_split smEI) ((combs z (rg (m : Nat))).map lotI)
      [.v (.lst (cs.map .int)), .v (.int (z : Nat)), .own [], s4, s5, s6] δ = .ok (.nx, [.v (.lst (cs.map .int)), .v (.int (z : Nat)), .own (((allP m z).filter (Ee cs)).map prD), s4', s5', s6]) δ := by
  have hb := floop_foldP (p := .nm 3) (body := semS Phi_first_even_split smEI) (f := lotI)
    (fun s : List Pr × Sl × Sl => [.v (.lst (cs.map .int)), .v (.int (z : Nat)), .own (s.1.map prD), s.2.1, s.2.2, s6]) (fun s l => (s.1 ++ (splits l).filter (Ee cs), .v (lotI l), .v (.int (sumOf cs l)))) (fun k s => s.1.length ≤ 64 * k) 20 (xs := combs z (rg (m : Nat))) (k := 0) (s := ([], s4, s5)) (δ := δ) (by have := combs_len hm hz; omega) ?_ (by simp)
  · obtain ⟨e, -⟩ := hb
    refine ⟨((combs z (rg (m : Nat))).foldl (fun (s : List Pr × Sl × Sl) l => (s.1 ++ (splits l).filter (Ee cs), .v (lotI l), .v (.int (sumOf cs l)))) ([], s4, s5)).2.1, ((combs z (rg (m : Nat))).foldl (fun (s : List Pr × Sl × Sl) l => (s.1 ++ (splits l).filter (Ee cs), .v (lotI l), .v (.int (sumOf cs l)))) ([], s4, s5)).2.2, ?_⟩
    have key : ∀ (xs : List Lot) (s : List Pr × Sl × Sl), (xs.foldl (fun (s : List Pr × Sl × Sl) l => (s.1 ++ (splits l).filter (Ee cs), .v (lotI l), .v (.int (sumOf cs l)))) s).1 = s.1 ++ xs.flatMap fun l => (splits l).filter (Ee cs) := by
      intro xs
      induction xs with
      | nil => intro s; simp
      | cons x xs ih => intro s; rw [List.foldl_cons, ih]; simp
    rw [show ([.v (.lst (cs.map .int)), .v (.int (z : Nat)), .own [], s4, s5, s6] : List Sl) = [.v (.lst (cs.map .int)), .v (.int (z : Nat)), .own (([] : List Pr).map prD), s4, s5, s6] from rfl, e]
    rw [key, List.nil_append, ← filter_flat]
    rfl
  · rintro l hl2 k s hk hp
    have hsl := combs_in hm hz hl2
    have hlen := splits_len hsl
    have hfl : ((splits l).filter (Ee cs)).length ≤ 64 := Nat.le_trans (List.length_filter_le _ _) hlen
    refine ⟨_, rfl, ?_, by simp only [List.length_append]; omega⟩
    have hsub : ∀ p ∈ splits l, ∀ k ∈ p.1, 0 ≤ k ∧ k < (cs.length : Nat) := fun p hp => by
      have := ((mem_allP hm hz).mp (List.mem_flatMap.mpr ⟨l, hl2, hp⟩)).1
      rw [hl]
      exact this.1.2
    have hll : ∀ k ∈ l, 0 ≤ k ∧ k < (cs.length : Nat) := by
      rw [hl]
      exact combs_rg hm hz hl2
    have cpn : s.1.length + ((splits l).filter (Ee cs)).length ≤ cap := by unfold cap; omega
    have u0 : F_sum_of [.lst (cs.map .int), lotI l] δ = .ok (.int (sumOf cs l)) δ := f_sum_of (δ := δ) (cs := cs) hll
    simp [smEI, r_ext, ownAt, f_splits_of hsl, callP_es0, callP_es1, u0, -List.map_append]
    rw [cloopM_eq (h := fun p => bI (Ee cs p) (some (prD p)) none), filterMap_bI]
    · simp [cpn]
    · intro p hp δ
      have u1 : F_sum_of [.lst (cs.map .int), lotI p.1] δ = .ok (.int (sumOf cs p.1)) δ := f_sum_of (δ := δ) (cs := cs) (hsub p hp)
      simp [u1, ee_eq hsl hp, show small64 2 = true from rfl]
def smES : Sm := (.seq (.new 2 .nil) (.seq (.fo (.nm 3) (.combE (.cons (.lrng (.bi .len (.cons (.var 0) .nil))) (.cons (.bi .int (.cons (.var 1) .nil)) .nil))) smEI) (.frz 2 (.seq (.ite (.cmp .NotEq (.var 2) (.lst .nil)) (.seq (.ret (.bi .minT (.cons (.var 2) .nil))) .nil) .nil) .nil))))
theorem es_turn {cs : List Int} {m : Nat} (hm : m ≤ 6) (hl : cs.length = m) (z : Nat) (hz : z ∈ sz m) (ρ : List Sl) (hI : ∃ s2 s3 s4 s5 s6, ρ = [.v (.lst (cs.map .int)), s2, s3, s4, s5, s6]) :
    ∃ ρ2, bindP (.nm 1) (.int (z : Nat)) ρ = some ρ2 ∧ ∃ ρ', match gF (Ee cs) m z with
      | none => semS Phi_first_even_split smES ρ2 δ = .ok (.nx, ρ') δ ∧ ∃ s2 s3 s4 s5 s6, ρ' = [.v (.lst (cs.map .int)), s2, s3, s4, s5, s6]
      | some d => semS Phi_first_even_split smES ρ2 δ = .ok (.rt d, ρ') δ := by
  obtain ⟨s2, s3, s4, s5, s6, rfl⟩ := hI
  have hz2 := mem_sz.mp hz
  refine ⟨_, rfl, ?_⟩
  obtain ⟨s4', s5', e⟩ := es_inner (δ := δ) hm hl (show z ≤ 6 by omega) s4 s5 s6
  simp [smEI, callP_es0, callP_es1] at e
  cases hL : (allP m z).filter (Ee cs) with
  | nil =>
    have hg : gF (Ee cs) m z = none := by unfold gF; rw [hL]
    rw [hL] at e
    rw [hg]
    refine ⟨[.v (.lst (cs.map .int)), .v (.int (z : Nat)), .v (.lst []), s4', s5', s6], ?_, ⟨_, _, _, _, _, rfl⟩⟩
    simp [smES, smEI, hl, dLrng_of (n := (m : Int)) (by omega), combG_rg hm (show z ≤ 6 by omega), callP_es0, callP_es1]
    rw [e]
    simp [r_frz, ownAt]
  | cons p L =>
    have hg : gF (Ee cs) m z = some (prD (minP p L)) := by unfold gF; rw [hL]
    rw [hL] at e
    rw [hg]
    refine ⟨[.v (.lst (cs.map .int)), .v (.int (z : Nat)), .v (.lst ((p :: L).map prD)), s4', s5', s6], ?_⟩
    simp [smES, smEI, hl, dLrng_of (n := (m : Int)) (by omega), combG_rg hm (show z ≤ 6 by omega), callP_es0, callP_es1]
    rw [e]
    have hd := dMinT_pr p L
    simp at hd
    simp [r_frz, ownAt, hd, show okD 39 (prD p) = true from okD_pr 37 p, okL_prs L, eqL_cn]
theorem srch_map (E : Pr → Bool) (m : Nat) : (sz m).findSome? (gF E m) = (srch E m).map prD := by
  have e2 : ∀ zs : List Nat, zs.findSome? (gF E m) = (zs.findSome? fun z => match (allP m z).filter E with
    | [] => none
    | p :: L => some (minP p L)).map prD := by
    intro zs
    induction zs with
    | nil => rfl
    | cons z zs ih =>
      rw [List.findSome?_cons, List.findSome?_cons]
      cases hf : (allP m z).filter E with
      | nil => simp only [gF, hf]; exact ih
      | cons p L => simp only [gF, hf]; rfl
  exact e2 _
theorem f_first_even_split {cs : List Int} {m : Nat} (hm : m ≤ 6) (hl : cs.length = m) : F_first_even_split [.lst (cs.map .int)] δ = .ok (optD (srch (Ee cs) m)) δ := by
  obtain ⟨ρ', h⟩ := floop_find (p := .nm 1) (f := fun z : Nat => D.int z) (body := semS Phi_first_even_split smES) (δ := δ)
    (fun ρ => ∃ s2 s3 s4 s5 s6, ρ = [.v (.lst (cs.map .int)), s2, s3, s4, s5, s6]) (gF (Ee cs) m) (xs := sz m) (ρ := [.v (.lst (cs.map .int)), .no, .no, .no, .no, .no]) ⟨_, _, _, _, _, rfl⟩ (es_turn hm hl)
  rw [srch_map] at h
  simp only [F_first_even_split, sm_first_even_split]
  cases hs : srch (Ee cs) m with
  | none =>
    rw [hs] at h
    obtain ⟨h, _, _, _, _, _, rfl⟩ := h
    simp [smES, smEI] at h
    simp [hl, rng2_sz hm]
    rw [h]
    simp [optD]
  | some p =>
    rw [hs] at h
    simp [smES, smEI] at h
    simp [hl, rng2_sz hm]
    rw [h]
    simp [optD]
end
end Pt
set_option maxRecDepth 100000
set_option maxHeartbeats 4000000
/-! Nd: k90's law, its own reckoning -/
namespace Pt
open PySem PySem.Spec Pv PyProof.Rows
/-! ### ints in order -/
def insI (x : Int) : List Int → List Int
  | [] => [x]
  | y :: ys => if y < x then y :: insI x ys else x :: y :: ys
def sortI : List Int → List Int
  | [] => []
  | x :: xs => insI x (sortI xs)
theorem enc_ilt {a b : Int} : enc (.int a) < enc (.int b) ↔ a < b := by
  simp [enc, lt_cons]
theorem insD_int (x : Int) : ∀ ys : List Int, insD (.int x) (ys.map D.int) = (insI x ys).map .int
  | [] => rfl
  | y :: ys => by
    simp only [List.map_cons, insD, insI, enc_ilt, insD_int x ys]
    split <;> rfl
theorem srtD_int : ∀ ys : List Int, srtD (ys.map D.int) = (sortI ys).map .int
  | [] => rfl
  | y :: ys => by simp only [List.map_cons, srtD, sortI, srtD_int ys, insD_int]
theorem insI_perm (x : Int) : ∀ ys, (insI x ys).Perm (x :: ys)
  | [] => .refl _
  | y :: ys => by
    unfold insI
    split
    · exact ((insI_perm x ys).cons y).trans (.swap x y ys)
    · exact .refl _
theorem sortI_perm : ∀ ys, (sortI ys).Perm ys
  | [] => .refl _
  | y :: ys => (insI_perm y (sortI ys)).trans ((sortI_perm ys).cons y)
theorem insI_asc {x : Int} : ∀ {ys : List Int}, ys.Pairwise (· ≤ ·) → (insI x ys).Pairwise (· ≤ ·)
  | [], _ => by simp [insI]
  | y :: ys, h => by
    obtain ⟨h1, h2⟩ := List.pairwise_cons.mp h
    unfold insI
    split
    · rename_i hx
      refine List.pairwise_cons.mpr ⟨fun z hz => ?_, insI_asc h2⟩
      rcases List.mem_cons.mp ((insI_perm x ys).mem_iff.mp hz) with rfl | hz
      · omega
      · exact h1 z hz
    · rename_i hx
      refine List.pairwise_cons.mpr ⟨fun z hz => ?_, h⟩
      rcases List.mem_cons.mp hz with rfl | hz
      · omega
      · have := h1 z hz; omega
theorem sortI_asc : ∀ ys, (sortI ys).Pairwise (· ≤ ·)
  | [] => .nil
  | y :: ys => insI_asc (sortI_asc ys)
theorem sortI_eq {a b : List Int} : sortI a = sortI b ↔ a.Perm b := by
  constructor
  · intro h
    exact (sortI_perm a).symm.trans (h ▸ sortI_perm b)
  · intro h
    exact ((sortI_perm a).trans (h.trans (sortI_perm b).symm)).eq_of_pairwise (fun x y _ _ h1 h2 => Int.le_antisymm h1 h2) (sortI_asc a) (sortI_asc b)
theorem hasTy_ints2 : ∀ xs : List Int, (xs.map D.int).all (hasTy .i) = true
  | [] => rfl
  | x :: xs => by simp [hasTy]
theorem dSorted_ints (xs : List Int) : dSorted .i [.lst (xs.map .int)] = some (.lst ((sortI xs).map .int)) := by
  have h1 := hasTy_ints2 xs
  have h2 : (xs.map D.int).all okd = true := by simp [List.all_map, List.all_eq_true]
  show (if (xs.map D.int).all (hasTy .i) && (xs.map D.int).all okd then some (D.lst (srtD (xs.map D.int))) else none) = _
  rw [h1, h2, srtD_int]; rfl
theorem dSortSetI_ints {xs : List Int} (h : xs.length < 64) : dSortSetI [.lst (xs.map .int)] = some (.lst ((ascU xs).map .int)) := by
  show (match intsD (xs.map D.int) with | some ns => if ns.length < 64 then some (D.lst ((ascU ns).map .int)) else none | none => none) = _
  rw [intsD_map']
  simp [h]
/-! ### lines, rows -/
def line (b : List Lot) (one : Lot) : List Int := one.flatMap fun k => b.getD k.toNat []
def row (even : Bool) (b : List Lot) (one : Lot) : List Int := bI even (sortI (line b one)) (ascU (line b one))
def trD (p : Pr) : D := .tup [.int (kL p : Nat), lotI p.1, lotI p.2]
def bestD : Option Pr → D
  | none => .non
  | some p => trD p
@[simp] theorem strong_best (r : Option Pr) : (bestD r).strong = true := by cases r <;> rfl
theorem ltL_tr (p q : Pr) : ltD (trD p) (trD q) = some (decide (klt p q)) := by
  have h1 : ∀ a b : Lot, ltD (lotI a) (lotI b) = some (decide (a < b)) := fun a b => ltL_ints a b
  show ltL [.int (kL p : Nat), lotI p.1, lotI p.2] [.int (kL q : Nat), lotI q.1, lotI q.2] = _
  simp only [ltL, h1, eqD_lot, eqD_int, ltD]
  unfold klt plt
  by_cases e1 : kL p = kL q
  · by_cases e2 : p.1 = q.1
    · by_cases e3 : p.2 = q.2
      · simp [e1, e2, e3, List.lt_irrefl]
      · simp [e1, e2, e3, List.lt_irrefl]
    · simp [e1, e2]
  · have e1' : ¬ ((kL p : Int) = (kL q : Int)) := by omega
    simp [e1, e1']
theorem dLt_tr (p q : Pr) : dLt (trD p) (trD q) = some (.bl (decide (klt p q))) := by
  have o : ∀ p : Pr, okd (trD p) = true := fun p => by simp [trD]
  unfold dLt
  rw [o p, o q, ltL_tr]; rfl
theorem atI_lots {b : List Lot} {k : Int} (h0 : 0 ≤ k) (h1 : k < b.length) : L2.atI (b.map lotI) k = some (lotI (b.getD k.toNat [])) := by
  rw [atI_get h0 (by simpa using h1), List.getElem?_map, List.getD_eq_getElem?_getD, List.getElem?_eq_getElem (show k.toNat < b.length by omega)]
  rfl
section
variable {δ : List Bx}
def smLi : Sm := (.seq (.asg (.nm 7) (.bin .Add (.var 7) (.bi .list (.cons (.idx (.var 0) (.var 8)) .nil)))) .nil)
theorem line_loop {b : List Lot} (hb : ∀ l ∈ b, l.length ≤ 6) {one : Lot} (ho : ∀ k ∈ one, 0 ≤ k ∧ k < (b.length : Nat)) (hl : one.length ≤ 6) (s1 s2 s3 s4 s5 s6 s8 s9 : Sl) :
    ∃ s8', floop (.nm 8) (semS Phi__law_twins smLi) (one.map .int) [.v (bkD b), s1, s2, s3, s4, s5, s6, .v (.lst []), s8, s9] δ = .ok (.nx, [.v (bkD b), s1, s2, s3, s4, s5, s6, .v (.lst ((line b one).map .int)), s8', s9]) δ := by
  have hb2 := floop_foldP (p := .nm 8) (body := semS Phi__law_twins smLi) (f := D.int)
    (fun s : List Int × Sl => [.v (bkD b), s1, s2, s3, s4, s5, s6, .v (.lst (s.1.map .int)), s.2, s9]) (fun s k => (s.1 ++ b.getD k.toNat [], .v (.int k))) (fun k s => s.1.length ≤ 6 * k) 6 (xs := one) (k := 0) (s := ([], s8)) (δ := δ) (by omega) ?_ (by simp)
  · obtain ⟨e, -⟩ := hb2
    refine ⟨(one.foldl (fun (s : List Int × Sl) k => (s.1 ++ b.getD k.toNat [], .v (.int k))) ([], s8)).2, ?_⟩
    rw [show ([.v (bkD b), s1, s2, s3, s4, s5, s6, .v (.lst []), s8, s9] : List Sl) = [.v (bkD b), s1, s2, s3, s4, s5, s6, .v (.lst (([] : List Int).map .int)), s8, s9] from rfl, e]
    rw [fold_flat (fun k : Int => b.getD k.toNat []) (fun k => .v (.int k)), List.nil_append]
    rfl
  · rintro k hk i s hi hp
    obtain ⟨k0, k1⟩ := ho k hk
    have hlen : (b.getD k.toNat []).length ≤ 6 := by
      rw [List.getD_eq_getElem?_getD, List.getElem?_eq_getElem (show k.toNat < b.length by omega)]
      exact hb _ (List.getElem_mem _)
    refine ⟨_, rfl, ?_, by simp only [List.length_append]; omega⟩
    have hadd := dAdd_lst (s.1.map .int) ((b.getD k.toNat []).map .int) (by simp only [List.length_map]; unfold cap; omega)
    have ei : idxK (bkD b) (.int k) δ = .ok (lotI (b.getD k.toNat [])) δ := by
      show ofO (L2.atI (b.map lotI) k) δ = _
      rw [atI_lots k0 k1]; rfl
    simp [smLi, ei, hadd, -List.getD_eq_getElem?_getD]
theorem line_len {b : List Lot} (hb : ∀ l ∈ b, l.length ≤ 6) : ∀ {one : Lot}, (line b one).length ≤ 6 * one.length
  | [] => by simp [line]
  | k :: one => by
    have h : (b.getD k.toNat []).length ≤ 6 := by
      rw [List.getD_eq_getElem?_getD]
      cases e : b[k.toNat]? with
      | none => simp
      | some l => exact hb l (List.mem_of_getElem? e)
    have := line_len hb (one := one)
    unfold line at this ⊢
    simp only [List.flatMap_cons, List.length_append, List.length_cons]
    omega
def smRo : Sm := (.seq (.asg (.nm 7) (.lst .nil)) (.seq (.fo (.nm 8) (.var 6) smLi) (.seq (.app 5 (.ite (.var 1) (.srt .i (.cons (.var 7) .nil)) (.srtSetI (.cons (.var 7) .nil)))) .nil)))
def rowD (even : Bool) (b : List Lot) (one : Lot) : D := .lst ((row even b one).map .int)
theorem row_turn {b : List Lot} (hb : ∀ l ∈ b, l.length ≤ 6) {even : Bool} {one : Lot} (ho : ∀ k ∈ one, 0 ≤ k ∧ k < (b.length : Nat)) (hl : one.length ≤ 6) (s2 s3 s4 s7 s8 s9 : Sl) (acc : List D) (ha : acc.length ≤ 10) :
    ∃ s7' s8', semS Phi__law_twins smRo [.v (bkD b), .v (.bl even), s2, s3, s4, .own acc, .v (lotI one), s7, s8, s9] δ = .ok (.nx, [.v (bkD b), .v (.bl even), s2, s3, s4, .own (acc ++ [rowD even b one]), .v (lotI one), s7', s8', s9]) δ := by
  obtain ⟨s8', e⟩ := line_loop (δ := δ) hb ho hl (.v (.bl even)) s2 s3 s4 (.own acc) (.v (lotI one)) s8 s9
  refine ⟨.v (.lst ((line b one).map .int)), s8', ?_⟩
  have l1 := line_len hb (one := one)
  have hac : acc.length < cap := by unfold cap; omega
  simp [smLi] at e
  simp [smRo, smLi]
  rw [e]
  cases even with
  | true => simp [r_app, ownAt, dSorted_ints, hac, rowD, row]
  | false => simp [r_app, ownAt, dSortSetI_ints (show (line b one).length < 64 by omega), hac, rowD, row]
/-! ### one pair looked at -/
def Vr (even : Bool) (b : List Lot) (p : Pr) : Bool := pokB p && decide (row even b p.1 = row even b p.2)
def smTw : Sm := (.seq (.ite (.and (.cmp .Lt (.idx (.var 3) (.int 0)) (.idx (.var 4) (.int 0))) (.not (.bi .any (.cons (.lc (.nm 8) [8] (.var 3) .nil (.cmp .In (.var 8) (.var 4))) .nil)))) (.seq (.new 5 .nil) (.seq (.fo (.nm 6) (.tup (.cons (.var 3) (.cons (.var 4) .nil))) smRo) (.frz 5 (.seq (.ite (.cmp .Eq (.idx (.var 5) (.int 0)) (.idx (.var 5) (.int 1))) (.seq (.asg (.nm 9) (.tup (.cons (.bin .Add (.bi .len (.cons (.var 3) .nil)) (.bi .len (.cons (.var 4) .nil))) (.cons (.var 3) (.cons (.var 4) .nil))))) (.seq (.asg (.nm 2) (.ite (.or (.cmp .Is (.var 2) .non) (.cmp .Lt (.var 9) (.var 2))) (.var 9) (.var 2))) .nil)) .nil) .nil)))) .nil) .nil)
theorem idx0_lot {l : Lot} (h : l ≠ []) : idxK (lotI l) (.int 0) δ = .ok (.int (l.headD 0)) δ := by
  cases l with
  | nil => exact absurd rfl h
  | cons x l =>
    show ofO (L2.atI (D.int x :: l.map .int) 0) δ = _
    rw [atI_0]; rfl
theorem idxK0_two (x y : D) : idxK (.lst [x, y]) (.int 0) δ = .ok x δ := by simp
theorem idxK1_two (x y : D) : idxK (.lst [x, y]) (.int 1) δ = .ok y δ := by simp
theorem eq_row (even : Bool) (b : List Lot) (x y : Lot) : dEq (rowD even b x) (rowD even b y) = some (.bl (decide (row even b x = row even b y))) := by
  simp [rowD]
theorem tw_body {b : List Lot} (hb : ∀ l ∈ b, l.length ≤ 6) {even : Bool} {one two : Lot} (ho : ∀ k ∈ one, 0 ≤ k ∧ k < (b.length : Nat)) (hl : one.length ≤ 6) (ho2 : ∀ k ∈ two, 0 ≤ k ∧ k < (b.length : Nat)) (hl2 : two.length ≤ 6) (n1 : one ≠ []) (n2 : two ≠ []) (r : Option Pr) (s5 s6 s7 s8 s9 : Sl) :
    ∃ t5 t6 t7 t8 t9, semS Phi__law_twins smTw [.v (bkD b), .v (.bl even), .v (bestD r), .v (lotI one), .v (lotI two), s5, s6, s7, s8, s9] δ = .ok (.nx, [.v (bkD b), .v (.bl even), .v (bestD (bet (Vr even b) r (one, two))), .v (lotI one), .v (lotI two), t5, t6, t7, t8, t9]) δ := by
  obtain ⟨a7, a8, e1⟩ := row_turn (δ := δ) (even := even) hb ho hl (.v (bestD r)) (.v (lotI one)) (.v (lotI two)) s7 s8 s9 [] (by simp)
  obtain ⟨b7, b8, e2⟩ := row_turn (δ := δ) (even := even) hb ho2 hl2 (.v (bestD r)) (.v (lotI one)) (.v (lotI two)) a7 a8 s9 [rowD even b one] (by simp)
  have hpok : pokB (one, two) = (decide (one.headD 0 < two.headD 0) && !(one.any fun x => decide (x ∈ two))) := by
    have q1 : one.isEmpty = false := by cases one <;> simp_all
    have q2 : two.isEmpty = false := by cases two <;> simp_all
    unfold pokB
    rw [q1, q2, List.all_eq_not_any_not]
    simp
  cases hp : pokB (one, two) with
  | false =>
    refine ⟨s5, s6, s7, s8, s9, ?_⟩
    have hbt : bet (Vr even b) r (one, two) = r := by unfold bet Vr; rw [hp]; simp
    rw [hpok, List.headD_eq_head?_getD, List.headD_eq_head?_getD] at hp
    simp [smTw, hbt, idx0_lot n1, idx0_lot n2]
    rw [hp]; rfl
  | true =>
    have hp0 := hp
    rw [hpok, List.headD_eq_head?_getD, List.headD_eq_head?_getD] at hp
    have e3 : floop (.nm 6) (semS Phi__law_twins smRo) [lotI one, lotI two] [.v (bkD b), .v (.bl even), .v (bestD r), .v (lotI one), .v (lotI two), .own [], s6, s7, s8, s9] δ = .ok (.nx, [.v (bkD b), .v (.bl even), .v (bestD r), .v (lotI one), .v (lotI two), .own [rowD even b one, rowD even b two], .v (lotI two), b7, b8, s9]) δ := by
      simp only [List.nil_append] at e1
      simp only [List.singleton_append] at e2
      simp [floop, e1, e2]
    have cp2 : 2 ≤ cap := by unfold cap; omega
    have cp3 : 3 ≤ cap := by unfold cap; omega
    have ek : (D.tup [.int ((one.length : Int) + (two.length : Int)), lotI one, lotI two]) = trD (one, two) := by simp [trD, kL]
    have sr : ∀ l, (rowD even b l).strong = true := fun _ => rfl
    have st : ∀ p, (trD p).strong = true := fun _ => rfl
    have nt : ∀ p, isNon (trD p) = false := fun _ => rfl
    cases hr : decide (row even b one = row even b two) with
    | false =>
      have hbt : bet (Vr even b) r (one, two) = r := by unfold bet Vr; rw [hr]; simp
      refine ⟨.v (.lst [rowD even b one, rowD even b two]), .v (lotI two), b7, b8, s9, ?_⟩
      simp [smTw, hbt, idx0_lot n1, idx0_lot n2]
      rw [hp, bI_true, if_pos cp2, e3]
      simp [r_frz, ownAt, idxK0_two, idxK1_two, eq_row, hr, -dEq_of, -decide_eq_false_iff_not]
    | true =>
      have hv : Vr even b (one, two) = true := by unfold Vr; rw [hp0, hr]; rfl
      refine ⟨.v (.lst [rowD even b one, rowD even b two]), .v (lotI two), b7, b8, .v (trD (one, two)), ?_⟩
      simp [smTw, idx0_lot n1, idx0_lot n2]
      rw [hp, bI_true, if_pos cp2, e3]
      cases r with
      | none =>
        have hbt : bet (Vr even b) none (one, two) = some (one, two) := by unfold bet; rw [if_pos hv]
        rw [hbt]
        simp [r_frz, ownAt, idxK0_two, idxK1_two, eq_row, hr, cp3, ek, st, bestD, -dEq_of, -decide_eq_true_eq]
      | some q =>
        have hbt : bet (Vr even b) (some q) (one, two) = if klt (one, two) q then some (one, two) else some q := by unfold bet; rw [if_pos hv]
        rw [hbt]
        cases hk : decide (klt (one, two) q) with
        | true =>
          have hk' : klt (one, two) q := by simpa using hk
          rw [if_pos hk']
          simp [r_frz, ownAt, idxK0_two, idxK1_two, eq_row, hr, cp3, ek, st, nt, bestD, dLt_tr, hk, -dEq_of, -decide_eq_true_eq]
        | false =>
          have hk' : ¬ klt (one, two) q := by simpa using hk
          rw [if_neg hk']
          simp [r_frz, ownAt, idxK0_two, idxK1_two, eq_row, hr, cp3, ek, st, nt, bestD, dLt_tr, hk, -dEq_of, -decide_eq_true_eq, -decide_eq_false_iff_not]
/-! ### the loops -/
theorem floop_ex {α S : Type} {p : Pat} {body : RS} {f : α → D} (I : S → List Sl → Prop) (step : S → α → S) : ∀ {xs : List α} {r : S} {ρ : List Sl}, I r ρ →
    (∀ x ∈ xs, ∀ r ρ, I r ρ → ∃ ρ2, bindP p (f x) ρ = some ρ2 ∧ ∃ ρ', body ρ2 δ = .ok (.nx, ρ') δ ∧ I (step r x) ρ') → ∃ ρ', floop p body (xs.map f) ρ δ = .ok (.nx, ρ') δ ∧ I (xs.foldl step r) ρ'
  | [], r, ρ, h0, _ => ⟨ρ, rfl, h0⟩
  | x :: xs, r, ρ, h0, h => by
    obtain ⟨ρ2, e1, ρ', e2, h1⟩ := h x (List.mem_cons_self ..) r ρ h0
    obtain ⟨ρ3, e3, h3⟩ := floop_ex I step (xs := xs) h1 fun y hy => h y (List.mem_cons_of_mem _ hy)
    refine ⟨ρ3, ?_, h3⟩
    simp only [List.map_cons, floop, e1, e2, Res.bind_ok]
    exact e3
theorem someOf_eq : F__law_some_of = F__law_lots := rfl
theorem f_some_of {m : Nat} (hm : m ≤ 6) : F__law_some_of [.int (m : Nat)] δ = .ok (.lst ((lots (m : Nat)).map lotI)) δ := by
  rw [someOf_eq]
  by_cases h0 : m = 0
  · subst h0; kernel_rfl
  · exact f__law_lots ⟨by omega, by omega⟩
/-- the law's own twins -/
def lawT (even : Bool) (b : List Lot) : Option Pr := (lots b.length).tail.foldl (fun r one => (lots b.length).tail.foldl (fun r two => bet (Vr even b) r (one, two)) r) none
theorem tail_ok {m : Nat} (hm : m ≤ 6) {l : Lot} (h : l ∈ (lots (m : Nat)).tail) : l ≠ [] ∧ (∀ k ∈ l, 0 ≤ k ∧ k < (m : Int)) ∧ l.length ≤ 6 := by
  have : ∀ m ∈ List.range 7, ((lots (m : Nat)).tail.all fun l => !l.isEmpty && (l.all fun k => decide (0 ≤ k) && decide (k < (m : Int))) && decide (l.length ≤ 6)) = true := by decide +kernel
  have := this m (by simp; omega)
  rw [List.all_eq_true] at this
  have := this l h
  simp only [Bool.and_eq_true, List.all_eq_true, decide_eq_true_eq, Bool.not_eq_true'] at this
  refine ⟨fun e => ?_, fun k hk => this.1.2 k hk, this.2⟩
  rw [e] at this
  simp at this
def smOut : Sm := (.seq (.fo (.nm 4) (.slc (.call 0 (.cons (.bi .len (.cons (.var 0) .nil)) .nil)) (.int 1) .nil) smTw) .nil)
theorem sm_twins_eq : sm__law_twins = (.seq (.asg (.nm 2) .non) (.seq (.fo (.nm 3) (.slc (.call 0 (.cons (.bi .len (.cons (.var 0) .nil)) .nil)) (.int 1) .nil) smOut) (.seq (.ret (.ite (.cmp .IsNot (.var 2) .non) (.slc (.var 2) (.int 1) .nil) .non)) .nil))) := rfl
theorem f__law_twins {b : List Lot} (hb : ∀ l ∈ b, l.length ≤ 6) (hm : b.length ≤ 6) {even : Bool} : F__law_twins [bkD b, .bl even] δ = .ok (optD (lawT even b)) δ := by
  have inner : ∀ one ∈ (lots b.length).tail, ∀ (r : Option Pr) (s4 s5 s6 s7 s8 s9 : Sl), ∃ ρ', floop (.nm 4) (semS Phi__law_twins smTw) ((lots b.length).tail.map lotI) [.v (bkD b), .v (.bl even), .v (bestD r), .v (lotI one), s4, s5, s6, s7, s8, s9] δ = .ok (.nx, ρ') δ ∧
      ∃ s4 s5 s6 s7 s8 s9, ρ' = [.v (bkD b), .v (.bl even), .v (bestD ((lots b.length).tail.foldl (fun r two => bet (Vr even b) r (one, two)) r)), .v (lotI one), s4, s5, s6, s7, s8, s9] := by
    intro one h1 r s4 s5 s6 s7 s8 s9
    refine floop_ex (fun r ρ => ∃ s4 s5 s6 s7 s8 s9, ρ = [.v (bkD b), .v (.bl even), .v (bestD r), .v (lotI one), s4, s5, s6, s7, s8, s9]) (fun r two => bet (Vr even b) r (one, two)) ⟨_, _, _, _, _, _, rfl⟩ ?_
    rintro two h2 r ρ ⟨s4, s5, s6, s7, s8, s9, rfl⟩
    refine ⟨_, rfl, ?_⟩
    obtain ⟨a1, a2, a3⟩ := tail_ok hm h1
    obtain ⟨b1, b2, b3⟩ := tail_ok hm h2
    obtain ⟨t5, t6, t7, t8, t9, e⟩ := tw_body (δ := δ) (even := even) hb a2 a3 b2 b3 a1 b1 r s5 s6 s7 s8 s9
    exact ⟨_, e, _, _, _, _, _, _, rfl⟩
  have hso := f_some_of (δ := δ) hm
  have outer : ∃ ρ', floop (.nm 3) (semS Phi__law_twins smOut) ((lots b.length).tail.map lotI) [.v (bkD b), .v (.bl even), .v .non, .no, .no, .no, .no, .no, .no, .no] δ = .ok (.nx, ρ') δ ∧
      ∃ s3 s4 s5 s6 s7 s8 s9, ρ' = [.v (bkD b), .v (.bl even), .v (bestD (lawT even b)), s3, s4, s5, s6, s7, s8, s9] := by
    refine floop_ex (fun r ρ => ∃ s3 s4 s5 s6 s7 s8 s9, ρ = [.v (bkD b), .v (.bl even), .v (bestD r), s3, s4, s5, s6, s7, s8, s9]) (fun r one => (lots b.length).tail.foldl (fun r two => bet (Vr even b) r (one, two)) r) ⟨_, _, _, _, _, _, _, rfl⟩ ?_
    rintro one h1 r ρ ⟨s3, s4, s5, s6, s7, s8, s9, rfl⟩
    refine ⟨_, rfl, ?_⟩
    obtain ⟨ρ', e, t4, t5, t6, t7, t8, t9, rfl⟩ := inner one h1 r s4 s5 s6 s7 s8 s9
    refine ⟨[.v (bkD b), .v (.bl even), .v (bestD ((lots b.length).tail.foldl (fun r two => bet (Vr even b) r (one, two)) r)), .v (lotI one), t4, t5, t6, t7, t8, t9], ?_, _, _, _, _, _, _, _, rfl⟩
    simp [smOut, Phi__law_twins, hso]
    have e' := e
    simp only [Phi__law_twins, List.map_tail] at e'
    rw [e']
    simp
  obtain ⟨ρ', e, t3, t4, t5, t6, t7, t8, t9, rfl⟩ := outer
  simp only [F__law_twins, sm_twins_eq]
  simp [Phi__law_twins, hso]
  simp only [Phi__law_twins, List.map_tail] at e
  rw [e]
  have dc : ∀ p, dCut (trD p) (some 1) none = some (prD p) := fun p => rfl
  have nt : ∀ p, isNon (trD p) = false := fun _ => rfl
  cases lawT even b with
  | none => simp [bestD, optD]
  | some p => simp [bestD, optD, nt, dc]
end
end Pt
set_option maxRecDepth 100000
set_option maxHeartbeats 0
namespace Pt
open PySem PySem.Spec PyProof.Rows L2 Pv
def sm_crossings_by : Sm := (.seq (.ret (.bi .tuple (.cons (.bi .srtK (.cons (.dcE (.tp [1, 2]) [1, 2] (.combE (.cons (.var 0) (.cons (.int 2) .nil))) .nil (.bi .len (.cons (.call 0 (.cons (.var 1) (.cons (.var 2) .nil))) .nil)) (.bl true)) .nil)) .nil))) .nil)
def Phi_crossings_by : Phi := { fns := [(2, F_common_of)] }
def F_crossings_by : Fn := mkF 3 1 (semS Phi_crossings_by sm_crossings_by)
def sm_alike_of : Sm := (.seq (.asg (.nm 1) (.call 0 (.cons (.var 0) .nil))) (.seq (.ret (.ite (.and (.cmp .Eq (.bi .len (.cons (.var 1) .nil)) (.int 1)) (.cmp .Gt (.idx (.var 1) (.int 0)) (.int 0))) (.idx (.var 1) (.int 0)) .non)) .nil))
def Phi_alike_of : Phi := { fns := [(1, F_crossings_by)] }
def F_alike_of : Fn := mkF 2 1 (semS Phi_alike_of sm_alike_of)
def sm_alike_by : Sm := (.seq (.drop (.call 1 (.cons (.var 0) (.cons (.var 1) .nil)))) (.seq (.ret (.call 0 (.cons (.var 1) .nil))) .nil))
def Phi_alike_by (TB : TBs) : Phi := { fns := [(1, F_alike_of), (2, (F_check_book TB))] }
def F_alike_by (TB : TBs) : Fn := mkF 2 2 (semS (Phi_alike_by TB) sm_alike_by)
def sm_crossings : Sm := (.seq (.drop (.call 1 (.cons (.var 0) (.cons (.var 1) .nil)))) (.seq (.ret (.call 0 (.cons (.var 1) .nil))) .nil))
def Phi_crossings (TB : TBs) : Phi := { fns := [(1, F_crossings_by), (2, (F_check_book TB))] }
def F_crossings (TB : TBs) : Fn := mkF 2 2 (semS (Phi_crossings TB) sm_crossings)
def sm_petals_by : Sm := (.seq (.asg (.nm 1) (.bi .len (.cons (.var 0) .nil))) (.seq (.setLc2 2 (.nm 6) [6, 7] (.rng1 (.cons (.var 1) .nil)) .nil (.nm 7) [7] (.rng2 (.cons (.bin .Add (.var 6) (.int 1)) (.cons (.var 1) .nil))) .nil (.tup (.cons (.var 6) (.cons (.var 7) .nil)))) (.seq (.asg (.nm 3) (.tup .nil)) (.seq (.wh (.cmp .NotEq (.var 2) (.lst .nil)) 4000 (.seq (.new 4 .nil) (.seq (.fo (.nm 5) (.var 2) (.seq (.asg (.nm 8) (.call 0 (.cons (.idx (.var 0) (.idx (.var 5) (.int 0))) (.cons (.idx (.var 0) (.idx (.var 5) (.int 1))) .nil)))) (.seq (.fo (.nm 9) (.rng2 (.cons (.bin .Add (.idx (.var 5) (.neg (.int 1))) (.int 1)) (.cons (.var 1) .nil))) (.seq (.ite (.bi .all (.cons (.lc (.nm 10) [10] (.var 5) .nil (.cmp .Eq (.call 0 (.cons (.idx (.var 0) (.var 10)) (.cons (.idx (.var 0) (.var 9)) .nil))) (.var 8))) .nil)) (.seq (.app 4 (.tupS (.star (.var 5) (.cons (.var 9) .nil)))) .nil) .nil) .nil)) .nil))) (.frz 4 (.seq (.asg (.nm 3) (.ite (.cmp .NotEq (.var 4) (.lst .nil)) (.idx (.var 4) (.int 0)) (.var 3))) (.seq (.asg (.nm 2) (.var 4)) .nil)))))) (.seq (.ret (.var 3)) .nil)))))
def Phi_petals_by : Phi := { fns := [(2, F_common_of)] }
def F_petals_by : Fn := mkF 11 1 (semS Phi_petals_by sm_petals_by)
def sm_greatest_petals : Sm := (.seq (.drop (.call 1 (.cons (.var 0) (.cons (.var 1) .nil)))) (.seq (.ret (.call 0 (.cons (.var 1) .nil))) .nil))
def Phi_greatest_petals (TB : TBs) : Phi := { fns := [(1, F_petals_by), (2, (F_check_book TB))] }
def F_greatest_petals (TB : TBs) : Fn := mkF 2 2 (semS (Phi_greatest_petals TB) sm_greatest_petals)
def sm__law_petals : Sm := (.seq (.asg (.nm 1) (.tup .nil)) (.seq (.fo (.nm 2) (.call 0 (.cons (.bi .len (.cons (.var 0) .nil)) .nil)) (.seq (.ite (.cmp .Gt (.bi .len (.cons (.var 2) .nil)) (.bi .max (.cons (.int 2) (.cons (.bi .len (.cons (.var 1) .nil)) .nil)))) (.seq (.asg (.nm 3) (.lst .nil)) (.seq (.fo (.nm 4) (.rng1 (.cons (.bi .len (.cons (.var 2) .nil)) .nil)) (.seq (.asg (.nm 3) (.bin .Add (.var 3) (.lc (.nm 5) [5] (.rng1 (.cons (.var 4) .nil)) .nil (.call 1 (.cons (.idx (.var 0) (.idx (.var 2) (.var 5))) (.cons (.idx (.var 0) (.idx (.var 2) (.var 4))) .nil)))))) .nil)) (.seq (.asg (.nm 1) (.ite (.cmp .Eq (.cnt (.var 3) (.idx (.var 3) (.int 0))) (.bi .len (.cons (.var 3) .nil))) (.var 2) (.var 1))) .nil))) .nil) .nil)) (.seq (.ret (.var 1)) .nil)))
def Phi__law_petals : Phi := { fns := [(1, F__law_some_of), (2, F__law_meet)] }
def F__law_petals : Fn := mkF 6 1 (semS Phi__law_petals sm__law_petals)
def sm__law_right_k88 : Sm := (.seq (.asg (.nm 1) (.bin .Add (.int 1) (.call 5 (.cons (.var 0) (.cons (.int 5) .nil))))) (.seq (.asg (.nm 2) (.call 6 (.cons (.var 0) (.cons (.var 1) (.cons (.int 6) .nil))))) (.seq (.ite (.cmp .Eq (.call 5 (.cons (.var 0) (.cons (.int 3) .nil))) (.int 0)) (.seq (.asg (.nm 10) (.call 5 (.cons (.var 0) (.cons (.var 1) .nil)))) (.seq (.asg (.nm 2) (.bi .tuple (.cons (.srtSet (.cons (.lc (.nm 12) [12] (.rng1 (.cons (.var 1) .nil)) (.cmp .NotEq (.var 12) (.var 10)) (.bi .tuple (.cons (.srtSetI (.cons (.lst (.cons (.var 10) (.cons (.var 12) .nil))) .nil)) .nil))) .nil)) .nil))) .nil)) .nil) (.seq (.newd 3 false) (.seq (.fo (.nm 4) (.rng1 (.cons (.bi .len (.cons (.var 2) .nil)) .nil)) (.seq (.fo (.nm 11) (.rng1 (.cons (.var 4) .nil)) (.seq (.putd 3 (.bi .len (.cons (.call 1 (.cons (.idx (.var 2) (.var 11)) (.cons (.idx (.var 2) (.var 4)) .nil))) .nil)) (.bl true)) .nil)) .nil)) (.seq (.asg (.nm 5) (.bi .tuple (.cons (.srt .i (.cons (.bi .listK (.cons (.var 3) .nil)) .nil)) .nil))) (.seq (.asg (.nm 6) (.ite (.and (.cmp .Eq (.bi .len (.cons (.var 5) .nil)) (.int 1)) (.cmp .Gt (.idx (.var 5) (.int 0)) (.int 0))) (.idx (.var 5) (.int 0)) .non)) (.seq (.ite (.rep true (.lst (.cons (.call 4 (.cons (.var 1) (.cons (.var 2) .nil))) (.cons (.callK 4 0 2 [1, 0] .nil (.cons (.var 2) (.cons (.var 1) .nil))) .nil))) (.lst (.cons (.var 5) (.cons (.var 5) .nil)))) (.seq (.ret (.bl false)) .nil) .nil) (.seq (.ite (.rep true (.lst (.cons (.call 0 (.cons (.var 1) (.cons (.var 2) .nil))) (.cons (.callK 0 0 2 [1, 0] .nil (.cons (.var 2) (.cons (.var 1) .nil))) .nil))) (.lst (.cons (.var 6) (.cons (.var 6) .nil)))) (.seq (.ret (.bl false)) .nil) .nil) (.seq (.ite (.and (.cmp .IsNot (.var 6) .non) (.cmp .Gt (.bi .len (.cons (.var 2) .nil)) (.var 1))) (.seq (.ret (.bl false)) .nil) .nil) (.seq (.asg (.nm 7) (.call 3 (.cons (.var 1) (.cons (.var 2) .nil)))) (.seq (.ite (.cmp .Eq (.var 7) (.tup .nil)) (.seq (.ret (.cmp .Eq (.call 2 (.cons (.var 2) .nil)) (.tup .nil))) .nil) .nil) (.seq (.asg (.nm 8) (.bi .tuple (.cons (.lc (.nm 4) [4] (.var 7) .nil (.idx (.var 2) (.var 4))) .nil))) (.seq (.asg (.nm 9) (.bi .len (.cons (.call 1 (.cons (.idx (.var 8) (.int 0)) (.cons (.idx (.var 8) (.int 1)) .nil))) .nil))) (.seq (.ret (.cmp .Eq (.call 0 (.cons (.var 1) (.cons (.var 8) .nil))) (.ite (.cmp .Gt (.var 9) (.int 0)) (.var 9) .non))) .nil)))))))))))))))
def Phi__law_right_k88 (TB : TBs) : Phi := { fns := [(2, (F_alike_by TB)), (2, F__law_meet), (1, F__law_petals), (2, (F_greatest_petals TB)), (2, (F_crossings TB)), (2, F__law_take), (3, F__law_book)] }
def F__law_right_k88 (TB : TBs) : Fn := mkF 13 1 (semS (Phi__law_right_k88 TB) sm__law_right_k88)
def sm_law_k88 : Sm := (.seq (.fo (.nm 1) (.rng1 (.cons (.bi .max (.cons (.int 2) (.cons (.bi .min (.cons (.bi .len (.cons (.var 0) .nil)) (.cons (.int 3) .nil))) .nil))) .nil)) (.seq (.asg (.nm 2) (.call 1 (.cons (.var 0) (.cons (.var 1) .nil)))) (.seq (.ite (.not (.bi .all (.cons (.lc (.nm 3) [3] (.rng1 (.cons (.int 15) .nil)) .nil (.call 0 (.cons (.var 2) .nil))) .nil))) (.seq (.ret (.bl false)) .nil) .nil) .nil))) (.seq (.ret (.bl true)) .nil))
def Phi_law_k88 (TB : TBs) : Phi := { fns := [(1, (F__law_right_k88 TB)), (2, F__law_bag)] }
def F_law_k88 (TB : TBs) : Fn := mkF 4 1 (semS (Phi_law_k88 TB) sm_law_k88)
end Pt
set_option maxRecDepth 100000
set_option maxHeartbeats 2000000
/-! Oa: how many things two lots have in common -/
namespace Pt
open PySem PySem.Spec Pv PyProof.Rows
/-- keys as they come, each once -/
def keysF (ks : List Int) (x : Int) : List Int := if x ∈ ks then ks else ks ++ [x]
theorem mem_keysF {x y : Int} {ks : List Int} : y ∈ keysF ks x ↔ y ∈ ks ∨ y = x := by
  unfold keysF
  split
  · constructor
    · exact .inl
    · rintro (h | rfl) <;> assumption
  · simp
theorem nodup_keysF {x : Int} {ks : List Int} (h : ks.Nodup) : (keysF ks x).Nodup := by
  unfold keysF
  split
  · exact h
  · rename_i hx
    rw [List.nodup_append]
    exact ⟨h, by simp, fun a ha b hb => by rw [List.mem_singleton.mp hb]; exact fun e => hx (e ▸ ha)⟩
theorem keys_fold : ∀ (xs ks : List Int), ks.Nodup → (xs.foldl keysF ks).Nodup ∧ ∀ y, y ∈ xs.foldl keysF ks ↔ y ∈ ks ∨ y ∈ xs
  | [], ks, h => ⟨h, by simp⟩
  | x :: xs, ks, h => by
    obtain ⟨a, b⟩ := keys_fold xs (keysF ks x) (nodup_keysF h)
    refine ⟨a, fun y => ?_⟩
    rw [List.foldl_cons, b, mem_keysF, List.mem_cons]
    exact or_assoc
theorem len_keysF (ks : List Int) (x : Int) : (keysF ks x).length ≤ ks.length + 1 := by
  unfold keysF; split <;> simp
theorem len_keys : ∀ (xs ks : List Int), (xs.foldl keysF ks).length ≤ ks.length + xs.length
  | [], ks => by simp
  | x :: xs, ks => by
    have := len_keys xs (keysF ks x)
    have := len_keysF ks x
    rw [List.foldl_cons, List.length_cons]; omega
theorem sort_keys {xs : List Int} {ks : List Int} (hn : ks.Nodup) (hm : ∀ y, y ∈ ks ↔ y ∈ xs) {s : List Int} (hp : s.Perm ks) (hs : s.Pairwise (· ≤ ·)) : s = ascU xs := by
  have nd : s.Nodup := hp.nodup_iff.mpr hn
  have hs2 : s.Pairwise (· < ·) := by
    have := hs.and nd
    exact this.imp fun ⟨h1, h2⟩ => by
      have : _ ≠ _ := h2
      omega
  exact asc_uniq hs2 (ascU_asc xs) fun y => by rw [hp.mem_iff, hm, mem_ascU]
def tru (ks : List Int) : List Pv.D := ks.map fun _ => .bl true
theorem mapM_mem (x : Int) : ∀ ks : List Int, memK false (.int x) (ks.map .int) = decide (x ∈ ks)
  | [] => rfl
  | k :: ks => by
    have e : eqK false (.int x) (.int k) = decide (x = k) := by
      show decide (some (Sum.inl x : L2.Key) = some (Sum.inl k)) = _
      simp
    have ih := mapM_mem x ks
    unfold memK at ih ⊢
    rw [List.map_cons, List.any_cons, ih, e]
    simp
theorem zip_tru (x : Int) : ∀ ks : List Int, ((ks.map D.int).zip (tru ks)).map (fun p => if eqK false (.int x) p.1 then D.bl true else p.2) = tru ks
  | [] => rfl
  | k :: ks => by
    have ih := zip_tru x ks
    unfold tru at ih ⊢
    rw [List.map_cons, List.map_cons, List.zip_cons_cons, List.map_cons, ih]
    congr 1
    cases eqK false (.int x) (.int k) <;> rfl
theorem putL_tru (ks : List Int) (x : Int) : putL false (ks.map .int) (tru ks) (.int x) (.bl true) = ((keysF ks x).map .int, tru (keysF ks x)) := by
  unfold putL keysF
  rw [mapM_mem]
  by_cases h : x ∈ ks
  · rw [decide_eq_true h, if_pos rfl, if_pos h, zip_tru]
  · rw [decide_eq_false h, if_neg (by simp), if_neg h]
    simp [tru]
/-! ### pairs of lots -/
def pairsOf {α : Type} : List α → List (α × α)
  | [] => []
  | x :: xs => (xs.map fun y => (x, y)) ++ pairsOf xs
def cm (p : Lot × Lot) : Int := ((meet p.1 p.2).length : Nat)
/-- the sizes of what two lots have in common, ascending -/
def crs (b : List Lot) : List Int := ascU ((pairsOf b).map cm)
theorem comb2 {b : List Lot} (hb : b.length ≤ 6) : combG [bkD b, .int 2] = some ((pairsOf b).map prD) := by
  match b, hb with
  | [], _ => kernel_rfl
  | [_], _ => kernel_rfl
  | [_, _], _ => kernel_rfl
  | [_, _, _], _ => kernel_rfl
  | [_, _, _, _], _ => kernel_rfl
  | [_, _, _, _, _], _ => kernel_rfl
  | [_, _, _, _, _, _], _ => kernel_rfl
  | _ :: _ :: _ :: _ :: _ :: _ :: _ :: _, h => simp at h
theorem pairs_len {b : List Lot} (hb : b.length ≤ 6) : (pairsOf b).length ≤ 15 := by
  match b, hb with
  | [], _ => decide
  | [_], _ => simp [pairsOf]
  | [_, _], _ => simp [pairsOf]
  | [_, _, _], _ => simp [pairsOf]
  | [_, _, _, _], _ => simp [pairsOf]
  | [_, _, _, _, _], _ => simp [pairsOf]
  | [_, _, _, _, _, _], _ => simp [pairsOf]
  | _ :: _ :: _ :: _ :: _ :: _ :: _ :: _, h => simp at h
section
variable {δ : List Bx}
theorem dloop_eq {st : Pv.D → List Bx → Res (Option (Pv.D × Pv.D))} : ∀ (L : List (Lot × Lot)) (ks : List Int) (δ : List Bx), (∀ p ∈ L, ∀ δ, st (prD p) δ = .ok (some (.int (cm p), .bl true)) δ) → dloop st (L.map prD) (ks.map .int) (tru ks) δ = .ok ((((L.map cm).foldl keysF ks).map .int), tru ((L.map cm).foldl keysF ks)) δ
  | [], ks, δ, _ => rfl
  | p :: L, ks, δ, h => by
    have e : (putO (ks.map .int) (tru ks) (some (.int (cm p), .bl true))) = ((keysF ks (cm p)).map .int, tru (keysF ks (cm p))) := putL_tru ks (cm p)
    simp only [List.map_cons, dloop, h p (List.mem_cons_self ..) δ, Res.bind_ok, e, List.foldl_cons]
    exact dloop_eq L (keysF ks (cm p)) δ fun q hq => h q (List.mem_cons_of_mem _ hq)
theorem srtN_keys (xs : List Int) : srtN (xs.foldl keysF []) = ascU xs := by
  obtain ⟨h1, h2⟩ := keys_fold xs [] .nil
  exact sort_keys h1 (fun y => by rw [h2]; simp) (srtN_perm _) (srtN_asc _)
theorem f_crossings_by {b : List Lot} (hb : b.length ≤ 6) : F_crossings_by [bkD b] δ = .ok (lotI (crs b)) δ := by
  have hl := pairs_len hb
  have hk := len_keys ((pairsOf b).map cm) []
  have e := dloop_eq (st := dstep (.tp [1, 2]) [1, 2] yesT (callF dLen (consA (callO F_common_of 2 (consA (fun ρ δ => ofO (rdSl ρ[1]?) δ) (consA (fun ρ δ => ofO (rdSl ρ[2]?) δ) nilA))) nilA)) (fun x δ => Res.ok (D.bl true) δ) [.v (bkD b), .no, .no]) (pairsOf b) [] δ (fun p hp δ => by
    unfold dstep
    simp [prD, cm, okK, keyD])
  simp only [F_crossings_by, sm_crossings_by, Phi_crossings_by]
  simp [comb2 hb]
  simp [tru] at e
  rw [e]
  have hs : dSortK [.wkd false (((pairsOf b).map cm).foldl keysF [] |>.map D.int) (tru (((pairsOf b).map cm).foldl keysF []))] = some (.lst ((crs b).map .int)) := by
    unfold dSortK
    simp only [dctD, intsD_map']
    rw [if_pos (by simp at hk ⊢; omega), srtN_keys]; rfl
  simp [tru] at hs
  simp [hs]
end
end Pt
set_option maxRecDepth 100000
set_option maxHeartbeats 4000000
/-! Ob: petals -/
namespace Pt
open PySem PySem.Spec Pv PyProof.Rows
def gB (b : List Lot) (k : Int) : Lot := b.getD k.toNat []
def coreB (b : List Lot) (s : Lot) : Lot := meet (gB b (s.headD 0)) (gB b (s.getD 1 0))
def okAt (b : List Lot) (s : Lot) (at_ : Int) : Bool := s.all fun own => decide (meet (gB b own) (gB b at_) = coreB b s)
def rgT (a m : Int) : List Int := (List.range (m - a).toNat).map fun i : Nat => a + i
theorem mem_rgT {a m x : Int} : x ∈ rgT a m ↔ a ≤ x ∧ x < m := by
  simp only [rgT, List.mem_map, List.mem_range]
  constructor
  · rintro ⟨i, h, rfl⟩; omega
  · rintro ⟨h1, h2⟩; exact ⟨(x - a).toNat, by omega, by omega⟩
def extB (b : List Lot) (s : Lot) : List Lot := ((rgT (s.getLastD 0 + 1) b.length).filter (okAt b s)).map fun x => s ++ [x]
def nextF (b : List Lot) (F : List Lot) : List Lot := F.flatMap (extB b)
/-- a flower of these places -/
structure Sun (b : List Lot) (s : Lot) : Prop where
  ok : LotOk b.length s
  two : 2 ≤ s.length
  same : ∀ i ∈ s, ∀ j ∈ s, i < j → meet (gB b i) (gB b j) = coreB b s
theorem last_max {s : Lot} (h : s.Pairwise (· < ·)) (hs : s ≠ []) : ∀ x ∈ s, x ≤ s.getLastD 0 := by
  intro x hx
  rw [List.getLastD_eq_getLast?, List.getLast?_eq_some_getLast hs]
  show x ≤ s.getLast hs
  have e := List.dropLast_concat_getLast hs
  rw [← e] at hx h
  rcases List.mem_append.mp hx with hx | hx
  · have := (List.pairwise_append.mp h).2.2 x hx _ (List.mem_singleton.mpr rfl)
    omega
  · rw [List.mem_singleton.mp hx]; exact Int.le_refl _
theorem sun_ext {b : List Lot} {s : Lot} (h : Sun b s) {x : Int} (hx : x ∈ rgT (s.getLastD 0 + 1) b.length) (ho : okAt b s x = true) : Sun b (s ++ [x]) := by
  have hne : s ≠ [] := fun e => by have := h.two; rw [e] at this; simp at this
  have hm := last_max h.ok.1 hne
  have hx2 := mem_rgT.mp hx
  have hlt : ∀ y ∈ s, y < x := fun y hy => by have := hm y hy; omega
  have hcore : coreB b (s ++ [x]) = coreB b s := by
    unfold coreB
    match s, h.two with
    | y :: z :: r, _ => rfl
  refine ⟨⟨?_, fun y hy => ?_⟩, by rw [List.length_append]; have := h.two; omega, fun i hi j hj hij => ?_⟩
  · rw [List.pairwise_append]
    exact ⟨h.ok.1, by simp, fun y hy z hz => by rw [List.mem_singleton.mp hz]; exact hlt y hy⟩
  · rcases List.mem_append.mp hy with hy | hy
    · exact h.ok.2 y hy
    · rw [List.mem_singleton.mp hy]
      have h0 := h.ok.2 _ (List.mem_of_getLast? (show s.getLast? = some (s.getLast hne) from List.getLast?_eq_some_getLast hne))
      have : s.getLastD 0 = s.getLast hne := by rw [List.getLastD_eq_getLast?, List.getLast?_eq_some_getLast hne]; rfl
      omega
  · rw [hcore]
    rcases List.mem_append.mp hi with hi | hi
    · rcases List.mem_append.mp hj with hj | hj
      · exact h.same i hi j hj hij
      · rw [List.mem_singleton.mp hj]
        have := List.all_eq_true.mp ho i hi
        simpa using this
    · rw [List.mem_singleton.mp hi] at hij
      rcases List.mem_append.mp hj with hj | hj
      · have := hlt j hj; omega
      · rw [List.mem_singleton.mp hj] at hij; omega
theorem mem_next {b F : List Lot} {s : Lot} : s ∈ nextF b F ↔ ∃ r ∈ F, ∃ x ∈ rgT (r.getLastD 0 + 1) b.length, okAt b r x = true ∧ s = r ++ [x] := by
  unfold nextF extB
  rw [List.mem_flatMap]
  constructor
  · rintro ⟨r, hr, hs⟩
    obtain ⟨x, hx, rfl⟩ := List.mem_map.mp hs
    obtain ⟨h1, h2⟩ := List.mem_filter.mp hx
    exact ⟨r, hr, x, h1, h2, rfl⟩
  · rintro ⟨r, hr, x, h1, h2, rfl⟩
    exact ⟨r, hr, List.mem_map.mpr ⟨x, List.mem_filter.mpr ⟨h1, h2⟩, rfl⟩⟩
theorem next_sun {b F : List Lot} {t : Nat} (h : ∀ s ∈ F, Sun b s ∧ s.length = t) : ∀ s ∈ nextF b F, Sun b s ∧ s.length = t + 1 := by
  intro s hs
  obtain ⟨r, hr, x, h1, h2, rfl⟩ := mem_next.mp hs
  refine ⟨sun_ext (h r hr).1 h1 h2, ?_⟩
  rw [List.length_append, (h r hr).2]; rfl
theorem next_len {b F : List Lot} (hb : b.length ≤ 6) (h : ∀ s ∈ F, Sun b s) : (nextF b F).length ≤ 6 * F.length := by
  have one : ∀ s ∈ F, (extB b s).length ≤ 6 := fun s hs => by
    unfold extB
    rw [List.length_map]
    refine Nat.le_trans (List.length_filter_le _ _) ?_
    unfold rgT
    rw [List.length_map, List.length_range]
    have h0 := (h s hs).ok.2
    have hne : s ≠ [] := fun e => by have := (h s hs).two; rw [e] at this; simp at this
    have h1 := h0 _ (List.getLast_mem hne)
    have : s.getLastD 0 = s.getLast hne := by rw [List.getLastD_eq_getLast?, List.getLast?_eq_some_getLast hne]; rfl
    omega
  unfold nextF
  clear h
  induction F with
  | nil => simp
  | cons s F ih =>
    rw [List.flatMap_cons, List.length_append, List.length_cons]
    have h1 := one s (List.mem_cons_self ..)
    have h2 := ih fun r hr => one r (List.mem_cons_of_mem _ hr)
    omega
/-- the pairs of places -/
def pairF (m : Int) : List Lot := (rg m).flatMap fun i => (rgT (i + 1) m).map fun j => [i, j]
theorem mem_pairF {m : Int} {s : Lot} : s ∈ pairF m ↔ ∃ i j, 0 ≤ i ∧ i < j ∧ j < m ∧ s = [i, j] := by
  unfold pairF
  rw [List.mem_flatMap]
  constructor
  · rintro ⟨i, hi, hs⟩
    obtain ⟨j, hj, rfl⟩ := List.mem_map.mp hs
    have h1 := mem_rg.mp hi
    have h2 := mem_rgT.mp hj
    exact ⟨i, j, h1.1, by omega, h2.2, rfl⟩
  · rintro ⟨i, j, h1, h2, h3, rfl⟩
    exact ⟨i, mem_rg.mpr ⟨h1, by omega⟩, List.mem_map.mpr ⟨j, mem_rgT.mpr ⟨by omega, h3⟩, rfl⟩⟩
theorem pair_sun {b : List Lot} : ∀ s ∈ pairF b.length, Sun b s ∧ s.length = 2 := by
  intro s hs
  obtain ⟨i, j, h1, h2, h3, rfl⟩ := mem_pairF.mp hs
  refine ⟨⟨⟨by simp [h2], fun x hx => ?_⟩, by simp, fun x hx y hy hxy => ?_⟩, rfl⟩
  · simp only [List.mem_cons, List.not_mem_nil, or_false] at hx
    rcases hx with rfl | rfl <;> omega
  · simp only [List.mem_cons, List.not_mem_nil, or_false] at hx hy
    rcases hx with rfl | rfl <;> rcases hy with rfl | rfl
    · omega
    · rfl
    · omega
    · omega
/-- no flower of three -/
def NoT (b : List Lot) : Prop := ∀ i j k : Int, 0 ≤ i → i < j → j < k → k < (b.length : Nat) → meet (gB b i) (gB b j) = meet (gB b i) (gB b k) → meet (gB b i) (gB b j) = meet (gB b j) (gB b k) → False
theorem noT_of {b : List Lot} (h : nextF b (pairF b.length) = []) : NoT b := by
  intro i j k h0 h1 h2 h3 e1 e2
  have : ([i, j] ++ [k] : Lot) ∈ nextF b (pairF b.length) := by
    refine mem_next.mpr ⟨[i, j], mem_pairF.mpr ⟨i, j, h0, h1, by omega, rfl⟩, k, mem_rgT.mpr ⟨?_, h3⟩, ?_, rfl⟩
    · show j + 1 ≤ k; omega
    · show ([i, j].all fun own => decide (meet (gB b own) (gB b k) = meet (gB b i) (gB b j))) = true
      simp [e1.symm, ← e2]
  rw [h] at this
  cases this
theorem pok_len_any {m : Nat} {s : Lot} (h : LotOk m s) : s.length ≤ m := by
  have hsub : s.Sublist (rg m) := asc_sub h.1 (by
    unfold rg
    rw [List.pairwise_map]
    exact (List.pairwise_lt_range).imp fun h => by omega) fun x hx => mem_rg.mpr (h.2 x hx)
  have := hsub.length_le
  simpa [rg] using this
theorem flatMap_congr' {α β : Type} {f g : α → List β} : ∀ {xs : List α}, (∀ x ∈ xs, f x = g x) → xs.flatMap f = xs.flatMap g
  | [], _ => rfl
  | x :: xs, h => by
    rw [List.flatMap_cons, List.flatMap_cons, h x (List.mem_cons_self ..), flatMap_congr' fun y hy => h y (List.mem_cons_of_mem _ hy)]
/-! ### the walk -/
section
variable {δ : List Bx}
theorem floop_exK {α S : Type} {p : Pat} {body : RS} {f : α → Pv.D} (I : Nat → S → List Sl → Prop) (step : S → α → S) (K : Nat) : ∀ {xs : List α} {k : Nat} {r : S} {ρ : List Sl}, k + xs.length ≤ K → I k r ρ →
    (∀ x ∈ xs, ∀ k r ρ, k < K → I k r ρ → ∃ ρ2, bindP p (f x) ρ = some ρ2 ∧ ∃ ρ', body ρ2 δ = .ok (.nx, ρ') δ ∧ I (k + 1) (step r x) ρ') → ∃ ρ', floop p body (xs.map f) ρ δ = .ok (.nx, ρ') δ ∧ I (k + xs.length) (xs.foldl step r) ρ'
  | [], k, r, ρ, _, h0, _ => ⟨ρ, rfl, h0⟩
  | x :: xs, k, r, ρ, hK, h0, h => by
    rw [List.length_cons] at hK
    obtain ⟨ρ2, e1, ρ', e2, h1⟩ := h x (List.mem_cons_self ..) k r ρ (by omega) h0
    obtain ⟨ρ3, e3, h3⟩ := floop_exK I step K (xs := xs) (k := k + 1) (by omega) h1 fun y hy => h y (List.mem_cons_of_mem _ hy)
    refine ⟨ρ3, ?_, by rw [List.length_cons, show k + (xs.length + 1) = k + 1 + xs.length by omega]; exact h3⟩
    simp only [List.map_cons, floop, e1, e2, Res.bind_ok]
    exact e3
theorem rng2_T {a m : Int} (h : -1000000 ≤ a ∧ a ≤ 1000000) (h2 : -1000000 ≤ m ∧ m ≤ 1000000) : rng2 [.int a, .int m] = some ((rgT a m).map .int) := by
  have h3 : inRng a = true := by simp only [inRng, Bool.and_eq_true, decide_eq_true_eq]; omega
  have h4 : inRng m = true := by simp only [inRng, Bool.and_eq_true, decide_eq_true_eq]; omega
  have h5 : (m - a).toNat ≤ cap := by unfold cap; omega
  simp [rng2, h3, h4, h5, rngL, rgT]
def smAt : Sm := (.seq (.ite (.bi .all (.cons (.lc (.nm 10) [10] (.var 5) .nil (.cmp .Eq (.call 0 (.cons (.idx (.var 0) (.var 10)) (.cons (.idx (.var 0) (.var 9)) .nil))) (.var 8))) .nil)) (.seq (.app 4 (.tupS (.star (.var 5) (.cons (.var 9) .nil)))) .nil) .nil) .nil)
theorem at_turn {b : List Lot} {s : Lot} (hs : Sun b s) {x : Int} (hx : x ∈ rgT (s.getLastD 0 + 1) b.length) (s1 s2 s3 s6 s7 s10 : Sl) (acc : List Lot) (ha : acc.length < cap) (hb : b.length ≤ 6) :
    semS Phi_petals_by smAt [.v (bkD b), s1, s2, s3, .own (acc.map lotI), .v (lotI s), s6, s7, .v (lotI (coreB b s)), .v (.int x), s10] δ = .ok (.nx, [.v (bkD b), s1, s2, s3, .own ((if okAt b s x then acc ++ [s ++ [x]] else acc).map lotI), .v (lotI s), s6, s7, .v (lotI (coreB b s)), .v (.int x), s10]) δ := by
  have hsx := hs.ok.2
  have hne : s ≠ [] := fun e => by have := hs.two; rw [e] at this; simp at this
  have hx2 := mem_rgT.mp hx
  have hx0 : 0 ≤ x := by
    have := hsx _ (List.getLast_mem hne)
    have : s.getLastD 0 = s.getLast hne := by rw [List.getLastD_eq_getLast?, List.getLast?_eq_some_getLast hne]; rfl
    omega
  have idx : ∀ k : Int, 0 ≤ k → k < (b.length : Nat) → ∀ δ, idxK (bkD b) (.int k) δ = .ok (lotI (gB b k)) δ := fun k h0 h1 δ => by
    show ofO (L2.atI (b.map lotI) k) δ = _
    rw [atI_lots h0 h1]; rfl
  simp only [smAt, Phi_petals_by]
  simp
  rw [cloopM_eq (h := fun own => some (.bl (decide (meet (gB b own) (gB b x) = coreB b s))))]
  · rw [filterMap_some']
    have ho : (s.all fun own => decide (meet (gB b own) (gB b x) = coreB b s)) = okAt b s x := rfl
    have hl : (s.length + 1 : Nat) ≤ cap := by have := pok_len_any hs.ok; unfold cap; omega
    simp [ho, Function.comp_def]
    cases e : okAt b s x with
    | false => simp [e]
    | true =>
      have et : D.tup (s.map D.int ++ [D.int x]) = lotI (s ++ [x]) := by rw [← tup_int, List.map_append]; rfl
      simp [e, r_app, ownAt, ha, hl, et]
  · intro own ho δ
    have h1 := hsx own ho
    simp [idx own h1.1 h1.2, idx x hx0 hx2.2]
def smSome : Sm := (.seq (.asg (.nm 8) (.call 0 (.cons (.idx (.var 0) (.idx (.var 5) (.int 0))) (.cons (.idx (.var 0) (.idx (.var 5) (.int 1))) .nil)))) (.seq (.fo (.nm 9) (.rng2 (.cons (.bin .Add (.idx (.var 5) (.neg (.int 1))) (.int 1)) (.cons (.var 1) .nil))) smAt) .nil))
theorem fold_ext (b : List Lot) (s : Lot) : ∀ (xs : List Int) (acc : List Lot), xs.foldl (fun acc x => if okAt b s x then acc ++ [s ++ [x]] else acc) acc = acc ++ (xs.filter (okAt b s)).map fun x => s ++ [x]
  | [], acc => by simp
  | x :: xs, acc => by
    rw [List.foldl_cons, fold_ext b s xs]
    cases h : okAt b s x <;> simp [h]
theorem some_turn {b : List Lot} (hb : b.length ≤ 6) {s : Lot} (hs : Sun b s) (s2 s3 s6 s7 s8 s9 s10 : Sl) (acc : List Lot) (ha : acc.length + 6 < cap) :
    ∃ t8 t9, semS Phi_petals_by smSome [.v (bkD b), .v (.int (b.length : Nat)), s2, s3, .own (acc.map lotI), .v (lotI s), s6, s7, s8, s9, s10] δ = .ok (.nx, [.v (bkD b), .v (.int (b.length : Nat)), s2, s3, .own ((acc ++ extB b s).map lotI), .v (lotI s), s6, s7, t8, t9, s10]) δ := by
  have hsx := hs.ok.2
  have hne : s ≠ [] := fun e => by have := hs.two; rw [e] at this; simp at this
  have hlast : s.getLastD 0 = s.getLast hne := by rw [List.getLastD_eq_getLast?, List.getLast?_eq_some_getLast hne]; rfl
  have hl := hsx _ (List.getLast_mem hne)
  rw [← hlast] at hl
  have idx : ∀ k : Int, 0 ≤ k → k < (b.length : Nat) → idxK (bkD b) (.int k) δ = .ok (lotI (gB b k)) δ := fun k h0 h1 => by
    show ofO (L2.atI (b.map lotI) k) δ = _
    rw [atI_lots h0 h1]; rfl
  have i0 : idxK (lotI s) (.int 0) δ = .ok (.int (s.headD 0)) δ := idx0_lot hne
  have i1 : idxK (lotI s) (.int 1) δ = .ok (.int (s.getD 1 0)) δ := by
    match s, hs.two with
    | y :: z :: r, _ =>
      show ofO (L2.atI (D.int y :: D.int z :: r.map .int) 1) δ = _
      rw [atI_1]; rfl
  have il : idxK (lotI s) (.int (-1)) δ = .ok (.int (s.getLastD 0)) δ := by
    have e := List.dropLast_concat_getLast hne
    show ofO (L2.atI (s.map D.int) (-1)) δ = _
    rw [hlast]
    conv => lhs; rw [← e, List.map_append]
    rw [show [s.getLast hne].map D.int = [D.int (s.getLast hne)] from rfl, atI_last]; rfl
  have m0 : s.headD 0 ∈ s := by
    match s, hs.two with
    | y :: z :: r, _ => simp
  have m1 : s.getD 1 0 ∈ s := by
    match s, hs.two with
    | y :: z :: r, _ => simp
  have h0 := hsx _ m0
  have h1 := hsx _ m1
  have hlen : (rgT (s.getLastD 0 + 1) b.length).length ≤ 6 := by
    unfold rgT; rw [List.length_map, List.length_range]; omega
  have hext : extB b s = ((rgT (s.getLastD 0 + 1) b.length).filter (okAt b s)).map fun x => s ++ [x] := rfl
  have step : ∀ x ∈ rgT (s.getLastD 0 + 1) b.length, ∀ (k : Nat) (a : List Lot) (ρ : List Sl), k < 6 → (∃ s9, ρ = [.v (bkD b), .v (.int (b.length : Nat)), s2, s3, .own (a.map lotI), .v (lotI s), s6, s7, .v (lotI (coreB b s)), s9, s10] ∧ a.length ≤ acc.length + k) →
      ∃ ρ2, bindP (.nm 9) (.int x) ρ = some ρ2 ∧ ∃ ρ', semS Phi_petals_by smAt ρ2 δ = .ok (.nx, ρ') δ ∧ ∃ s9, ρ' = [.v (bkD b), .v (.int (b.length : Nat)), s2, s3, .own ((if okAt b s x then a ++ [s ++ [x]] else a).map lotI), .v (lotI s), s6, s7, .v (lotI (coreB b s)), s9, s10] ∧ (if okAt b s x then a ++ [s ++ [x]] else a).length ≤ acc.length + (k + 1) := by
    rintro x hx k a ρ hk ⟨s9, rfl, hla⟩
    refine ⟨_, rfl, _, at_turn hs hx _ _ _ _ _ _ a (by omega) hb, _, rfl, ?_⟩
    split
    · rw [List.length_append]; simp; omega
    · omega
  obtain ⟨ρ', e, t9, rfl, _⟩ := floop_exK (p := .nm 9) (f := D.int) (body := semS Phi_petals_by smAt) (δ := δ) (fun k (a : List Lot) ρ => ∃ s9, ρ = [.v (bkD b), .v (.int (b.length : Nat)), s2, s3, .own (a.map lotI), .v (lotI s), s6, s7, .v (lotI (coreB b s)), s9, s10] ∧ a.length ≤ acc.length + k)
    (fun a x => if okAt b s x then a ++ [s ++ [x]] else a) 6 (xs := rgT (s.getLastD 0 + 1) b.length) (k := 0) (r := acc) (ρ := [.v (bkD b), .v (.int (b.length : Nat)), s2, s3, .own (acc.map lotI), .v (lotI s), s6, s7, .v (lotI (coreB b s)), s9, s10]) (by omega) ⟨s9, rfl, Nat.le_refl _⟩ step
  rw [fold_ext, ← hext] at e
  clear step hext hlen
  obtain ⟨L, hL⟩ : ∃ L, s.getLastD 0 = L := ⟨_, rfl⟩
  rw [hL] at e il hl
  refine ⟨.v (lotI (coreB b s)), t9, ?_⟩
  have ec : lotI (meet (gB b (s.headD 0)) (gB b (s.getD 1 0))) = lotI (coreB b s) := rfl
  simp only [smSome]
  simp only [s_seq, s_asg, s_fo, r_seqS2, r_asg, m_call, valS_d, Phi_petals_by, r_callP0, r_callO, m_cons_a, m_nil_a, r_consA, r_nilA, m_idx, r_idxF, m_var, m_int, List.getElem?_cons_zero, List.getElem?_cons_succ, rdSl_v, ofO_some, Res.bind_ok, i0, i1, idx _ h0.1 h0.2, idx _ h1.1 h1.2]
  simp only [List.length_cons, List.length_nil, List.all_cons, List.all_nil, strong_lot, Bool.and_self, and_self, if_true, f_common_of, Res.bind_ok, ec]
  simp only [bindP_nm, strong_lot, List.length_cons, List.length_nil, Nat.reduceAdd, Nat.reduceLT, decide_true, Bool.and_self, if_true, nxO_some, Res.bind_ok, thenK, List.set_cons_succ, List.set_cons_zero]
  simp [il, rng2_T (a := L + 1) (m := (b.length : Int)) (by omega) (by omega)]
  simp only [Phi_petals_by] at e
  rw [e]
  simp
def smWb : Sm := (.seq (.new 4 .nil) (.seq (.fo (.nm 5) (.var 2) smSome) (.frz 4 (.seq (.asg (.nm 3) (.ite (.cmp .NotEq (.var 4) (.lst .nil)) (.idx (.var 4) (.int 0)) (.var 3))) (.seq (.asg (.nm 2) (.var 4)) .nil)))))
theorem ext_len {b : List Lot} (hb : b.length ≤ 6) {s : Lot} (h : Sun b s) : (extB b s).length ≤ 6 := by
  have := next_len hb (F := [s]) (fun r hr => by rw [List.mem_singleton.mp hr]; exact h)
  simpa [nextF] using this
theorem front_loop {b : List Lot} (hb : b.length ≤ 6) {F : List Lot} (hF : ∀ s ∈ F, Sun b s) (hl : 6 * F.length + 6 < cap) (s2 s3 s5 s6 s7 s8 s9 s10 : Sl) :
    ∃ t5 t8 t9, floop (.nm 5) (semS Phi_petals_by smSome) (F.map lotI) [.v (bkD b), .v (.int (b.length : Nat)), s2, s3, .own [], s5, s6, s7, s8, s9, s10] δ = .ok (.nx, [.v (bkD b), .v (.int (b.length : Nat)), s2, s3, .own ((nextF b F).map lotI), t5, s6, s7, t8, t9, s10]) δ := by
  have step : ∀ x ∈ F, ∀ (k : Nat) (a : List Lot) (ρ : List Sl), k < F.length → (∃ s5 s8 s9, ρ = [.v (bkD b), .v (.int (b.length : Nat)), s2, s3, .own (a.map lotI), s5, s6, s7, s8, s9, s10] ∧ a.length ≤ 6 * k) →
      ∃ ρ2, bindP (.nm 5) (lotI x) ρ = some ρ2 ∧ ∃ ρ', semS Phi_petals_by smSome ρ2 δ = .ok (.nx, ρ') δ ∧ ∃ s5 s8 s9, ρ' = [.v (bkD b), .v (.int (b.length : Nat)), s2, s3, .own ((a ++ extB b x).map lotI), s5, s6, s7, s8, s9, s10] ∧ (a ++ extB b x).length ≤ 6 * (k + 1) := by
    rintro x hx k a ρ hk ⟨s5, s8, s9, rfl, hla⟩
    obtain ⟨t8, t9, e⟩ := some_turn (δ := δ) hb (hF x hx) s2 s3 s6 s7 s8 s9 s10 a (by omega)
    refine ⟨_, rfl, _, e, _, _, _, rfl, ?_⟩
    have := ext_len hb (hF x hx)
    rw [List.length_append]; omega
  obtain ⟨ρ', e, t5, t8, t9, rfl, _⟩ := floop_exK (p := .nm 5) (f := lotI) (body := semS Phi_petals_by smSome) (δ := δ) (fun k (a : List Lot) ρ => ∃ s5 s8 s9, ρ = [.v (bkD b), .v (.int (b.length : Nat)), s2, s3, .own (a.map lotI), s5, s6, s7, s8, s9, s10] ∧ a.length ≤ 6 * k)
    (fun a x => a ++ extB b x) F.length (xs := F) (k := 0) (r := []) (ρ := [.v (bkD b), .v (.int (b.length : Nat)), s2, s3, .own [], s5, s6, s7, s8, s9, s10]) (by omega) ⟨s5, s8, s9, rfl, by simp⟩ step
  rw [foldl_app, List.nil_append] at e
  exact ⟨t5, t8, t9, e⟩
theorem wb_turn {b : List Lot} (hb : b.length ≤ 6) {F : List Lot} (hF : ∀ s ∈ F, Sun b s) (hl : 6 * F.length + 6 < cap) (best : Lot) (s4 s5 s6 s7 s8 s9 s10 : Sl) :
    ∃ t5 t8 t9, semS Phi_petals_by smWb [.v (bkD b), .v (.int (b.length : Nat)), .v (.lst (F.map lotI)), .v (lotI best), s4, s5, s6, s7, s8, s9, s10] δ = .ok (.nx, [.v (bkD b), .v (.int (b.length : Nat)), .v (.lst ((nextF b F).map lotI)), .v (lotI ((nextF b F).headD best)), .v (.lst ((nextF b F).map lotI)), t5, s6, s7, t8, t9, s10]) δ := by
  obtain ⟨t5, t8, t9, e⟩ := front_loop (δ := δ) hb hF hl (.v (.lst (F.map lotI))) (.v (lotI best)) s5 s6 s7 s8 s9 s10
  refine ⟨t5, t8, t9, ?_⟩
  simp [smWb]
  rw [e]
  cases h : nextF b F with
  | nil => simp [r_frz, ownAt]
  | cons x L =>
    have ok1 : okL 39 (lotI x :: L.map lotI) = true := okL_lots 38 (x :: L)
    simp at ok1
    simp [r_frz, ownAt, ok1, eqL_cn]
def tWb : RX Bool := (sem Phi_petals_by (.cmp .NotEq (.var 2) (.lst .nil))).t
theorem tWb_nil (s0 s1 s3 s4 s5 s6 s7 s8 s9 s10 : Sl) : tWb [s0, s1, .v (.lst []), s3, s4, s5, s6, s7, s8, s9, s10] δ = .ok false δ := by
  simp [tWb]
theorem tWb_cons (x : Lot) (F : List Lot) (s0 s1 s3 s4 s5 s6 s7 s8 s9 s10 : Sl) : tWb [s0, s1, .v (.lst ((x :: F).map lotI)), s3, s4, s5, s6, s7, s8, s9, s10] δ = .ok true δ := by
  have ok1 : okL 39 (lotI x :: F.map lotI) = true := okL_lots 38 (x :: F)
  simp at ok1
  simp [tWb, ok1, eqL_cn]
theorem wh_petals {b : List Lot} (hb : b.length ≤ 6) : ∀ (n t : Nat) (F : List Lot) (best : Lot) (s4 s5 s6 s7 s8 s9 s10 : Sl), 8 ≤ t + n → 1 ≤ n → (∀ s ∈ F, Sun b s ∧ s.length = t) → F.length ≤ 6 ^ t →
    ∃ best' t4 t5 t6 t7 t8 t9 t10, whS tWb (semS Phi_petals_by smWb) n [.v (bkD b), .v (.int (b.length : Nat)), .v (.lst (F.map lotI)), .v (lotI best), s4, s5, s6, s7, s8, s9, s10] δ = .ok (.nx, [.v (bkD b), .v (.int (b.length : Nat)), .v (.lst []), .v (lotI best'), t4, t5, t6, t7, t8, t9, t10]) δ ∧
      ((best' = best ∧ nextF b F = []) ∨ (Sun b best' ∧ 3 ≤ best'.length))
  | 0, _, _, _, _, _, _, _, _, _, _, _, h1, _, _ => absurd h1 (by omega)
  | n + 1, t, [], best, s4, s5, s6, s7, s8, s9, s10, _, _, _, _ => by
    refine ⟨best, s4, s5, s6, s7, s8, s9, s10, ?_, .inl ⟨rfl, rfl⟩⟩
    unfold whS
    rw [List.map_nil, tWb_nil]
    rfl
  | n + 1, t, x :: F, best, s4, s5, s6, s7, s8, s9, s10, h8, _, hF, hl => by
    have hx := hF x (List.mem_cons_self ..)
    have hxl := pok_len_any hx.1.ok
    have ht : t ≤ 6 := by omega
    have hsix : 6 ^ t ≤ 6 ^ 6 := Nat.pow_le_pow_right (by omega) ht
    have hlen := next_len hb (F := x :: F) fun s hs => (hF s hs).1
    obtain ⟨t5, t8, t9, e⟩ := wb_turn (δ := δ) hb (F := x :: F) (fun s hs => (hF s hs).1) (by unfold cap; omega) best s4 s5 s6 s7 s8 s9 s10
    obtain ⟨best', u4, u5, u6, u7, u8, u9, u10, e2, hr⟩ := wh_petals hb n (t + 1) (nextF b (x :: F)) ((nextF b (x :: F)).headD best) (.v (.lst ((nextF b (x :: F)).map lotI))) t5 s6 s7 t8 t9 s10 (by omega) (by have := hx.1.two; omega) (next_sun hF) (by rw [Nat.pow_succ]; omega)
    refine ⟨best', u4, u5, u6, u7, u8, u9, u10, ?_, ?_⟩
    · unfold whS
      rw [tWb_cons]
      simp only [Res.bind_ok, if_true, e]
      exact e2
    · rcases hr with ⟨h1, h2⟩ | h
      · cases hn : nextF b (x :: F) with
        | nil =>
          rw [hn] at h1
          exact .inl ⟨h1, rfl⟩
        | cons y L =>
          rw [hn] at h1
          have := next_sun hF y (by rw [hn]; exact List.mem_cons_self ..)
          have h1' : best' = y := h1
          rw [h1']
          exact .inr ⟨this.1, by have := hx.1.two; omega⟩
      · exact .inr h
theorem pairF_len {m : Nat} (hm : m ≤ 6) : (pairF (m : Nat)).length ≤ 36 := by
  have : ∀ m ∈ List.range 7, (pairF (m : Nat)).length ≤ 36 := by decide +kernel
  exact this m (by simp; omega)
theorem sm_petals_eq : sm_petals_by = (.seq (.asg (.nm 1) (.bi .len (.cons (.var 0) .nil))) (.seq (.setLc2 2 (.nm 6) [6, 7] (.rng1 (.cons (.var 1) .nil)) .nil (.nm 7) [7] (.rng2 (.cons (.bin .Add (.var 6) (.int 1)) (.cons (.var 1) .nil))) .nil (.tup (.cons (.var 6) (.cons (.var 7) .nil)))) (.seq (.asg (.nm 3) (.tup .nil)) (.seq (.wh (.cmp .NotEq (.var 2) (.lst .nil)) 4000 smWb) (.seq (.ret (.var 3)) .nil))))) := rfl
theorem f_petals_by {b : List Lot} (hb : b.length ≤ 6) : ∃ p : Lot, F_petals_by [bkD b] δ = .ok (lotI p) δ ∧ ((p = [] ∧ NoT b) ∨ (Sun b p ∧ 3 ≤ p.length)) := by
  have hpl := pairF_len hb
  obtain ⟨p, t4, t5, t6, t7, t8, t9, t10, e, hr⟩ := wh_petals (δ := δ) hb 4000 2 (pairF b.length) [] .no .no .no .no .no .no .no (by omega) (by omega) pair_sun (by omega)
  refine ⟨p, ?_, ?_⟩
  · have hfr : ∀ i ∈ rg b.length, 0 ≤ i ∧ i < (b.length : Int) := fun i hi => mem_rg.mp hi
    have e2 : cloop2M (fun x δ => cstep2 (.nm 6) [6, 7] yesT (itA rng2 (consA (bin2 dAdd (fun ρ δ => ofO (rdSl ρ[6]?) δ) (fun x δ => Res.ok (D.int 1) δ)) (consA (fun ρ δ => ofO (rdSl ρ[1]?) δ) nilA))) (.nm 7) [7] yesT (tupF (consA (fun ρ δ => ofO (rdSl ρ[6]?) δ) (consA (fun ρ δ => ofO (rdSl ρ[7]?) δ) nilA))) [.v (bkD b), .v (.int (b.length : Nat)), .no, .no, .no, .no, .no, .no, .no, .no, .no] (.int x) δ) (rg b.length) δ = .ok ((pairF b.length).map lotI) δ := by
      have st : ∀ x ∈ rg b.length, ∀ δ, cstep2 (.nm 6) [6, 7] yesT (itA rng2 (consA (bin2 dAdd (fun ρ δ => ofO (rdSl ρ[6]?) δ) (fun x δ => Res.ok (D.int 1) δ)) (consA (fun ρ δ => ofO (rdSl ρ[1]?) δ) nilA))) (.nm 7) [7] yesT (tupF (consA (fun ρ δ => ofO (rdSl ρ[6]?) δ) (consA (fun ρ δ => ofO (rdSl ρ[7]?) δ) nilA))) [.v (bkD b), .v (.int (b.length : Nat)), .no, .no, .no, .no, .no, .no, .no, .no, .no] (.int x) δ = .ok ((rgT (x + 1) b.length).map fun j => lotI [x, j]) δ := fun x hx δ => by
        have := hfr x hx
        have cp2 : 2 ≤ cap := by unfold cap; omega
        have hl : ∀ j : Int, D.tup [D.int x, D.int j] = lotI [x, j] := fun j => rfl
        simp [rng2_T (a := x + 1) (m := (b.length : Int)) (by omega) (by omega), cp2, hl]
        try rw [filterMap_some']
        try rfl
      rw [cloop2M_congr st, cloop2M_ok]
      congr 1
      unfold pairF
      rw [List.map_flatMap]
      refine flatMap_congr' fun x hx => ?_
      rw [List.map_map]; rfl
    have hpc : ((pairF b.length).map lotI).length ≤ cap := by rw [List.length_map]; unfold cap; omega
    have hpc2 : (pairF b.length).length ≤ cap := by unfold cap; omega
    simp [tWb, lotI_nil] at e
    simp only [F_petals_by, sm_petals_eq]
    simp [rng1_of (n := (b.length : Int)) (by omega), -r_cstep2]
    rw [e2]
    simp [hpc2, Res.noer]
    rw [e]
    simp
  · rcases hr with ⟨h1, h2⟩ | h
    · exact .inl ⟨h1, noT_of h2⟩
    · exact .inr h
end
end Pt
set_option maxRecDepth 100000
set_option maxHeartbeats 4000000
/-! Oc: the law's petals -/
namespace Pt
open PySem PySem.Spec Pv PyProof.Rows
def lI (l : Lot) (j : Int) : Int := l.getD j.toNat 0
def mtK (b : List Lot) (l : Lot) (k : Int) : List Lot := (rg k).map fun j => meet (gB b (lI l j)) (gB b (lI l k))
def mt (b : List Lot) (l : Lot) : List Lot := (rg l.length).flatMap (mtK b l)
theorem mem_mt {b : List Lot} {l : Lot} {j k : Int} (h0 : 0 ≤ j) (h1 : j < k) (h2 : k < (l.length : Nat)) : meet (gB b (lI l j)) (gB b (lI l k)) ∈ mt b l :=
  List.mem_flatMap.mpr ⟨k, mem_rg.mpr ⟨by omega, h2⟩, List.mem_map.mpr ⟨j, mem_rg.mpr ⟨h0, h1⟩, rfl⟩⟩
theorem lI_mem {l : Lot} {j : Int} (h0 : 0 ≤ j) (h1 : j < (l.length : Nat)) : lI l j ∈ l := by
  unfold lI
  rw [List.getD_eq_getElem?_getD, List.getElem?_eq_getElem (show j.toNat < l.length by omega)]
  exact List.getElem_mem _
theorem not_all {b : List Lot} (hn : NoT b) {l : Lot} (hl : LotOk b.length l) (h3 : 3 ≤ l.length) {y : Lot} : ¬ ∀ z ∈ mt b l, z = y := by
  intro h
  have a := h _ (mem_mt (b := b) (l := l) (j := 0) (k := 1) (by omega) (by omega) (by omega))
  have c := h _ (mem_mt (b := b) (l := l) (j := 0) (k := 2) (by omega) (by omega) (by omega))
  have d := h _ (mem_mt (b := b) (l := l) (j := 1) (k := 2) (by omega) (by omega) (by omega))
  match l, h3, hl with
  | p :: q :: r :: t, _, hl =>
    have h1 := List.pairwise_cons.mp hl.1
    have h2 := List.pairwise_cons.mp h1.2
    exact hn p q r (hl.2 p (by simp)).1 (h1.1 q (by simp)) (h2.1 r (by simp)) (hl.2 r (by simp)).2 (a.trans c.symm) (a.trans d.symm)
theorem mt_len {b : List Lot} {l : Lot} (hl : l.length ≤ 6) : (mt b l).length ≤ 36 := by
  have : ∀ ks : List Int, (∀ k ∈ ks, k < 6) → (ks.flatMap (mtK b l)).length ≤ 6 * ks.length := by
    intro ks
    induction ks with
    | nil => intro _; simp
    | cons k ks ih =>
      intro h
      have hk := h k (List.mem_cons_self ..)
      have := ih fun j hj => h j (List.mem_cons_of_mem _ hj)
      have h1 : (mtK b l k).length ≤ 6 := by
        unfold mtK rg
        rw [List.length_map, List.length_map, List.length_range]; omega
      rw [List.flatMap_cons, List.length_append, List.length_cons]; omega
  have h2 := this (rg l.length) fun k hk => by have := mem_rg.mp hk; omega
  have h3 : (rg (l.length : Nat)).length = l.length := by simp [rg]
  unfold mt
  rw [h3] at h2
  omega
theorem cnt_lots {L : List Lot} {y : Lot} : cntL (L.map lotI) (lotI y) = some (.int (L.countP fun z => decide (z = y) : Nat)) := by
  have h2 : okL 39 (L.map lotI) = true := okL_lots 38 L
  unfold cntL
  rw [okd_lot, h2, List.countP_map]
  simp only [Bool.and_self, if_true, Function.comp_def, eqD_lot]
section
variable {δ : List Bx}
def smK : Sm := (.seq (.asg (.nm 3) (.bin .Add (.var 3) (.lc (.nm 5) [5] (.rng1 (.cons (.var 4) .nil)) .nil (.call 1 (.cons (.idx (.var 0) (.idx (.var 2) (.var 5))) (.cons (.idx (.var 0) (.idx (.var 2) (.var 4))) .nil)))))) .nil)
theorem k_loop {b : List Lot} (hb : b.length ≤ 6) {l : Lot} (hl : LotOk b.length l) (s1 s4 s5 : Sl) :
    ∃ t4, floop (.nm 4) (semS Phi__law_petals smK) ((rg l.length).map .int) [.v (bkD b), s1, .v (lotI l), .v (.lst []), s4, s5] δ = .ok (.nx, [.v (bkD b), s1, .v (lotI l), .v (.lst ((mt b l).map lotI)), t4, s5]) δ := by
  have hll := pok_len_any hl
  have idx : ∀ k : Int, 0 ≤ k → k < (b.length : Nat) → ∀ δ, idxK (bkD b) (.int k) δ = .ok (lotI (gB b k)) δ := fun k h0 h1 δ => by
    show ofO (L2.atI (b.map lotI) k) δ = _
    rw [atI_lots h0 h1]; rfl
  have il : ∀ k : Int, 0 ≤ k → k < (l.length : Nat) → ∀ δ, idxK (lotI l) (.int k) δ = .ok (.int (lI l k)) δ := fun k h0 h1 δ => by
    show ofO (L2.atI (l.map D.int) k) δ = _
    rw [atI_ints h0 h1]; rfl
  have hb2 := floop_foldP (p := .nm 4) (body := semS Phi__law_petals smK) (f := D.int)
    (fun s : List Lot × Sl => [.v (bkD b), s1, .v (lotI l), .v (.lst (s.1.map lotI)), s.2, s5]) (fun s k => (s.1 ++ mtK b l k, .v (.int k))) (fun k s => s.1.length ≤ 6 * k) 6 (xs := rg l.length) (k := 0) (s := ([], s4)) (δ := δ) (by simp [rg]; omega) ?_ (by simp)
  · obtain ⟨e, -⟩ := hb2
    refine ⟨((rg l.length).foldl (fun (s : List Lot × Sl) k => (s.1 ++ mtK b l k, .v (.int k))) ([], s4)).2, ?_⟩
    rw [show ([.v (bkD b), s1, .v (lotI l), .v (.lst []), s4, s5] : List Sl) = [.v (bkD b), s1, .v (lotI l), .v (.lst (([] : List Lot).map lotI)), s4, s5] from rfl, e]
    rw [fold_flat (fun k : Int => mtK b l k) (fun k => .v (.int k)), List.nil_append]
    rfl
  · rintro k hk i s hi hp
    have hk2 := mem_rg.mp hk
    have hlen : (mtK b l k).length ≤ 6 := by
      unfold mtK rg
      rw [List.length_map, List.length_map, List.length_range]; omega
    have hk3 := hl.2 _ (lI_mem hk2.1 hk2.2)
    refine ⟨_, rfl, ?_, by simp only [List.length_append]; omega⟩
    have hadd := dAdd_lst (s.1.map lotI) ((mtK b l k).map lotI) (by simp only [List.length_map]; unfold cap; omega)
    simp [smK, Phi__law_petals, rng1_of (n := k) (by omega)]
    rw [cloopM_eq (h := fun j => some (lotI (meet (gB b (lI l j)) (gB b (lI l k)))))]
    · rw [filterMap_some']
      have e1 : (rg k).map (fun j => lotI (meet (gB b (lI l j)) (gB b (lI l k)))) = (mtK b l k).map lotI := by
        unfold mtK; rw [List.map_map]; rfl
      rw [e1]
      simp [hadd]
    · intro j hj δ
      have hj2 := mem_rg.mp hj
      have hj3 := hl.2 _ (lI_mem (l := l) hj2.1 (by omega))
      simp [il j hj2.1 (by omega), il k hk2.1 hk2.2, idx _ hj3.1 hj3.2, idx _ hk3.1 hk3.2]
def smLp : Sm := (.seq (.ite (.cmp .Gt (.bi .len (.cons (.var 2) .nil)) (.bi .max (.cons (.int 2) (.cons (.bi .len (.cons (.var 1) .nil)) .nil)))) (.seq (.asg (.nm 3) (.lst .nil)) (.seq (.fo (.nm 4) (.rng1 (.cons (.bi .len (.cons (.var 2) .nil)) .nil)) smK) (.seq (.asg (.nm 1) (.ite (.cmp .Eq (.cnt (.var 3) (.idx (.var 3) (.int 0))) (.bi .len (.cons (.var 3) .nil))) (.var 2) (.var 1))) .nil))) .nil) .nil)
theorem lp_turn {b : List Lot} (hb : b.length ≤ 6) (hn : NoT b) {l : Lot} (hl : LotOk b.length l) (s3 s4 s5 : Sl) :
    ∃ t3 t4, semS Phi__law_petals smLp [.v (bkD b), .v (lotI []), .v (lotI l), s3, s4, s5] δ = .ok (.nx, [.v (bkD b), .v (lotI []), .v (lotI l), t3, t4, s5]) δ := by
  have hll := pok_len_any hl
  by_cases h3 : 3 ≤ l.length
  · obtain ⟨t4, e⟩ := k_loop (δ := δ) hb hl (.v (lotI [])) s4 s5
    refine ⟨.v (.lst ((mt b l).map lotI)), t4, ?_⟩
    have hne : mt b l ≠ [] := fun z => by
      have := mem_mt (b := b) (l := l) (j := 0) (k := 1) (by omega) (by omega) (by omega)
      rw [z] at this; cases this
    obtain ⟨y, L, hm⟩ := List.exists_cons_of_ne_nil hne
    have hcnt : ¬ ((mt b l).countP (fun z => decide (z = y)) = (mt b l).length) := fun z => by
      rw [List.countP_eq_length] at z
      exact not_all hn hl h3 fun w hw => by simpa using z w hw
    have h2 : (2 : Int) < (l.length : Nat) := by omega
    have hlen := mt_len (b := b) (l := l) (by omega)
    have hc := cnt_lots (L := mt b l) (y := y)
    rw [hm] at hcnt e hc hlen
    have hcnt2 : ¬ (((y :: L).countP (fun z => decide (z = y)) : Int) = ((y :: L).length : Nat)) := fun z => hcnt (by omega)
    generalize (y :: L).countP (fun z => decide (z = y)) = C at hc hcnt2
    have hcnt3 : ¬ ((C : Int) = (L.length : Int) + 1) := by
      rw [List.length_cons] at hcnt2; omega
    rw [lotI_nil] at e
    simp only [smLp]
    simp [lotI_nil, h2, rng1_of (n := (l.length : Int)) (by omega)]
    rw [e, hm]
    simp at hc
    simp [hc, hcnt3]
  · refine ⟨s3, s4, ?_⟩
    have h2 : ¬ ((2 : Int) < (l.length : Nat)) := by omega
    simp only [smLp]
    simp [lotI_nil, h2]
theorem sm_lp_eq : sm__law_petals = (.seq (.asg (.nm 1) (.tup .nil)) (.seq (.fo (.nm 2) (.call 0 (.cons (.bi .len (.cons (.var 0) .nil)) .nil)) smLp) (.seq (.ret (.var 1)) .nil))) := rfl
theorem f__law_petals {b : List Lot} (hb : b.length ≤ 6) (hn : NoT b) : F__law_petals [bkD b] δ = .ok (lotI []) δ := by
  have hso := f_some_of (δ := δ) hb
  have step : ∀ l ∈ lots b.length, ∀ (r : Unit) (ρ : List Sl), (∃ s2 s3 s4 s5, ρ = [.v (bkD b), .v (lotI []), s2, s3, s4, s5]) →
      ∃ ρ2, bindP (.nm 2) (lotI l) ρ = some ρ2 ∧ ∃ ρ', semS Phi__law_petals smLp ρ2 δ = .ok (.nx, ρ') δ ∧ ∃ s2 s3 s4 s5, ρ' = [.v (bkD b), .v (lotI []), s2, s3, s4, s5] := by
    rintro l hl r ρ ⟨s2, s3, s4, s5, rfl⟩
    obtain ⟨t3, t4, e⟩ := lp_turn (δ := δ) hb hn ((mem_lots (by omega)).mp hl) s3 s4 s5
    exact ⟨_, rfl, _, e, _, _, _, _, rfl⟩
  obtain ⟨ρ', e, s2, s3, s4, s5, rfl⟩ := floop_ex (p := .nm 2) (f := lotI) (body := semS Phi__law_petals smLp) (δ := δ) (fun (_ : Unit) ρ => ∃ s2 s3 s4 s5, ρ = [.v (bkD b), .v (lotI []), s2, s3, s4, s5]) (fun r _ => r) (xs := lots b.length) (r := ()) (ρ := [.v (bkD b), .v (lotI []), .no, .no, .no, .no]) ⟨_, _, _, _, rfl⟩ step
  simp only [F__law_petals, sm_lp_eq]
  simp [Phi__law_petals, hso]
  simp only [Phi__law_petals, lotI_nil] at e
  rw [e]
  simp [lotI_nil]
end
end Pt
set_option maxRecDepth 100000
set_option maxHeartbeats 1000000
/-! Np: data that repr shows -/
namespace Pt
open PySem PySem.Spec Pv PyProof.Rows
theorem rpL_ints (k : Nat) : ∀ {l : List Int}, (∀ x ∈ l, x.natAbs < 2 ^ 64) → rpL k (l.map .int) = true
  | [], _ => by simp [rpL]
  | x :: l, h => by
    have := h x (List.mem_cons_self ..)
    have h1 : rpD k (.int x) = true := by cases k <;> simp only [rpD] <;> exact decide_eq_true this
    simp only [List.map_cons, rpL, h1, Bool.true_and]
    exact rpL_ints k fun y hy => h y (List.mem_cons_of_mem _ hy)
theorem rp_lot (k : Nat) {l : Lot} (h : ∀ x ∈ l, x.natAbs < 2 ^ 64) : rpD (k + 1) (lotI l) = true := by
  show rpL k (l.map .int) = true
  exact rpL_ints k h
theorem wtL_ints : ∀ l : List Int, wtL (l.map .int) = 68 * l.length
  | [] => rfl
  | x :: l => by simp only [List.map_cons, wtL, wt, wtL_ints l, List.length_cons]; omega
theorem wt_lot (l : Lot) : wt (lotI l) = 68 * l.length + 4 := by
  show wtL (l.map .int) + 4 = _
  rw [wtL_ints]
theorem sameL_ints : ∀ l : List Int, sameL (l.map .int) (l.map .int) = true
  | [] => rfl
  | x :: l => by simp [sameL, Pv.same, sameL_ints l]
theorem same_lot (l : Lot) : Pv.same (lotI l) (lotI l) = true := by
  show sameL (l.map .int) (l.map .int) = true
  exact sameL_ints l
theorem lot_small {n : Int} (hn : n ≤ 1000) {l : Lot} (h : LotOk n l) : ∀ x ∈ l, x.natAbs < 2 ^ 64 := fun x hx => by
  have := h.2 x hx
  have : x.natAbs < 1000 := by omega
  omega
theorem rpOk_of {x : D} (h1 : rpD 40 x = true) (h2 : wt x ≤ cap) (h3 : (seqD x).isSome = true) : rpOk x = true := by
  unfold rpOk; rw [h1, h3, decide_eq_true h2]; rfl
end Pt
set_option maxRecDepth 100000
set_option maxHeartbeats 1000000
/-! PvX: the end: constants, the script, the law's promise from the head's facts -/
namespace Pv
open PySem PySem.Spec PyProof.Rows L2

/-! ### constants of the module, looked at by a Bool -/
mutual
def conV (st : Bool) (K : PySem.W.Frag) : D → Value → Bool
  | .non, .none => true
  | .bl b, .bool c => b == c
  | .int i, .int j _ => decide (i = j)
  | .str x, .str y _ => decide (x = y)
  | .tup ds, .ref a => match K.lookup a with
    | some ⟨.type c, _, .seq its _, _⟩ => decide (c = "tuple") && decide (its.size ≤ sizeLine) && conL st K ds its.toList && !st
    | _ => false
  | _, _ => false
def conL (st : Bool) (K : PySem.W.Frag) : List D → List Value → Bool
  | [], [] => true
  | d :: ds, v :: vs => d.strong && conV st K d v && conL st K ds vs
  | _, _ => false
end
mutual
theorem conV_ok {c : Cn} : ∀ {d : D} {u : Value}, conV c.st c.K d u = true → ∃ v, RelV v u ∧ ∀ G H, Rel c G H d v
  | .non, u, h => by
    cases u <;> simp only [conV, Bool.false_eq_true] at h
    exact ⟨.non, rfl, fun _ _ => by simp only [Rel]⟩
  | .bl b, u, h => by
    cases u <;> simp only [conV, Bool.false_eq_true, beq_iff_eq] at h
    subst h
    exact ⟨.bl _, rfl, fun _ _ => by simp only [Rel]⟩
  | .int i, u, h => by
    cases u <;> simp only [conV, Bool.false_eq_true, decide_eq_true_eq] at h
    subst h
    exact ⟨.int _, ⟨_, rfl⟩, fun _ _ => by simp only [Rel]⟩
  | .str x, u, h => by
    cases u <;> simp only [conV, Bool.false_eq_true, decide_eq_true_eq] at h
    subst h
    exact ⟨.str _, ⟨_, rfl⟩, fun _ _ => by simp only [Rel]⟩
  | .tup ds, u, h => by
    cases u <;> simp only [conV, Bool.false_eq_true] at h
    rename_i a
    split at h
    · rename_i cc dd its n sl hk
      simp only [Bool.and_eq_true, decide_eq_true_eq, Bool.not_eq_true'] at h
      obtain ⟨⟨⟨rfl, hz⟩, hl⟩, hst⟩ := h
      obtain ⟨vs, rv, rr⟩ := conL_ok (c := c) hl
      exact ⟨.ref a, rfl, fun G H => by
        simp only [Rel]
        exact ⟨a, vs, rfl, ⟨.inr ⟨_, its, n, hk, rfl, rfl, hz, rv⟩, fun z => by rw [hst] at z; cases z⟩, rr G H⟩⟩
    · cases h
  | .lst _, u, h => by cases u <;> simp [conV] at h
  | .wk _, u, h => by cases u <;> simp [conV] at h
  | .dct _ _ _, u, h => by cases u <;> simp [conV] at h
  | .wkd _ _ _, u, h => by cases u <;> simp [conV] at h
  | .ref _, u, h => by cases u <;> simp [conV] at h
  | .fn _, u, h => by cases u <;> simp [conV] at h
  | .ty _, u, h => by cases u <;> simp [conV] at h
  | .sc _, u, h => by cases u <;> simp [conV] at h
  | .clo _ _ _ _ _, u, h => by cases u <;> simp [conV] at h
theorem conL_ok {c : Cn} : ∀ {ds : List D} {us : List Value}, conL c.st c.K ds us = true → ∃ vs, Vals vs us ∧ ∀ G H, RelL c G H ds vs
  | [], us, h => by
    cases us <;> simp only [conL, Bool.false_eq_true] at h
    exact ⟨[], .nil, fun _ _ => by simp only [RelL]⟩
  | d :: ds, us, h => by
    cases us <;> simp only [conL, Bool.false_eq_true, Bool.and_eq_true] at h
    obtain ⟨⟨h1, h2⟩, h3⟩ := h
    obtain ⟨v, rv, r⟩ := conV_ok (c := c) h2
    obtain ⟨vs, rvs, rs⟩ := conL_ok (c := c) h3
    exact ⟨v :: vs, .cons rv rvs, fun G H => by
      simp only [RelL]
      exact ⟨v, vs, rfl, h1, r G H, rs G H⟩⟩
end
/-- a global constant -/
def conB (st : Bool) (K : PySem.W.Frag) (p : Str × D) : Bool := match PySem.W.nsIn K mainGlobals p.1 with
  | some (some u) => conV st K p.2 u
  | _ => false
theorem conB_ok {c : Cn} {h : Heap} {mg : Str → Option Value} (X : c.K.In h) (G : h.Ns mainGlobals mg) {p : Str × D} (e : conB c.st c.K p = true) : ∃ u v, mg p.1 = some u ∧ RelV v u ∧ ∀ G H, Rel c G H p.2 v := by
  unfold conB at e
  split at e
  · rename_i u hu
    obtain ⟨v, rv, r⟩ := conV_ok (c := c) e
    exact ⟨u, v, PySem.W.mg_of X G hu, rv, r⟩
  · cases e
/-- a global that is a built-in thing of an imported module -/
def impB (K : PySem.W.Frag) (p : Str × Value) : Bool := He.eqO (PySem.W.nsIn K mainGlobals p.1) (some (some p.2))
theorem impB_ok {K : PySem.W.Frag} {h : Heap} {mg : Str → Option Value} (X : K.In h) (G : h.Ns mainGlobals mg) {p : Str × Value} (e : impB K p = true) : mg p.1 = some p.2 := PySem.W.mg_of X G (He.eqO_ok e)
def csK (K : PySem.W.Frag) (xs : List Str) : List (Str × Addr) := xs.map fun x => (x, (He.cT K (x, none)).2)
def exB (st : Bool) (tl : List Str) (cons : List (Str × D)) (imps : List (Str × Value)) (K : PySem.W.Frag) : Bool := cons.all (conB st K) && imps.all (impB K) && decide (((csK K tl).map (·.2)).Nodup)

/-! ### the end, by hand: the script fixed or of the written part, the tables empty -/
section
variable {w : World} {K : PySem.W.Frag} {mg mb : Str → Option Value} {P : Program} {fa a : Addr} {cs : List (Addr × Addr)} {s : Shared} {vals : List Value} {ns : List Int}
open Classical in
/-- what is tracked at the law's entry -/
noncomputable def startH (K : PySem.W.Frag) (a : Addr) (vals : List Value) (ns : List Int) (T : List Addr) : Hp := fun b =>
  if b = a then (if K.lookup a = none then some (.frz { cls := .type "list", data := .seq vals.toArray } (.lst (ns.map V.int))) else none)
  else if b ∈ T then some (.tbl #[]) else none
theorem startH_cases {T : List Addr} {b : Addr} {o : HO} (h : startH K a vals ns T b = some o) : (b = a ∧ K.lookup a = none ∧ o = .frz { cls := .type "list", data := .seq vals.toArray } (.lst (ns.map V.int))) ∨ (b ≠ a ∧ b ∈ T ∧ o = .tbl #[]) := by
  unfold startH at h
  by_cases e : b = a
  · rw [if_pos e] at h
    by_cases k : K.lookup a = none
    · rw [if_pos k] at h; exact .inl ⟨e, k, (Option.some.inj h).symm⟩
    · rw [if_neg k] at h; cases h
  · rw [if_neg e] at h
    by_cases t : b ∈ T
    · rw [if_pos t] at h; exact .inr ⟨e, t, (Option.some.inj h).symm⟩
    · rw [if_neg t] at h; cases h
theorem startH_tab {T : List Addr} {b : Addr} (n : b ≠ a) (h : b ∈ T) : startH K a vals ns T b = some (.tbl #[]) := by
  unfold startH; rw [if_neg n, if_pos h]
theorem startH_none {T : List Addr} {b : Addr} (n : b ≠ a) (h : b ∉ T) : startH K a vals ns T b = none := by
  unfold startH; rw [if_neg n, if_neg h]
theorem entry_ok {k : Nat} {x : Str} {fd : FuncData} {sp : Sp} (Ks : K.In s.heap) (Gs : s.heap.Ns mainGlobals mg) (Bs : s.heap.Ns builtinsNs mb) (Bb : ∀ y : Str, y ≠ "__name__" → mb y = bootBuiltins y) (Ls : s.heap.NoLimit) (g0 : s.gens = #[])
    (tE : ∀ p ∈ cs, s.heap.get? p.2 = some { cls := .none, data := .fields #[] }) (tN : ∀ p ∈ cs, K.lookup p.2 = none) (tC : ∀ p ∈ cs, PySem.W.codeHdIn K p.1 p.2 = true)
    (Mb : ∃ (bm : Addr) (ob : Obj), mg "__builtins__" = some (.ref bm) ∧ bm ≠ builtinsNs ∧ s.heap.get? bm = some ob ∧ ob.cls = .type "module" ∧ ob.dict = some builtinsNs ∧ ob.data = .plain)
    (sc : s.heap.get? a = some { cls := .type "list", data := .seq vals.toArray }) (si : IntsAre vals ns) (sl : ns.length ≤ sizeLine) (rm : Room k callerA)
    (F : ∀ base : Heap, K.In base → base.Ns mainGlobals mg → (∀ p ∈ cs, LamX.TabB base mg p.1 p.2) → FnOkG P w K mg base k fa fd [x] sp) (fb : ∀ (t : Shared) (u : Value), BindsTo t fd ⟨[u], []⟩ [(x, u)])
    (pr : ∀ H : Hp, (∀ p ∈ cs, H p.2 = some (.tbl #[])) → FzL K H a (ns.map V.int) → sp [.ref a] H (fun v _ => v = .bl true) E0) :
    codeAny (model P w) callerA (.call (.ref fa) ⟨[.ref a], []⟩) (fun r s' => r = .ok (.ret (.bool true)) ∧ OldK s.heap s'.heap ∧ s'.os = s.os ∧ AllBare s'.gens) s := by
  have rv : Vals (ns.map V.int) vals := vals_ints si
  generalize hTT : cs.map (·.2) = T
  have tT : ∀ {b : Addr}, b ∈ T → s.heap.get? b = some { cls := .none, data := .fields #[] } := fun {b} hb => by
    rw [← hTT] at hb
    obtain ⟨p, hp, rfl⟩ := List.mem_map.mp hb
    exact tE p hp
  have pT : ∀ p ∈ cs, p.2 ∈ T := fun p hp => by rw [← hTT]; exact List.mem_map.mpr ⟨p, hp, rfl⟩
  have aT : a ∉ T := fun z => by
    have q := tT z
    rw [sc] at q
    exact absurd (congrArg Obj.data (Option.some.inj q)) (by intro z; cases z)
  have neT : ∀ {b : Addr}, b ∈ T → b ≠ a := fun {b} hb z => aT (z ▸ hb)
  have Hd : ∃ H, startH K a vals ns T = H := ⟨_, rfl⟩
  obtain ⟨H, hH⟩ := Hd
  have Hc := fun {b : Addr} {o : HO} (h : H b = some o) => startH_cases (K := K) (a := a) (vals := vals) (ns := ns) (T := T) (by rw [hH]; exact h)
  have Ht : ∀ p ∈ cs, H p.2 = some (.tbl #[]) := fun p hp => by rw [← hH]; exact startH_tab (neT (pT p hp)) (pT p hp)
  -- what is neither the script nor a table is not tracked
  have free : ∀ {b : Addr} {o : Obj}, s.heap.get? b = some o → (∀ v n, o.data ≠ .seq v n) → (∀ v, o.data ≠ .fields v) → H b = none := fun {b o} e n1 n2 => by
    cases q : H b with
    | none => rfl
    | some u =>
      rcases Hc q with ⟨rfl, _, _⟩ | ⟨_, hb, _⟩
      · rw [sc] at e; cases e; exact absurd rfl (n1 _ _)
      · rw [tT hb] at e; cases e; exact absurd rfl (n2 _)
  have nsB : ∀ {b : Addr} {m : Str → Option Value}, s.heap.Ns b m → (hidT s.heap H).Ns b m := fun {b m} ⟨o, es, ep, e, d, r⟩ =>
    ⟨o, es, ep, hidT_get e (free e (fun v n z => by rw [d] at z; cases z) fun v z => by rw [d] at z; cases z), d, r⟩
  have KB : K.In (hidT s.heap H) := fun b o e => hidT_get (Ks b o e) (by
    cases q : H b with
    | none => rfl
    | some u =>
      rcases Hc q with ⟨rfl, k, _⟩ | ⟨_, hb, _⟩
      · rw [k] at e; cases e
      · rw [← hTT] at hb
        obtain ⟨p, hp, rfl⟩ := List.mem_map.mp hb
        rw [tN p hp] at e; cases e)
  have hM : L2.Mod K mg (hidT s.heap H) := ⟨KB, nsB Gs, ⟨mb, nsB Bs, Bb⟩, let ⟨mc, q1, q2⟩ := Ls; ⟨mc, nsB q1, q2⟩⟩
  have TB : ∀ p ∈ cs, LamX.TabB (hidT s.heap H) mg p.1 p.2 := fun p hp => by
    have ep := tE p hp
    refine ⟨PySem.W.codeHd_of_K KB (tC p hp), ?_, fun z => ?_⟩
    · obtain ⟨bm, ob, b1, b2, b3, b4, b5, b6⟩ := Mb
      refine ⟨bm, ob, b1, b2, fun q => ?_, fun q => ?_, hidT_get b3 (free b3 (fun v n z => by rw [b6] at z; cases z) fun v z => by rw [b6] at z; cases z), b4, b5, b6⟩
      · obtain ⟨o, es, n, e, hd, _⟩ := Gs
        rw [q, e] at b3; cases b3; rw [hd] at b6; cases b6
      · rw [q, ep] at b3; cases b3; cases b6
    · obtain ⟨o, es, n, e, hd, _⟩ := Gs
      rw [z, ep] at e; cases e; cases hd
  have hk : HOk P w H s.heap := fun b o q => by
    rcases Hc q with ⟨rfl, _, rfl⟩ | ⟨_, hb, rfl⟩
    · exact ⟨sc, by rw [List.length_map]; exact sl, vals, _, rv, sc⟩
    · exact tT hb
  have fz : FzL K H a (ns.map V.int) := by
    cases k : K.lookup a with
    | none => exact .inl ⟨_, by rw [← hH]; unfold startH; rw [if_pos rfl, if_pos k]⟩
    | some o =>
      have e := Ks a o k
      rw [sc] at e; cases e
      exact .inr ⟨_, vals.toArray, _, k, rfl, rfl, rfl, by rw [List.size_toArray, si.length]; exact sl, by simpa using rv⟩
  have e0 : Env0 P w K mg (hidT s.heap H) callerA [] s H := ⟨rfl, hM, fun b o e => of_hidT e, Nat.le_of_eq (hidT_size _ _), trivial, (fun b hb => absurd (show b ∈ ([] : List Addr) from hb) (by simp)), hk, .of_eq g0⟩
  refine codeAny_mono ((F _ KB (nsB Gs) TB).go callerA [] s H ⟨[.ref a], []⟩ [.ref a] [.ref a] _ rm rfl e0 (fb s (.ref a)) (.cons rfl .nil) (pr H Ht fz)) fun res s' y => ?_
  cases res with
  | error e => exact y.elim
  | ok fl =>
    cases fl with
    | ret u =>
      obtain ⟨v, H', y1, y2, un, hk', rvu, yv⟩ := y
      obtain rfl : v = V.bl true := yv
      obtain rfl : u = Value.bool true := rvu
      have stay : ∀ {b : Addr} {o : Obj}, b ∉ T → s.heap.get? b = some o → s'.heap.get? b = some o := fun {b o} nb e => by
        cases q : H b with
        | none => exact un.keep b o e q (fun z => by cases z) (by simp)
        | some u =>
          rcases Hc q with ⟨rfl, _, rfl⟩ | ⟨_, hb, _⟩
          · obtain ⟨z1, _⟩ := hk' b _ (un.frzs b _ _ q)
            rw [sc] at e; cases e
            exact z1
          · exact absurd hb nb
      have more : ∀ {b : Addr}, b ∈ T → ∃ m : Array Value, s'.heap.get? b = some { cls := .none, data := .fields m } := fun {b} hb => by
        obtain ⟨m, z⟩ := un.tbls b #[] (by rw [← hH]; exact startH_tab (neT hb) hb)
        exact ⟨_, hk' b _ z⟩
      refine ⟨rfl, ⟨fun b o e => ?_, fun b o e => ?_⟩, y1, y2⟩
      · by_cases hb : b ∈ T
        · obtain ⟨m, hm⟩ := more hb
          have hb2 := hb
          rw [← hTT] at hb2
          obtain ⟨p, hp, ep⟩ := List.mem_map.mp hb2
          rw [tT hb] at e; cases e
          refine .inr (.inl ⟨?_, rfl, #[], m, rfl, by rw [Array.empty_append]; exact hm⟩)
          have z := ((PySem.W.codeHd_of_K Ks (tC p hp)).tab (tE p hp)).isCodeTable
          rw [ep] at z
          exact z
        · exact .inl (stay hb e)
      · by_cases hb : b ∈ T
        · obtain ⟨m, hm⟩ := more hb; exact ⟨_, hm⟩
        · exact ⟨o, stay hb e⟩
    | next => exact False.elim y
    | brk => exact False.elim y
    | cont => exact False.elim y
end
/-- what is known of a law at the head's heap -/
def LawG (l : PySem.W.OpenLaw) (w : World) (k : Nat) (x : Str) (mg : Str → Option Value) (fa : Addr) (h : Heap) : Prop :=
  ∃ (K : PySem.W.Frag) (fd : FuncData) (cs : List (Addr × Addr)) (sp : Sp), K.In h ∧ (∀ p ∈ cs, h.get? p.2 = some { cls := .none, data := .fields #[] }) ∧ (∀ p ∈ cs, K.lookup p.2 = none) ∧ (∀ p ∈ cs, PySem.W.codeHdIn K p.1 p.2 = true) ∧ (∀ (t : Shared) (u : Value), BindsTo t fd ⟨[u], []⟩ [(x, u)]) ∧
    (∀ (H : Hp) (a : Addr) (ns : List Int), ns.length ≤ 63 → (∀ z ∈ ns, Builtin.Int.intBits z ≤ 1048576) → (∀ p ∈ cs, H p.2 = some (.tbl #[])) → FzL K H a (ns.map V.int) → sp [.ref a] H (fun v _ => v = .bl true) E0) ∧
    ∀ base : Heap, K.In base → base.Ns mainGlobals mg → (∀ p ∈ cs, LamX.TabB base mg p.1 p.2) → FnOkG l.prog w K mg base k fa fd [x] sp
theorem walkG {l : PySem.W.OpenLaw} {k : Nat} {q : Program} {loose : List Str} {XP : (Str → Option Value) → Heap → Prop} {YP : World → Heap → Prop} {d : DefRec} {x : Str} (hn : l.most = some 63) (hdf : d.params.defaults = []) (rm : Room k callerA)
    (F : ∀ (w : World) (mg : Str → Option Value) (fa : Addr) (h : Heap), YP w h → h.Ns mainGlobals mg → mg d.name = some (.ref fa) → LawG l w k x mg fa h) : PySem.W.WalkO q loose XP YP l.row.toRowW d [] (fun f vs => PySem.call f vs) :=
  Att.attach_callB hn hdf fun w s₀ s mg mb fa o pm cd doc a vals ns G Y _ _ _ hm hobj hints hlen hbits hg => by
    obtain ⟨K, fd, cs, sp, Ks, tE, tN, tC, fb, pr, F⟩ := F w mg fa _ Y G.T.g hm
    exact entry_ok Ks G.T.g G.T.b G.T.builtins G.T.nolimit hg tE tN tC G.T.bmain hobj hints (Nat.le_trans hlen (by decide)) rm F fb fun H hH hz => pr H a ns hlen hbits hH hz

/-! ### the law's promise at the head -/
/-- the tables' small objects -/
def tabsOf (cs : List (Str × Addr)) : List Bx := cs.map fun p => .tab p.2 (lamQ p.1)
/-- a law's reading answers True at all scripts -/
def LawTrue (F : Fn) (cs : List (Str × Addr)) : Prop := ∀ ns : List Int, ns.length ≤ 63 → (∀ z ∈ ns, Builtin.Int.intBits z ≤ 1048576) → ∃ δ, F [.sc (ns.map .int)] (tabsOf cs) = .ok (.bl true) δ
theorem law_sp {c : Cn} {F : Fn} {cs : List (Str × Addr)} (nd : (cs.map (·.2)).Nodup) (h : LawTrue F cs) (H : Hp) (a : Addr) (ns : List Int) (hl : ns.length ≤ 63) (hbits : ∀ z ∈ ns, Builtin.Int.intBits z ≤ 1048576) (ht : ∀ p ∈ cs, H p.2 = some (.tbl #[]))
    (hz : FzL c.K H a (ns.map V.int)) : spF c 1 F [.ref a] H (fun v _ => v = .bl true) E0 := by
  obtain ⟨δ, e⟩ := h ns hl hbits
  refine ⟨cs.map (·.2), [.sc (ns.map .int)], tabsOf cs, ?_, ⟨by simp [tabsOf], nd, fun i o ho => ?_⟩, rfl, ?_⟩
  · simp only [RelL, Rel]
    refine ⟨_, [], rfl, rfl, ⟨a, _, rfl, hz, ?_⟩, rfl⟩
    exact relL_ints ns
  · unfold tabsOf at ho
    rw [List.getElem?_map] at ho
    cases e : cs[i]? with
    | none => rw [e] at ho; cases ho
    | some p =>
      rw [e] at ho
      cases ho
      refine ⟨p.2, by rw [List.getElem?_map, e]; rfl, rfl, #[], ht p (List.mem_of_getElem? e), trivial, fun pos cv hc => ?_⟩
      simp [codeAmong] at hc
  · rw [e]
    intro G' H' x d v rv
    simpa only [Rel] using rv
def cnK (st : Bool) (K : PySem.W.Frag) : Cn := ⟨K, fun x => He.ga K x, st⟩
def tbK (K : PySem.W.Frag) (xs : List Str) : TBs := fun x => (xs.idxOf x, (He.cT K (x, none)).2)
theorem en_ok {sq : Bool} {kws : Str → List (Nat × List Str × List Nat)} {P : Program} {w : World} {mg : Str → Option Value} {base : Heap} {K : PySem.W.Frag} {tops : Tops} {free : List Str} {fa : List He.Fa} {fn : List He.DefD} (X : K.In base) (G : base.Ns mainGlobals mg) (c : He.SaysD fa fn K)
    (hg : ∀ p ∈ tops, He.Fa.glo p.1 ∈ fa) (hf : ∀ x ∈ free, He.Fa.free x ∈ fa) (hd : ∀ p ∈ tops, (⟨(p.1, none), p.1, p.1, defArgs p.2, defBody p.2, defScope p.2, [], []⟩ : He.DefD) ∈ fn) :
    (⟨P, w, mg, base, cnK sq K, kws⟩ : En).Ok tops free where
  defs := fun p hp => c.defs (hd p hp)
  glo := fun p hp => He.glo_ok X G (c.facts (hg p hp))
  free := fun x hx => He.free_ok X G (c.facts (hf x hx))
theorem en_tab {sq : Bool} {kws : Str → List (Nat × List Str × List Nat)} {P : Program} {w : World} {mg : Str → Option Value} {base : Heap} {K : PySem.W.Frag} {x : Str} {st : Stmt} {fa : List He.Fa} {fn : List He.DefD} {xs : List Str} (c : He.SaysD fa fn K) (hd : (⟨(x, none), x, x, defArgs st, defBody st, defScope st, [], []⟩ : He.DefD) ∈ fn)
    (tb : LamX.TabB base mg (He.cT K (x, none)).1 (He.cT K (x, none)).2) : ∃ cc, (⟨P, w, mg, base, cnK sq K, kws⟩ : En).Tab x cc (tbK K xs x).2 := by
  refine ⟨_, fun oc od fd osl lk => ?_, tb⟩
  obtain ⟨fd', D⟩ := c.defs hd
  obtain ⟨oc', od', dV, kV, doc, pm, an, cdv, ct, osl', rfl, lk', hcd, _, _⟩ := D.ex
  have lk2 : K.lookup (He.fAd K (x, none)) = some ⟨oc, od, .func fd, osl⟩ := lk
  rw [lk'] at lk2
  cases lk2
  obtain ⟨cc, e⟩ := He.codeIn_ref hcd
  show cdv = _
  rw [e]
  rw [show (He.cT K (x, none)).1 = cc from He.codeOf_eq lk' e]
/-- the end -/
theorem law_at {sq : Bool} {l : PySem.W.OpenLaw} {w : World} {K : PySem.W.Frag} {h : Heap} {mg : Str → Option Value} {f : Addr} {fa : List He.Fa} {fn : List He.DefD} {tl : List Str} {cons : List (Str × D)} {imps : List (Str × Value)} {lvl : Nat} {F : TBs → Fn} {st : Stmt} {x : Str}
    (c : He.SaysX fa fn [] (tl.map fun x => (x, none)) (exB sq tl cons imps) w h K) (X : K.In h) (G : h.Ns mainGlobals mg) (hf : mg "law" = some (.ref f)) (hgl : He.Fa.glo "law" ∈ fa) (hdl : (⟨("law", none), "law", "law", defArgs st, defBody st, defScope st, [], []⟩ : He.DefD) ∈ fn)
    (hb : ∀ (kV doc pm : Value) (an : Option Addr) (cdv ct : Value) (us : List Value), us.length = 1 → bindArgs (PySem.W.fnOf "law" "law" (defArgs st) (defBody st) (defScope st) .none kV doc pm an cdv ct) ⟨us, []⟩ = pure ([x].zip us))
    (ok : ∀ (base : Heap) (fd : FuncData), K.In base → base.Ns mainGlobals mg → (∀ x ∈ tl, LamX.TabB base mg (He.cT K (x, none)).1 (He.cT K (x, none)).2) → (∀ p ∈ cons, ∃ u v, mg p.1 = some u ∧ RelV v u ∧ ∀ G H, Rel (cnK sq K) G H p.2 v) → (∀ p ∈ imps, mg p.1 = some p.2) →
      FunD K "law" "law" (defArgs st) (defBody st) (defScope st) [] [] (He.ga K "law") fd → FnOkG l.prog w K mg base lvl (He.ga K "law") fd [x] (spF (cnK sq K) 1 (F (tbK K tl))))
    (hT : LawTrue (F (tbK K tl)) (csK K tl)) : LawG l w lvl x mg f h := by
  obtain ⟨fd, D⟩ := c.t.d.defs hdl
  have hfe : f = He.ga K "law" := by
    have e := hf.symm.trans (He.glo_ok X G (c.t.d.facts hgl))
    cases e; rfl
  have D' : FunD K "law" "law" (defArgs st) (defBody st) (defScope st) [] [] (He.ga K "law") fd := D
  have hmore := c.more
  simp only [exB, Bool.and_eq_true, List.all_eq_true, decide_eq_true_eq] at hmore
  have hnd := hmore.2
  refine ⟨K, fd, tl.map fun x => He.cT K (x, none), spF (cnK sq K) 1 (F (tbK K tl)), X, ?_, ?_, ?_, ?_, ?_, ?_⟩
  · intro p hp
    obtain ⟨y, hy, rfl⟩ := List.mem_map.mp hp
    exact c.empty (y, none) (List.mem_map.mpr ⟨y, hy, rfl⟩)
  · intro p hp
    obtain ⟨y, hy, rfl⟩ := List.mem_map.mp hp
    exact c.out (y, none) (List.mem_map.mpr ⟨y, hy, rfl⟩)
  · intro p hp
    obtain ⟨y, hy, rfl⟩ := List.mem_map.mp hp
    exact c.hd (y, none) (List.mem_map.mpr ⟨y, hy, rfl⟩)
  · intro s v
    exact FunD.bindsA D' (ps := [x]) (fun _ _ _ _ _ _ us hl => hb _ _ _ _ _ _ us hl) s [v] rfl
  · intro H a ns hl hbits ht hz
    refine law_sp (c := cnK sq K) hnd hT H a ns hl hbits (fun p hp => ?_) hz
    obtain ⟨y, hy, rfl⟩ := List.mem_map.mp hp
    exact ht (He.cT K (y, none)) (List.mem_map.mpr ⟨y, hy, rfl⟩)
  · intro base Xb Gb tb
    rw [hfe]
    exact (ok base fd Xb Gb (fun y hy => tb _ (List.mem_map.mpr ⟨y, hy, rfl⟩)) (fun p hp => conB_ok (c := cnK sq K) X G (hmore.1.1 p hp)) (fun p hp => impB_ok X G (hmore.1.2 p hp)) D')
end Pv
set_option maxRecDepth 100000
set_option maxHeartbeats 1000000
/-! Mg: the bag of a script; the law's loops -/
namespace Pt
open PySem PySem.Spec Pv PyProof.Rows
theorem dCut_sc16 (ns : List Int) : dCut (.sc (ns.map .int)) none (some 16) = some (.lst ((ns.take 16).map .int)) := by
  show some (D.lst (cutD (ns.map .int) none (some ((16 : Nat) : Int)))) = _
  rw [cutD_to, ← List.map_take]
def bagStep (s : Int × Sl) (x : Int) : Int × Sl := ((s.1 * 48271 + x.fmod 2147483629 + 23).fmod 2147483647, .v (.int x))
def ownOf (ns : List Int) (lap : Int) : Int := if lap < ns.length then ns.getD lap.toNat 0 else 0
def bagS0 (ns : List Int) (lap : Int) : Int := ((ns.take 16).foldl bagStep (52027 + 8009 * lap, .no)).1
theorem bag_ok {ns : List Int} {lap : Int} {δ : List Bx} (hl : 0 ≤ lap) :
    F__law_bag [.sc (ns.map .int), .int lap] δ = .ok (.ref δ.length) (δ ++ [.lst [.int (bI (decide (ownOf ns lap < 0) || decide (10 ^ 15 ≤ ownOf ns lap)) (if ownOf ns lap < 0 then -ownOf ns lap else ownOf ns lap) 0), .int ((bagS0 ns lap * 31 + (ownOf ns lap).fmod 2147483629 * 17 + 3).fmod 2147483647), .int 0]]) := by
  have m1 : small64 8009 = true := by decide
  have m2 : small64 48271 = true := by decide
  have m3 : small64 31 = true := by decide
  have m4 : small64 17 = true := by decide
  have pw : dPow (.int 10) (.int 15) = some (.int (10 ^ 15)) := by
    show (if (0 : Int) ≤ 15 ∧ (15 : Int) ≤ 1000000 ∧ (10 : Int).natAbs < 2 ^ 64 then some (D.int (10 ^ (15 : Int).toNat)) else none) = _
    rw [if_pos (by decide)]; rfl
  simp only [F__law_bag, sm__law_bag]
  simp [dCut_sc16, m1]
  refine loop_bind (f := D.int) (fun s : Int × Sl => [.v (.sc (ns.map .int)), .v (.int lap), .v (.int s.1), s.2, .no]) bagStep (fun _ _ => True) 16 (ns.take 16) (52027 + 8009 * lap, .no) rfl (by rw [List.map_take]) (by rw [List.length_take]; omega) ?_ trivial ?_
  · intro x hx k s _ _
    exact ⟨_, rfl, by simp [m2, bagStep]⟩
  · intro _
    have e2 : ((ns.take 16).foldl bagStep (52027 + 8009 * lap, .no)).1 = bagS0 ns lap := rfl
    have hc : (3 : Nat) ≤ cap := by decide
    by_cases h : lap < ns.length
    · obtain ⟨d, _, ea⟩ := atI_in (xs := ns) hl h
      have e3 : L2.atI (ns.map D.int) lap = some (.int (ownOf ns lap)) := by
        unfold L2.atI L2.ixN ownOf
        rw [List.length_map, if_pos hl, if_pos h, if_pos h, List.getD_eq_getElem?_getD]
        have : lap.toNat < ns.length := by omega
        simp [this]
      simp [h, e2, e3, m3, m4, pw, hc]
    · have e3 : ownOf ns lap = 0 := by unfold ownOf; rw [if_neg h]
      simp [h, e2, e3, m3, m4, pw, hc]
theorem bag_at {ns : List Int} {lap : Int} {δ : List Bx} (hl : 0 ≤ lap) : ∃ x, F__law_bag [.sc (ns.map .int), .int lap] δ = .ok (.ref δ.length) (δ ++ [x]) ∧ BagAt δ.length (δ ++ [x]) := by
  refine ⟨_, bag_ok hl, _, _, _, ?_, List.getElem?_concat_length⟩
  cases h : (decide (ownOf ns lap < 0) || decide (10 ^ 15 ≤ ownOf ns lap)) with
  | false => simp
  | true =>
    simp only [bI_true]
    split <;> omega
/-- the laws' last def -/
def smLaw (T : Int) : Sm := (.seq (.fo (.nm 1) (.rng1 (.cons (.bi .max (.cons (.int 2) (.cons (.bi .min (.cons (.bi .len (.cons (.var 0) .nil)) (.cons (.int 3) .nil))) .nil))) .nil)) (.seq (.asg (.nm 2) (.call 1 (.cons (.var 0) (.cons (.var 1) .nil)))) (.seq (.ite (.not (.bi .all (.cons (.lc (.nm 3) [3] (.rng1 (.cons (.int T) .nil)) .nil (.call 0 (.cons (.var 2) .nil))) .nil))) (.seq (.ret (.bl false)) .nil) .nil) .nil))) (.seq (.ret (.bl true)) .nil))
theorem law_true {T : Int} {Fr : Fn} {cs : List (Str × Addr)} (hT : 0 ≤ T ∧ T ≤ 100) (h : ∀ i δ, BagAt i δ → tabsOf cs <+: δ → cs.length ≤ i → ∃ δ', Fr [.ref i] δ = .ok (.bl true) δ' ∧ Nxt i δ δ') :
    LawTrue (mkF 4 1 (semS ⟨[(1, Fr), (2, F__law_bag)], fun _ => none, fun _ _ _ _ _ => none⟩ (smLaw T))) cs := by
  intro ns _ _
  have pre : ∀ {i : Nat} {δ δ' : List Bx}, tabsOf cs <+: δ → cs.length ≤ i → Nxt i δ δ' → tabsOf cs <+: δ' := fun {i δ δ'} hp hi nx => by
    rw [List.prefix_iff_getElem?] at hp ⊢
    intro j hj
    rw [nx.same j (by have : (tabsOf cs).length = cs.length := (by simp [tabsOf]); omega)]
    exact hp j hj
  have turn : ∀ (i : Nat) (xs : List Int) (s1 : Sl) (δ : List Bx), BagAt i δ → tabsOf cs <+: δ → cs.length ≤ i → ∃ δ', cloop (cstep (.nm 3) [3] yesT (callO Fr 1 (consA (fun ρ δ => ofO (rdSl ρ[2]?) δ) nilA)) [.v (.sc (ns.map .int)), s1, .v (.ref i), .no]) (xs.map .int) δ = .ok (xs.map fun _ => D.bl true) δ' ∧ Nxt i δ δ' := by
    intro i xs s1
    induction xs with
    | nil => intro δ hb hp hi; exact ⟨δ, rfl, .refl hb⟩
    | cons x xs ih =>
      intro δ hb hp hi
      obtain ⟨δ1, e1, n1⟩ := h i δ hb hp hi
      obtain ⟨δ2, e2, n2⟩ := ih δ1 n1.bag (pre hp hi n1) hi
      refine ⟨δ2, ?_, n1.trans n2⟩
      have es : cstep (.nm 3) [3] yesT (callO Fr 1 (consA (fun ρ δ => ofO (rdSl ρ[2]?) δ) nilA)) [.v (.sc (ns.map .int)), s1, .v (.ref i), .no] (.int x) δ = .ok (some (.bl true)) δ1 := by simp [e1]
      simp only [List.map_cons, cloop, es, Res.bind_ok, e2, Option.toList, List.singleton_append]
  have hlo : 0 ≤ (if (if 3 < (ns.length : Int) then 3 else (ns.length : Int)) > 2 then (if 3 < (ns.length : Int) then 3 else (ns.length : Int)) else 2) ∧ (if (if 3 < (ns.length : Int) then 3 else (ns.length : Int)) > 2 then (if 3 < (ns.length : Int) then 3 else (ns.length : Int)) else 2) ≤ 3 := by
    split <;> split <;> omega
  generalize hq : (if (if 3 < (ns.length : Int) then 3 else (ns.length : Int)) > 2 then (if 3 < (ns.length : Int) then 3 else (ns.length : Int)) else 2) = Q at hlo
  have hq' : (if 2 < (if 3 < (ns.length : Int) then 3 else (ns.length : Int)) then (if 3 < (ns.length : Int) then 3 else (ns.length : Int)) else 2) = Q := hq
  simp [smLaw, hq', rng1_of (n := Q) (by omega)]
  let I : Nat → List Sl → List Bx → Prop := fun _ ρ δ => ∃ s1 s2, ρ = [.v (.sc (ns.map .int)), s1, s2, .no] ∧ tabsOf cs <+: δ
  refine loop_invC (C := fun r => ∃ δ', r = Res.ok (D.bl true) δ') I 3 (by simp [rg]; omega) ⟨.no, .no, rfl, List.prefix_refl _⟩ ?_ ?_
  · rintro d hd k ρ δ ⟨s1, s2, rfl, hp⟩ hk
    obtain ⟨t, ht, rfl⟩ := List.mem_map.mp hd
    refine ⟨_, rfl, ?_⟩
    obtain ⟨x, eb, hb⟩ := bag_at (ns := ns) (lap := t) (δ := δ) (mem_rg.mp ht).1
    have hi : cs.length ≤ δ.length := by
      have := hp.length_le
      simpa [tabsOf] using this
    obtain ⟨δ', ec, nx⟩ := turn δ.length (rg T) (.v (.int t)) _ hb (hp.trans (List.prefix_append _ _)) hi
    have ec' : cloop (cstep (.nm 3) [3] yesT (callO Fr 1 (consA (fun ρ δ => ofO (rdSl ρ[2]?) δ) nilA)) [.v (.sc (ns.map .int)), .v (.int t), .v (.ref δ.length), .no]) ((rg T).map .int) (δ ++ [x]) = .ok ((rg T).map fun _ => D.bl true) δ' := ec
    have all : (blsD ((rg T).map fun _ => D.bl true)) = some ((rg T).map fun _ => true) := blsD_map (fun _ => true) _
    have at_ : ((rg T).all fun _ => true) = true := List.all_eq_true.mpr fun _ _ => rfl
    refine ⟨[.v (.sc (ns.map .int)), .v (.int t), .v (.ref δ.length), .no], δ', ?_, .v (.int t), .v (.ref δ.length), rfl, pre (hp.trans (List.prefix_append _ _)) hi nx⟩
    simp [-cloop_map', eb, ec', rng1_of (n := T) (by omega), all, at_]
  · rintro ρ' δ' ⟨s1, s2, rfl, hp⟩
    exact ⟨δ', by simp⟩
end Pt
set_option maxRecDepth 100000
set_option maxHeartbeats 4000000
/-! Od: books that meet alike -/
namespace Pt
open PySem PySem.Spec Pv PyProof.Rows
def clqGo (lam : Int) (f : List Lot → Bool) : List Lot → Bool
  | [] => false
  | x :: xs => f (xs.filter fun y => decide (cm (x, y) = lam)) || clqGo lam f xs
def clq (lam : Int) : Nat → List Lot → Bool
  | 0 => fun _ => true
  | k + 1 => clqGo lam (clq lam k)
theorem fisher : ((List.range 5).all fun n => (List.range 5).all fun l => !clq ((l + 1 : Nat) : Int) (n + 2) (lots ((n + 1 : Nat) : Int))) = true := by decide +kernel
theorem clq_of {lam : Int} : ∀ (k : Nat) {b L : List Lot}, b.Sublist L → b.Pairwise (fun x y => cm (x, y) = lam) → k ≤ b.length → clq lam k L = true
  | 0, _, _, _, _, _ => rfl
  | k + 1, b, L, h, hp, hk => by
    show clqGo lam (clq lam k) L = true
    induction h with
    | slnil => simp at hk
    | @cons b L x h ih =>
      unfold clqGo
      rw [ih hp hk, Bool.or_true]
    | @cons_cons b L x h ih =>
      obtain ⟨h1, h2⟩ := List.pairwise_cons.mp hp
      unfold clqGo
      have hs : b.Sublist (L.filter fun y => decide (cm (x, y) = lam)) := by
        have := h.filter fun y => decide (cm (x, y) = lam)
        rwa [List.filter_eq_self.mpr fun y hy => by simpa using h1 y hy] at this
      rw [clq_of k hs h2 (by simpa using hk), Bool.true_or]
theorem pairs_pw {b : List Lot} {R : Lot → Lot → Prop} : (∀ p ∈ pairsOf b, R p.1 p.2) → b.Pairwise R := by
  induction b with
  | nil => intro _; exact .nil
  | cons x b ih =>
    intro h
    refine List.pairwise_cons.mpr ⟨fun y hy => ?_, ih fun p hp => h p (List.mem_append_right _ hp)⟩
    exact h (x, y) (List.mem_append_left _ (List.mem_map.mpr ⟨y, hy, rfl⟩))
theorem mem_pairs {b : List Lot} {p : Lot × Lot} : p ∈ pairsOf b ↔ ∃ j k : Nat, j < k ∧ b[j]? = some p.1 ∧ b[k]? = some p.2 := by
  induction b with
  | nil => simp [pairsOf]
  | cons x b ih =>
    unfold pairsOf
    rw [List.mem_append, ih, List.mem_map]
    constructor
    · rintro (⟨y, hy, rfl⟩ | ⟨j, k, h1, h2, h3⟩)
      · obtain ⟨i, hi⟩ := List.mem_iff_getElem?.mp hy
        exact ⟨0, i + 1, by omega, rfl, by simpa using hi⟩
      · exact ⟨j + 1, k + 1, by omega, by simpa using h2, by simpa using h3⟩
    · rintro ⟨j, k, h1, h2, h3⟩
      obtain ⟨k, rfl⟩ : ∃ k', k = k' + 1 := ⟨k - 1, by omega⟩
      cases j with
      | zero =>
        simp at h2 h3
        exact .inl ⟨p.2, List.mem_of_getElem? h3, by rw [h2]⟩
      | succ j => exact .inr ⟨j, k, by omega, by simpa using h2, by simpa using h3⟩
theorem pairs_mem {b : List Lot} {p : Lot × Lot} (h : p ∈ pairsOf b) : p.1 ∈ b ∧ p.2 ∈ b := by
  obtain ⟨j, k, _, h2, h3⟩ := mem_pairs.mp h
  exact ⟨List.mem_of_getElem? h2, List.mem_of_getElem? h3⟩
theorem mem_crs {b : List Lot} {x : Int} : x ∈ crs b ↔ ∃ p ∈ pairsOf b, cm p = x := by
  unfold crs
  rw [mem_ascU, List.mem_map]
def alk1 (c : List Int) : Pv.D := match c with
  | [x] => if 0 < x then .int x else .non
  | _ => .non
theorem cm_le {n : Int} (hn : Nn n) {p : Lot × Lot} (h : LotOk n p.1) : 0 ≤ cm p ∧ cm p ≤ n := by
  have h1 : (meet p.1 p.2).length ≤ p.1.length := List.length_filter_le _ _
  have h2 := lot_len hn h
  unfold cm
  omega
theorem alike_few {n : Int} (hn : Nn n) (h5 : n ≤ 5) {b : List Lot} (bk : BookOk n b) (h : alk1 (crs b) ≠ .non) : (b.length : Int) ≤ n := by
  obtain ⟨x, hx, h0⟩ : ∃ x, crs b = [x] ∧ 0 < x := by
    unfold alk1 at h
    split at h
    · rename_i x e
      by_cases h0 : 0 < x
      · exact ⟨x, e, h0⟩
      · rw [if_neg h0] at h; exact absurd rfl h
    · exact absurd rfl h
  by_cases hm : (b.length : Int) ≤ n
  · exact hm
  exfalso
  have hall : ∀ p ∈ pairsOf b, cm p = x := fun p hp => by
    have := mem_crs.mpr ⟨p, hp, rfl⟩
    rw [hx] at this
    exact List.mem_singleton.mp this
  obtain ⟨p, hp, e⟩ := mem_crs.mp (show x ∈ crs b by rw [hx]; exact List.mem_singleton.mpr rfl)
  have hle := cm_le hn (bk.lot _ (pairs_mem hp).1) (p := p)
  have hlo := hn.lo
  have hs : b.Sublist (lots n) := lots_sub' bk.asc (lots_asc hn) fun l hl => (mem_lots (by omega)).mpr (bk.lot l hl)
  have hc := clq_of (lam := x) (n.toNat + 1) hs (pairs_pw (R := fun a c => cm (a, c) = x) hall) (by omega)
  have hf := fisher
  rw [List.all_eq_true] at hf
  have h1 := hf (n.toNat - 1) (by simp; omega)
  rw [List.all_eq_true] at h1
  have h2 := h1 (x.toNat - 1) (by simp; omega)
  rw [show ((x.toNat - 1 + 1 : Nat) : Int) = x by omega, show n.toNat - 1 + 2 = n.toNat + 1 by omega, show ((n.toNat - 1 + 1 : Nat) : Int) = n by omega, hc] at h2
  cases h2
where
  lots_sub' : ∀ {a b : List Lot}, a.Pairwise (· < ·) → b.Pairwise (· < ·) → (∀ x ∈ a, x ∈ b) → a.Sublist b
  | [], b, _, _, _ => List.nil_sublist b
  | x :: a, [], _, _, h => by have := h x (List.mem_cons_self ..); cases this
  | x :: a, y :: b, ha, hb, h => by
    obtain ⟨h1, h2⟩ := List.pairwise_cons.mp ha
    obtain ⟨h3, h4⟩ := List.pairwise_cons.mp hb
    by_cases e : x = y
    · subst e
      refine (lots_sub' h2 h4 fun z hz => ?_).cons_cons x
      rcases List.mem_cons.mp (h z (List.mem_cons_of_mem _ hz)) with rfl | hz'
      · exact absurd (h1 z hz) (List.lt_irrefl _)
      · exact hz'
    · refine (lots_sub' ha h4 fun z hz => ?_).cons y
      rcases List.mem_cons.mp (h z hz) with rfl | hz'
      · rcases List.mem_cons.mp (h x (List.mem_cons_self ..)) with rfl | hx
        · exact absurd rfl e
        · have k := h3 x hx
          rcases List.mem_cons.mp hz with rfl | hz2
          · exact absurd rfl e
          · exact absurd (List.lt_trans k (h1 z hz2)) (List.lt_irrefl _)
      · exact hz'
/-- a flower's lots meet alike -/
theorem sun_crs {b : List Lot} {p : Lot} (h : Sun b p) : crs (p.map (gB b)) = [(((coreB b p).length : Nat) : Int)] := by
  refine asc_uniq (ascU_asc _) (by simp) fun x => ?_
  rw [mem_crs, List.mem_singleton]
  have hone : ∀ j k : Nat, j < k → ∀ y z, (p.map (gB b))[j]? = some y → (p.map (gB b))[k]? = some z → cm (y, z) = ((coreB b p).length : Nat) := by
    intro j k hjk y z hy hz
    rw [List.getElem?_map] at hy hz
    cases ej : p[j]? with
    | none => rw [ej] at hy; cases hy
    | some a =>
      cases ek : p[k]? with
      | none => rw [ek] at hz; cases hz
      | some c =>
        rw [ej] at hy; rw [ek] at hz
        cases hy; cases hz
        obtain ⟨l1, e1⟩ := List.getElem?_eq_some_iff.mp ej
        obtain ⟨l2, e2⟩ := List.getElem?_eq_some_iff.mp ek
        have hlt : a < c := by
          have := List.pairwise_iff_getElem.mp h.ok.1 j k l1 l2 hjk
          rw [e1, e2] at this; exact this
        unfold cm
        rw [h.same a (List.mem_of_getElem? ej) c (List.mem_of_getElem? ek) hlt]
  constructor
  · rintro ⟨q, hq, rfl⟩
    obtain ⟨j, k, h1, h2, h3⟩ := mem_pairs.mp hq
    exact hone j k h1 q.1 q.2 h2 h3
  · rintro rfl
    match p, h.two with
    | a :: c :: r, _ =>
      have hm : ((gB b a, gB b c) : Lot × Lot) ∈ pairsOf ((a :: c :: r).map (gB b)) := mem_pairs.mpr ⟨0, 1, by omega, rfl, rfl⟩
      exact ⟨_, hm, rfl⟩
theorem sun_book {n : Int} {b : List Lot} (bk : BookOk n b) {p : Lot} (h : LotOk b.length p) (hl : b.length ≤ 6) : BookOk n (p.map (gB b)) := by
  have hm : ∀ k ∈ p, gB b k ∈ b := fun k hk => by
    have := h.2 k hk
    unfold gB
    rw [List.getD_eq_getElem?_getD, List.getElem?_eq_getElem (show k.toNat < b.length by omega)]
    exact List.getElem_mem _
  refine ⟨?_, fun l hl => ?_, ?_⟩
  · refine List.pairwise_map.mpr (h.1.imp_of_mem fun {x y} hx hy hxy => ?_)
    have h1 := h.2 x hx
    have h2 := h.2 y hy
    unfold gB
    rw [List.getD_eq_getElem?_getD, List.getD_eq_getElem?_getD, List.getElem?_eq_getElem (show x.toNat < b.length by omega), List.getElem?_eq_getElem (show y.toNat < b.length by omega)]
    exact List.pairwise_iff_getElem.mp bk.asc _ _ _ _ (by omega)
  · obtain ⟨k, hk, rfl⟩ := List.mem_map.mp hl
    exact bk.lot _ (hm k hk)
  · have := pok_len_any h
    rw [List.length_map]; omega
end Pt
set_option maxRecDepth 100000
set_option maxHeartbeats 0
namespace Pk88
open PySem PySem.Spec PyProof.Rows L2 Pv Pt
def top (i : Nat) : Stmt := PySem.Challenge.pw_lotbooks_k88_whole_alike_books.main.body.getD i (.Pass ⟨0, 0, 0, 0⟩)
def freeNames : List Str := ["abs", "all", "bool", "divmod", "enumerate", "int", "isinstance", "len", "list", "max", "min", "range", "repr", "set", "sorted", "tuple", "zip"]
def tops : Tops := ([(("is_whole" : Str), top 6), (("is_between" : Str), top 7), (("is_row" : Str), top 8), (("first_wrong" : Str), top 9), (("is_things" : Str), top 13), (("check_things" : Str), top 14), (("is_thing" : Str), top 15), (("is_lot" : Str), top 16), (("common_of" : Str), top 17), (("wrong_lot" : Str), top 18)] : Tops) ++ ([(("check_lots" : Str), top 19), (("check_book" : Str), top 20), (("crossings_by" : Str), top 22), (("alike_of" : Str), top 23), (("alike_by" : Str), top 24), (("crossings" : Str), top 25), (("petals_by" : Str), top 27), (("greatest_petals" : Str), top 28), (("_law_bag" : Str), top 30), (("_law_take" : Str), top 31)] : Tops) ++ ([(("_law_pull" : Str), top 32), (("_law_lots" : Str), top 33), (("_law_book" : Str), top 34), (("_law_meet" : Str), top 35), (("_law_some_of" : Str), top 36), (("_law_petals" : Str), top 37), (("_law_right" : Str), top 38), (("law" : Str), top 39)] : Tops)
def kwL : List (Str × List (Nat × List Str × List Nat)) := [("alike_by", [(0, ["book", "things"], [1, 0])]), ("crossings", [(0, ["book", "things"], [1, 0])])]
def kwT (x : Str) : List (Nat × List Str × List Nat) := match kwL.find? (fun p => p.1 == x) with | some p => p.2 | none => []
structure Facts (E : En) (TB : TBs) : Prop where
  ok : E.Ok tops freeNames
  comb : E.mg "combinations" = some (.type "itertools.combinations")
  c_MOST_THINGS : ∃ u v, E.mg "MOST_THINGS" = some u ∧ RelV v u ∧ ∀ G H, Rel E.c G H (.int 6) v
  c_MOST_LOTS : ∃ u v, E.mg "MOST_LOTS" = some u ∧ RelV v u ∧ ∀ G H, Rel E.c G H (.int 20) v
  kw : E.kws = kwT
  t_wrong_lot : ∃ cc, E.Tab "wrong_lot" cc (TB "wrong_lot").2
variable {E : En} {TB : TBs}
def T_is_whole : Pv.Ctx := { N := ["value"], fns := [], free := ["isinstance", "bool", "int"], cons := [], bims := [], fvs := [], kcs := [] }
theorem chk_is_whole : chk T_is_whole freeNames ["value"] sm_is_whole (top 6) = true := by decide +kernel
theorem ok_is_whole (h : Facts E TB) : DefOk E "is_whole" 1 1 F_is_whole :=
  def_ok (T := T_is_whole) (Φ := Phi_is_whole) (lvl := 0) (ps := ["value"]) (sm := sm_is_whole) h.ok (List.mem_of_getElem? (i := 0) rfl) chk_is_whole trivial rfl (fun _ _ _ z => by cases z) (fun y z => by simp [T_is_whole] at z) (fun q hq => by simp only [T_is_whole] at hq; cases hq) (fun z => absurd z (by decide)) (fun z => absurd z (by decide)) (fun p hp => by simp only [T_is_whole] at hp; cases hp) (fun z => by cases z) (fun _ _ _ _ _ _ us hl => match us, hl with | [_], _ => rfl) (by rw [h.kw, show kwT "is_whole" = [] from by decide +kernel]; exact fun q hq => by cases hq)
def T_is_between : Pv.Ctx := { N := ["value", "least", "most"], fns := ["is_whole"], free := [], cons := [], bims := [], fvs := [], kcs := [] }
theorem chk_is_between : chk T_is_between freeNames ["value", "least", "most"] sm_is_between (top 7) = true := by decide +kernel
theorem ok_is_between (h : Facts E TB) : DefOk E "is_between" 3 2 F_is_between :=
  def_ok (T := T_is_between) (Φ := Phi_is_between) (lvl := 1) (ps := ["value", "least", "most"]) (sm := sm_is_between) h.ok (List.mem_of_getElem? (i := 1) rfl) chk_is_between ⟨⟨1, by omega, ok_is_whole h⟩, trivial⟩ rfl (fun _ _ _ z => by cases z) (fun y z => by simp [T_is_between] at z) (fun q hq => by simp only [T_is_between] at hq; cases hq) (fun z => absurd z (by decide)) (fun z => absurd z (by decide)) (fun p hp => by simp only [T_is_between] at hp; cases hp) (fun z => by cases z) (fun _ _ _ _ _ _ us hl => match us, hl with | [_, _, _], _ => rfl) (by rw [h.kw, show kwT "is_between" = [] from by decide +kernel]; exact fun q hq => by cases hq)
def T_is_row : Pv.Ctx := { N := ["value", "least", "most"], fns := [], free := ["len", "isinstance", "tuple"], cons := [], bims := [], fvs := [], kcs := [] }
theorem chk_is_row : chk T_is_row freeNames ["value", "least", "most"] sm_is_row (top 8) = true := by decide +kernel
theorem ok_is_row (h : Facts E TB) : DefOk E "is_row" 3 1 F_is_row :=
  def_ok (T := T_is_row) (Φ := Phi_is_row) (lvl := 0) (ps := ["value", "least", "most"]) (sm := sm_is_row) h.ok (List.mem_of_getElem? (i := 2) rfl) chk_is_row trivial rfl (fun _ _ _ z => by cases z) (fun y z => by simp [T_is_row] at z) (fun q hq => by simp only [T_is_row] at hq; cases hq) (fun z => absurd z (by decide)) (fun z => absurd z (by decide)) (fun p hp => by simp only [T_is_row] at hp; cases hp) (fun z => by cases z) (fun _ _ _ _ _ _ us hl => match us, hl with | [_, _, _], _ => rfl) (by rw [h.kw, show kwT "is_row" = [] from by decide +kernel]; exact fun q hq => by cases hq)
def T_first_wrong : Pv.Ctx := { N := ["value", "is_right", "index", "each"], fns := [], free := ["enumerate"], cons := [], bims := [], fvs := [], kcs := [] }
theorem chk_first_wrong : chk T_first_wrong freeNames ["value", "is_right"] smFW (top 9) = true := by decide +kernel
def T_is_things : Pv.Ctx := { N := ["value"], fns := ["is_between"], free := [], cons := [("MOST_THINGS", (.int 6))], bims := [], fvs := [], kcs := [] }
theorem chk_is_things : chk T_is_things freeNames ["value"] sm_is_things (top 13) = true := by decide +kernel
theorem ok_is_things (h : Facts E TB) : DefOk E "is_things" 1 3 F_is_things :=
  def_ok (T := T_is_things) (Φ := Phi_is_things) (lvl := 2) (ps := ["value"]) (sm := sm_is_things) h.ok (List.mem_of_getElem? (i := 4) rfl) chk_is_things ⟨⟨2, by omega, ok_is_between h⟩, trivial⟩ rfl (fun _ _ _ z => by cases z) (fun y z => by simp [T_is_things] at z) (fun q hq => by simp only [T_is_things] at hq; cases hq) (fun z => absurd z (by decide)) (fun z => absurd z (by decide)) (fun p hp => by
    simp only [T_is_things, List.mem_cons, List.not_mem_nil, or_false] at hp
    rcases hp with rfl
    · exact h.c_MOST_THINGS) (fun z => by cases z) (fun _ _ _ _ _ _ us hl => match us, hl with | [_], _ => rfl) (by rw [h.kw, show kwT "is_things" = [] from by decide +kernel]; exact fun q hq => by cases hq)
def T_check_things : Pv.Ctx := { N := ["things"], fns := ["is_things"], free := [], cons := [], bims := [], fvs := [], kcs := [] }
theorem chk_check_things : chk T_check_things freeNames ["things"] sm_check_things (top 14) = true := by decide +kernel
theorem ok_check_things (h : Facts E TB) : DefOk E "check_things" 1 4 F_check_things :=
  def_ok (T := T_check_things) (Φ := Phi_check_things) (lvl := 3) (ps := ["things"]) (sm := sm_check_things) h.ok (List.mem_of_getElem? (i := 5) rfl) chk_check_things ⟨⟨3, by omega, ok_is_things h⟩, trivial⟩ rfl (fun _ _ _ z => by cases z) (fun y z => by simp [T_check_things] at z) (fun q hq => by simp only [T_check_things] at hq; cases hq) (fun z => absurd z (by decide)) (fun z => absurd z (by decide)) (fun p hp => by simp only [T_check_things] at hp; cases hp) (fun z => by cases z) (fun _ _ _ _ _ _ us hl => match us, hl with | [_], _ => rfl) (by rw [h.kw, show kwT "check_things" = [] from by decide +kernel]; exact fun q hq => by cases hq)
def T_is_thing : Pv.Ctx := { N := ["things", "value"], fns := ["is_between"], free := [], cons := [], bims := [], fvs := [], kcs := [] }
theorem chk_is_thing : chk T_is_thing freeNames ["things", "value"] sm_is_thing (top 15) = true := by decide +kernel
theorem ok_is_thing (h : Facts E TB) : DefOk E "is_thing" 2 3 F_is_thing :=
  def_ok (T := T_is_thing) (Φ := Phi_is_thing) (lvl := 2) (ps := ["things", "value"]) (sm := sm_is_thing) h.ok (List.mem_of_getElem? (i := 6) rfl) chk_is_thing ⟨⟨2, by omega, ok_is_between h⟩, trivial⟩ rfl (fun _ _ _ z => by cases z) (fun y z => by simp [T_is_thing] at z) (fun q hq => by simp only [T_is_thing] at hq; cases hq) (fun z => absurd z (by decide)) (fun z => absurd z (by decide)) (fun p hp => by simp only [T_is_thing] at hp; cases hp) (fun z => by cases z) (fun _ _ _ _ _ _ us hl => match us, hl with | [_, _], _ => rfl) (by rw [h.kw, show kwT "is_thing" = [] from by decide +kernel]; exact fun q hq => by cases hq)
def T_is_lot : Pv.Ctx := { N := ["things", "value", "one", "other", "thing"], fns := ["is_thing"], free := ["all", "zip", "isinstance", "tuple"], cons := [], bims := [], fvs := [], kcs := [] }
theorem chk_is_lot : chk T_is_lot freeNames ["things", "value"] sm_is_lot (top 16) = true := by decide +kernel
theorem ok_is_lot (h : Facts E TB) : DefOk E "is_lot" 2 4 F_is_lot :=
  def_ok (T := T_is_lot) (Φ := Phi_is_lot) (lvl := 3) (ps := ["things", "value"]) (sm := sm_is_lot) h.ok (List.mem_of_getElem? (i := 7) rfl) chk_is_lot ⟨⟨3, by omega, ok_is_thing h⟩, trivial⟩ rfl (fun _ _ _ z => by cases z) (fun y z => by simp [T_is_lot] at z) (fun q hq => by simp only [T_is_lot] at hq; cases hq) (fun z => absurd z (by decide)) (fun z => absurd z (by decide)) (fun p hp => by simp only [T_is_lot] at hp; cases hp) (fun z => by cases z) (fun _ _ _ _ _ _ us hl => match us, hl with | [_, _], _ => rfl) (by rw [h.kw, show kwT "is_lot" = [] from by decide +kernel]; exact fun q hq => by cases hq)
def T_common_of : Pv.Ctx := { N := ["lot", "other", "thing"], fns := [], free := ["tuple"], cons := [], bims := [], fvs := [], kcs := [] }
theorem chk_common_of : chk T_common_of freeNames ["lot", "other"] sm_common_of (top 17) = true := by decide +kernel
theorem ok_common_of (h : Facts E TB) : DefOk E "common_of" 2 1 F_common_of :=
  def_ok (T := T_common_of) (Φ := Phi_common_of) (lvl := 0) (ps := ["lot", "other"]) (sm := sm_common_of) h.ok (List.mem_of_getElem? (i := 8) rfl) chk_common_of trivial rfl (fun _ _ _ z => by cases z) (fun y z => by simp [T_common_of] at z) (fun q hq => by simp only [T_common_of] at hq; cases hq) (fun z => absurd z (by decide)) (fun z => absurd z (by decide)) (fun p hp => by simp only [T_common_of] at hp; cases hp) (fun z => by cases z) (fun _ _ _ _ _ _ us hl => match us, hl with | [_, _], _ => rfl) (by rw [h.kw, show kwT "common_of" = [] from by decide +kernel]; exact fun q hq => by cases hq)
def TL_wrong_lot : Pv.Ctx := { N := ["lot", "ahead", "things"], fns := ["is_lot"], free := [], cons := [], bims := [], fvs := [] }
theorem ok_wrong_lot (h : Facts E TB) : DefOk E "wrong_lot" 2 7 (F_wrong_lot TB) := by
  obtain ⟨cc, tab⟩ := h.t_wrong_lot
  exact lam_user_ok (Tg := T_first_wrong) (Tl := TL_wrong_lot) (Φg := { fns := [] }) (Φl := PhiL_wrong_lot) (lvl := 4) (x := "wrong_lot") (g := "first_wrong") (a := "value") (b := "is_right") (vn := "value") (st := top 18) (stg := top 9) (N := ["things", "value"]) (ps := ["things", "value"]) (psl := ["lot", "ahead"]) (fr := ["things"]) (smg := smFW) (exb := ex_wrong_lot) (iv := 1) (js := [0])
    h.ok (List.mem_of_getElem? (i := 9) rfl) (List.mem_of_getElem? (i := 3) rfl) rfl (by decide +kernel) (by decide +kernel) rfl rfl (by decide) (by decide +kernel) rfl chk_first_wrong rfl (fun _ _ _ _ _ _ us hl => match us, hl with | [_, _], _ => rfl) (fun _ _ _ _ _ _ us hl => match us, hl with | [_, _], _ => rfl) ⟨rfl, rfl, rfl, rfl, rfl, rfl⟩ (by decide +kernel) (by decide +kernel) ⟨⟨4, by omega, ok_is_lot h⟩, trivial⟩ ⟨rfl, rfl, rfl, rfl, rfl⟩ (by decide +kernel) (fun _ => rfl) (fun _ _ _ _ _ us hl => match us, hl with | [_, _], _ => rfl) (by decide +kernel) rfl (by decide) tab (by rw [h.kw, show kwT "wrong_lot" = [] from by decide +kernel]; exact fun q hq => by cases hq) ⟨rfl, rfl⟩ ⟨rfl, rfl⟩ (fun Φ' f k wds us L dv δ e s => hFW Φ' _ f k wds us L dv δ e s)
def T_check_lots : Pv.Ctx := { N := ["things", "book", "wrong"], fns := ["wrong_lot", "is_row"], free := [], cons := [("MOST_LOTS", (.int 20))], bims := [], fvs := [], kcs := [] }
theorem chk_check_lots : chk T_check_lots freeNames ["things", "book"] sm_check_lots (top 19) = true := by decide +kernel
theorem ok_check_lots (h : Facts E TB) : DefOk E "check_lots" 2 8 (F_check_lots TB) :=
  def_ok (T := T_check_lots) (Φ := (Phi_check_lots TB)) (lvl := 7) (ps := ["things", "book"]) (sm := sm_check_lots) h.ok (List.mem_of_getElem? (i := 10) rfl) chk_check_lots ⟨⟨7, by omega, ok_wrong_lot h⟩, ⟨1, by omega, ok_is_row h⟩, trivial⟩ rfl (fun _ _ _ z => by cases z) (fun y z => by simp [T_check_lots] at z) (fun q hq => by simp only [T_check_lots] at hq; cases hq) (fun z => absurd z (by decide)) (fun z => absurd z (by decide)) (fun p hp => by
    simp only [T_check_lots, List.mem_cons, List.not_mem_nil, or_false] at hp
    rcases hp with rfl
    · exact h.c_MOST_LOTS) (fun z => by cases z) (fun _ _ _ _ _ _ us hl => match us, hl with | [_, _], _ => rfl) (by rw [h.kw, show kwT "check_lots" = [] from by decide +kernel]; exact fun q hq => by cases hq)
def T_check_book : Pv.Ctx := { N := ["things", "book"], fns := ["check_lots", "check_things"], free := [], cons := [], bims := [], fvs := [], kcs := [] }
theorem chk_check_book : chk T_check_book freeNames ["things", "book"] sm_check_book (top 20) = true := by decide +kernel
theorem ok_check_book (h : Facts E TB) : DefOk E "check_book" 2 9 (F_check_book TB) :=
  def_ok (T := T_check_book) (Φ := (Phi_check_book TB)) (lvl := 8) (ps := ["things", "book"]) (sm := sm_check_book) h.ok (List.mem_of_getElem? (i := 11) rfl) chk_check_book ⟨⟨8, by omega, ok_check_lots h⟩, ⟨4, by omega, ok_check_things h⟩, trivial⟩ rfl (fun _ _ _ z => by cases z) (fun y z => by simp [T_check_book] at z) (fun q hq => by simp only [T_check_book] at hq; cases hq) (fun z => absurd z (by decide)) (fun z => absurd z (by decide)) (fun p hp => by simp only [T_check_book] at hp; cases hp) (fun z => by cases z) (fun _ _ _ _ _ _ us hl => match us, hl with | [_, _], _ => rfl) (by rw [h.kw, show kwT "check_book" = [] from by decide +kernel]; exact fun q hq => by cases hq)
def T_crossings_by : Pv.Ctx := { N := ["book", "lot", "other"], fns := ["common_of"], free := ["tuple", "sorted", "len"], cons := [], bims := ["combinations"], fvs := [], kcs := [] }
theorem chk_crossings_by : chk T_crossings_by freeNames ["book"] sm_crossings_by (top 22) = true := by decide +kernel
theorem ok_crossings_by (h : Facts E TB) : DefOk E "crossings_by" 1 2 F_crossings_by :=
  def_ok (T := T_crossings_by) (Φ := Phi_crossings_by) (lvl := 1) (ps := ["book"]) (sm := sm_crossings_by) h.ok (List.mem_of_getElem? (i := 12) rfl) chk_crossings_by ⟨⟨1, by omega, ok_common_of h⟩, trivial⟩ rfl (fun _ _ _ z => by cases z) (fun y z => by simp [T_crossings_by] at z) (fun q hq => by simp only [T_crossings_by] at hq; cases hq) (fun z => absurd z (by decide)) (fun _ => h.comb) (fun p hp => by simp only [T_crossings_by] at hp; cases hp) (fun z => by cases z) (fun _ _ _ _ _ _ us hl => match us, hl with | [_], _ => rfl) (by rw [h.kw, show kwT "crossings_by" = [] from by decide +kernel]; exact fun q hq => by cases hq)
def T_alike_of : Pv.Ctx := { N := ["book", "found"], fns := ["crossings_by"], free := ["len"], cons := [], bims := [], fvs := [], kcs := [] }
theorem chk_alike_of : chk T_alike_of freeNames ["book"] sm_alike_of (top 23) = true := by decide +kernel
theorem ok_alike_of (h : Facts E TB) : DefOk E "alike_of" 1 3 F_alike_of :=
  def_ok (T := T_alike_of) (Φ := Phi_alike_of) (lvl := 2) (ps := ["book"]) (sm := sm_alike_of) h.ok (List.mem_of_getElem? (i := 13) rfl) chk_alike_of ⟨⟨2, by omega, ok_crossings_by h⟩, trivial⟩ rfl (fun _ _ _ z => by cases z) (fun y z => by simp [T_alike_of] at z) (fun q hq => by simp only [T_alike_of] at hq; cases hq) (fun z => absurd z (by decide)) (fun z => absurd z (by decide)) (fun p hp => by simp only [T_alike_of] at hp; cases hp) (fun z => by cases z) (fun _ _ _ _ _ _ us hl => match us, hl with | [_], _ => rfl) (by rw [h.kw, show kwT "alike_of" = [] from by decide +kernel]; exact fun q hq => by cases hq)
def T_alike_by : Pv.Ctx := { N := ["things", "book"], fns := ["alike_of", "check_book"], free := [], cons := [], bims := [], fvs := [], kcs := [] }
theorem chk_alike_by : chk T_alike_by freeNames ["things", "book"] sm_alike_by (top 24) = true := by decide +kernel
theorem ok_alike_by (h : Facts E TB) : DefOk E "alike_by" 2 10 (F_alike_by TB) :=
  def_ok (T := T_alike_by) (Φ := (Phi_alike_by TB)) (lvl := 9) (ps := ["things", "book"]) (sm := sm_alike_by) h.ok (List.mem_of_getElem? (i := 14) rfl) chk_alike_by ⟨⟨3, by omega, ok_alike_of h⟩, ⟨9, by omega, ok_check_book h⟩, trivial⟩ rfl (fun _ _ _ z => by cases z) (fun y z => by simp [T_alike_by] at z) (fun q hq => by simp only [T_alike_by] at hq; cases hq) (fun z => absurd z (by decide)) (fun z => absurd z (by decide)) (fun p hp => by simp only [T_alike_by] at hp; cases hp) (fun z => by cases z) (fun _ _ _ _ _ _ us hl => match us, hl with | [_, _], _ => rfl) (by
      rw [h.kw, show kwT "alike_by" = ([(0, ["book", "things"], [1, 0])] : List (Nat × List Str × List Nat)) from by decide +kernel]
      intro q hq
      simp only [List.mem_cons, List.not_mem_nil, or_false] at hq
      rcases hq with rfl
      · exact ⟨rfl, by decide, fun _ _ _ _ _ _ us ws h1 h2 => match us, ws, h1, h2 with | [], [_, _], _, _ => rfl⟩)
def T_crossings : Pv.Ctx := { N := ["things", "book"], fns := ["crossings_by", "check_book"], free := [], cons := [], bims := [], fvs := [], kcs := [] }
theorem chk_crossings : chk T_crossings freeNames ["things", "book"] sm_crossings (top 25) = true := by decide +kernel
theorem ok_crossings (h : Facts E TB) : DefOk E "crossings" 2 10 (F_crossings TB) :=
  def_ok (T := T_crossings) (Φ := (Phi_crossings TB)) (lvl := 9) (ps := ["things", "book"]) (sm := sm_crossings) h.ok (List.mem_of_getElem? (i := 15) rfl) chk_crossings ⟨⟨2, by omega, ok_crossings_by h⟩, ⟨9, by omega, ok_check_book h⟩, trivial⟩ rfl (fun _ _ _ z => by cases z) (fun y z => by simp [T_crossings] at z) (fun q hq => by simp only [T_crossings] at hq; cases hq) (fun z => absurd z (by decide)) (fun z => absurd z (by decide)) (fun p hp => by simp only [T_crossings] at hp; cases hp) (fun z => by cases z) (fun _ _ _ _ _ _ us hl => match us, hl with | [_, _], _ => rfl) (by
      rw [h.kw, show kwT "crossings" = ([(0, ["book", "things"], [1, 0])] : List (Nat × List Str × List Nat)) from by decide +kernel]
      intro q hq
      simp only [List.mem_cons, List.not_mem_nil, or_false] at hq
      rcases hq with rfl
      · exact ⟨rfl, by decide, fun _ _ _ _ _ _ us ws h1 h2 => match us, ws, h1, h2 with | [], [_, _], _, _ => rfl⟩)
def T_petals_by : Pv.Ctx := { N := ["book", "many", "front", "best", "later", "some", "one", "other", "core", "at", "own"], fns := ["common_of"], free := ["range", "all", "len"], cons := [], bims := [], fvs := [], kcs := [] }
theorem chk_petals_by : chk T_petals_by freeNames ["book"] sm_petals_by (top 27) = true := by decide +kernel
theorem ok_petals_by (h : Facts E TB) : DefOk E "petals_by" 1 2 F_petals_by :=
  def_ok (T := T_petals_by) (Φ := Phi_petals_by) (lvl := 1) (ps := ["book"]) (sm := sm_petals_by) h.ok (List.mem_of_getElem? (i := 16) rfl) chk_petals_by ⟨⟨1, by omega, ok_common_of h⟩, trivial⟩ rfl (fun _ _ _ z => by cases z) (fun y z => by simp [T_petals_by] at z) (fun q hq => by simp only [T_petals_by] at hq; cases hq) (fun z => absurd z (by decide)) (fun z => absurd z (by decide)) (fun p hp => by simp only [T_petals_by] at hp; cases hp) (fun z => by cases z) (fun _ _ _ _ _ _ us hl => match us, hl with | [_], _ => rfl) (by rw [h.kw, show kwT "petals_by" = [] from by decide +kernel]; exact fun q hq => by cases hq)
def T_greatest_petals : Pv.Ctx := { N := ["things", "book"], fns := ["petals_by", "check_book"], free := [], cons := [], bims := [], fvs := [], kcs := [] }
theorem chk_greatest_petals : chk T_greatest_petals freeNames ["things", "book"] sm_greatest_petals (top 28) = true := by decide +kernel
theorem ok_greatest_petals (h : Facts E TB) : DefOk E "greatest_petals" 2 10 (F_greatest_petals TB) :=
  def_ok (T := T_greatest_petals) (Φ := (Phi_greatest_petals TB)) (lvl := 9) (ps := ["things", "book"]) (sm := sm_greatest_petals) h.ok (List.mem_of_getElem? (i := 17) rfl) chk_greatest_petals ⟨⟨2, by omega, ok_petals_by h⟩, ⟨9, by omega, ok_check_book h⟩, trivial⟩ rfl (fun _ _ _ z => by cases z) (fun y z => by simp [T_greatest_petals] at z) (fun q hq => by simp only [T_greatest_petals] at hq; cases hq) (fun z => absurd z (by decide)) (fun z => absurd z (by decide)) (fun p hp => by simp only [T_greatest_petals] at hp; cases hp) (fun z => by cases z) (fun _ _ _ _ _ _ us hl => match us, hl with | [_, _], _ => rfl) (by rw [h.kw, show kwT "greatest_petals" = [] from by decide +kernel]; exact fun q hq => by cases hq)
def T__law_bag : Pv.Ctx := { N := ["script", "lap", "stirred", "cell", "own"], fns := [], free := ["abs", "int", "len"], cons := [], bims := [], fvs := [], kcs := [] }
theorem chk__law_bag : chk T__law_bag freeNames ["script", "lap"] sm__law_bag (top 30) = true := by decide +kernel
theorem ok__law_bag (h : Facts E TB) : DefOk E "_law_bag" 2 1 F__law_bag :=
  def_ok (T := T__law_bag) (Φ := Phi__law_bag) (lvl := 0) (ps := ["script", "lap"]) (sm := sm__law_bag) h.ok (List.mem_of_getElem? (i := 18) rfl) chk__law_bag trivial rfl (fun _ _ _ z => by cases z) (fun y z => by simp [T__law_bag] at z) (fun q hq => by simp only [T__law_bag] at hq; cases hq) (fun z => absurd z (by decide)) (fun z => absurd z (by decide)) (fun p hp => by simp only [T__law_bag] at hp; cases hp) (fun z => by cases z) (fun _ _ _ _ _ _ us hl => match us, hl with | [_, _], _ => rfl) (by rw [h.kw, show kwT "_law_bag" = [] from by decide +kernel]; exact fun q hq => by cases hq)
def T__law_take : Pv.Ctx := { N := ["bag", "top", "digit"], fns := [], free := ["int", "divmod"], cons := [], bims := [], fvs := [], kcs := [] }
theorem chk__law_take : chk T__law_take freeNames ["bag", "top"] sm__law_take (top 31) = true := by decide +kernel
theorem ok__law_take (h : Facts E TB) : DefOk E "_law_take" 2 1 F__law_take :=
  def_ok (T := T__law_take) (Φ := Phi__law_take) (lvl := 0) (ps := ["bag", "top"]) (sm := sm__law_take) h.ok (List.mem_of_getElem? (i := 19) rfl) chk__law_take trivial rfl (fun _ _ _ z => by cases z) (fun y z => by simp [T__law_take] at z) (fun q hq => by simp only [T__law_take] at hq; cases hq) (fun z => absurd z (by decide)) (fun z => absurd z (by decide)) (fun p hp => by simp only [T__law_take] at hp; cases hp) (fun z => by cases z) (fun _ _ _ _ _ _ us hl => match us, hl with | [_, _], _ => rfl) (by rw [h.kw, show kwT "_law_take" = [] from by decide +kernel]; exact fun q hq => by cases hq)
def T__law_pull : Pv.Ctx := { N := ["bag", "some"], fns := ["_law_take"], free := ["len"], cons := [], bims := [], fvs := [], kcs := [] }
theorem chk__law_pull : chk T__law_pull freeNames ["bag", "some"] sm__law_pull (top 32) = true := by decide +kernel
theorem ok__law_pull (h : Facts E TB) : DefOk E "_law_pull" 2 2 F__law_pull :=
  def_ok (T := T__law_pull) (Φ := Phi__law_pull) (lvl := 1) (ps := ["bag", "some"]) (sm := sm__law_pull) h.ok (List.mem_of_getElem? (i := 20) rfl) chk__law_pull ⟨⟨1, by omega, ok__law_take h⟩, trivial⟩ rfl (fun _ _ _ z => by cases z) (fun y z => by simp [T__law_pull] at z) (fun q hq => by simp only [T__law_pull] at hq; cases hq) (fun z => absurd z (by decide)) (fun z => absurd z (by decide)) (fun p hp => by simp only [T__law_pull] at hp; cases hp) (fun z => by cases z) (fun _ _ _ _ _ _ us hl => match us, hl with | [_, _], _ => rfl) (by rw [h.kw, show kwT "_law_pull" = [] from by decide +kernel]; exact fun q hq => by cases hq)
def T__law_lots : Pv.Ctx := { N := ["things", "found", "thing", "lot"], fns := [], free := ["sorted", "range"], cons := [], bims := [], fvs := [], kcs := [] }
theorem chk__law_lots : chk T__law_lots freeNames ["things"] sm__law_lots (top 33) = true := by decide +kernel
theorem ok__law_lots (h : Facts E TB) : DefOk E "_law_lots" 1 1 F__law_lots :=
  def_ok (T := T__law_lots) (Φ := Phi__law_lots) (lvl := 0) (ps := ["things"]) (sm := sm__law_lots) h.ok (List.mem_of_getElem? (i := 21) rfl) chk__law_lots trivial rfl (fun _ _ _ z => by cases z) (fun y z => by simp [T__law_lots] at z) (fun q hq => by simp only [T__law_lots] at hq; cases hq) (fun z => absurd z (by decide)) (fun z => absurd z (by decide)) (fun p hp => by simp only [T__law_lots] at hp; cases hp) (fun z => by cases z) (fun _ _ _ _ _ _ us hl => match us, hl with | [_], _ => rfl) (by rw [h.kw, show kwT "_law_lots" = [] from by decide +kernel]; exact fun q hq => by cases hq)
def T__law_book : Pv.Ctx := { N := ["bag", "things", "most", "every", "size", "turn", "some", "lot", "same", "own"], fns := ["_law_take", "_law_pull", "_law_lots"], free := ["tuple", "sorted", "set", "range", "len"], cons := [], bims := [], fvs := [], kcs := [] }
theorem chk__law_book : chk T__law_book freeNames ["bag", "things", "most"] sm__law_book (top 34) = true := by decide +kernel
theorem ok__law_book (h : Facts E TB) : DefOk E "_law_book" 3 3 F__law_book :=
  def_ok (T := T__law_book) (Φ := Phi__law_book) (lvl := 2) (ps := ["bag", "things", "most"]) (sm := sm__law_book) h.ok (List.mem_of_getElem? (i := 22) rfl) chk__law_book ⟨⟨1, by omega, ok__law_take h⟩, ⟨2, by omega, ok__law_pull h⟩, ⟨1, by omega, ok__law_lots h⟩, trivial⟩ rfl (fun _ _ _ z => by cases z) (fun y z => by simp [T__law_book] at z) (fun q hq => by simp only [T__law_book] at hq; cases hq) (fun z => absurd z (by decide)) (fun z => absurd z (by decide)) (fun p hp => by simp only [T__law_book] at hp; cases hp) (fun z => by cases z) (fun _ _ _ _ _ _ us hl => match us, hl with | [_, _, _], _ => rfl) (by rw [h.kw, show kwT "_law_book" = [] from by decide +kernel]; exact fun q hq => by cases hq)
def T__law_meet : Pv.Ctx := { N := ["one", "two", "thing"], fns := [], free := ["tuple"], cons := [], bims := [], fvs := [], kcs := [] }
theorem chk__law_meet : chk T__law_meet freeNames ["one", "two"] sm__law_meet (top 35) = true := by decide +kernel
theorem ok__law_meet (h : Facts E TB) : DefOk E "_law_meet" 2 1 F__law_meet :=
  def_ok (T := T__law_meet) (Φ := Phi__law_meet) (lvl := 0) (ps := ["one", "two"]) (sm := sm__law_meet) h.ok (List.mem_of_getElem? (i := 23) rfl) chk__law_meet trivial rfl (fun _ _ _ z => by cases z) (fun y z => by simp [T__law_meet] at z) (fun q hq => by simp only [T__law_meet] at hq; cases hq) (fun z => absurd z (by decide)) (fun z => absurd z (by decide)) (fun p hp => by simp only [T__law_meet] at hp; cases hp) (fun z => by cases z) (fun _ _ _ _ _ _ us hl => match us, hl with | [_, _], _ => rfl) (by rw [h.kw, show kwT "_law_meet" = [] from by decide +kernel]; exact fun q hq => by cases hq)
def T__law_some_of : Pv.Ctx := { N := ["many", "found", "k", "lot"], fns := [], free := ["sorted", "range"], cons := [], bims := [], fvs := [], kcs := [] }
theorem chk__law_some_of : chk T__law_some_of freeNames ["many"] sm__law_some_of (top 36) = true := by decide +kernel
theorem ok__law_some_of (h : Facts E TB) : DefOk E "_law_some_of" 1 1 F__law_some_of :=
  def_ok (T := T__law_some_of) (Φ := Phi__law_some_of) (lvl := 0) (ps := ["many"]) (sm := sm__law_some_of) h.ok (List.mem_of_getElem? (i := 24) rfl) chk__law_some_of trivial rfl (fun _ _ _ z => by cases z) (fun y z => by simp [T__law_some_of] at z) (fun q hq => by simp only [T__law_some_of] at hq; cases hq) (fun z => absurd z (by decide)) (fun z => absurd z (by decide)) (fun p hp => by simp only [T__law_some_of] at hp; cases hp) (fun z => by cases z) (fun _ _ _ _ _ _ us hl => match us, hl with | [_], _ => rfl) (by rw [h.kw, show kwT "_law_some_of" = [] from by decide +kernel]; exact fun q hq => by cases hq)
def T__law_petals : Pv.Ctx := { N := ["book", "best", "lot", "both", "k", "j"], fns := ["_law_some_of", "_law_meet"], free := ["len", "max", "range"], cons := [], bims := [], fvs := [], kcs := [] }
theorem chk__law_petals : chk T__law_petals freeNames ["book"] sm__law_petals (top 37) = true := by decide +kernel
theorem ok__law_petals (h : Facts E TB) : DefOk E "_law_petals" 1 2 F__law_petals :=
  def_ok (T := T__law_petals) (Φ := Phi__law_petals) (lvl := 1) (ps := ["book"]) (sm := sm__law_petals) h.ok (List.mem_of_getElem? (i := 25) rfl) chk__law_petals ⟨⟨1, by omega, ok__law_some_of h⟩, ⟨1, by omega, ok__law_meet h⟩, trivial⟩ rfl (fun _ _ _ z => by cases z) (fun y z => by simp [T__law_petals] at z) (fun q hq => by simp only [T__law_petals] at hq; cases hq) (fun z => absurd z (by decide)) (fun z => absurd z (by decide)) (fun p hp => by simp only [T__law_petals] at hp; cases hp) (fun z => by cases z) (fun _ _ _ _ _ _ us hl => match us, hl with | [_], _ => rfl) (by rw [h.kw, show kwT "_law_petals" = [] from by decide +kernel]; exact fun q hq => by cases hq)
def T__law_right : Pv.Ctx := { N := ["bag", "things", "book", "found", "k", "due", "own", "lot", "some", "both", "hub", "j", "thing"], fns := ["alike_by", "_law_meet", "_law_petals", "greatest_petals", "crossings", "_law_take", "_law_book"], free := ["len", "tuple", "repr", "sorted", "list", "range", "set"], cons := [], bims := [], fvs := [], kcs := [(0, 0, ["book", "things"], [1, 0]), (4, 0, ["book", "things"], [1, 0])] }
theorem chk__law_right : chk T__law_right freeNames ["bag"] sm__law_right_k88 (top 38) = true := by decide +kernel
theorem ok__law_right (h : Facts E TB) : DefOk E "_law_right" 1 11 (F__law_right_k88 TB) :=
  def_ok (T := T__law_right) (Φ := (Phi__law_right_k88 TB)) (lvl := 10) (ps := ["bag"]) (sm := sm__law_right_k88) h.ok (List.mem_of_getElem? (i := 26) rfl) chk__law_right ⟨⟨10, by omega, ok_alike_by h⟩, ⟨1, by omega, ok__law_meet h⟩, ⟨2, by omega, ok__law_petals h⟩, ⟨10, by omega, ok_greatest_petals h⟩, ⟨10, by omega, ok_crossings h⟩, ⟨1, by omega, ok__law_take h⟩, ⟨3, by omega, ok__law_book h⟩, trivial⟩ rfl (fun _ _ _ z => by cases z) (fun y z => by simp [T__law_right] at z) (fun q hq => by
    simp only [T__law_right, List.mem_cons, List.not_mem_nil, or_false] at hq
    rcases hq with rfl | rfl
    · exact ⟨"alike_by", rfl, by rw [h.kw, show kwT "alike_by" = ([(0, ["book", "things"], [1, 0])] : List (Nat × List Str × List Nat)) from by decide +kernel]; exact List.mem_of_getElem? (i := 0) rfl⟩
    · exact ⟨"crossings", rfl, by rw [h.kw, show kwT "crossings" = ([(0, ["book", "things"], [1, 0])] : List (Nat × List Str × List Nat)) from by decide +kernel]; exact List.mem_of_getElem? (i := 0) rfl⟩) (fun z => absurd z (by decide)) (fun z => absurd z (by decide)) (fun p hp => by simp only [T__law_right] at hp; cases hp) (fun z => by cases z) (fun _ _ _ _ _ _ us hl => match us, hl with | [_], _ => rfl) (by rw [h.kw, show kwT "_law_right" = [] from by decide +kernel]; exact fun q hq => by cases hq)
def T_law : Pv.Ctx := { N := ["script", "lap", "bag", "turn"], fns := ["_law_right", "_law_bag"], free := ["range", "max", "min", "len", "all"], cons := [], bims := [], fvs := [], kcs := [] }
theorem chk_law : chk T_law freeNames ["script"] sm_law_k88 (top 39) = true := by decide +kernel
theorem ok_law (h : Facts E TB) : DefOk E "law" 1 12 (F_law_k88 TB) :=
  def_ok (T := T_law) (Φ := (Phi_law_k88 TB)) (lvl := 11) (ps := ["script"]) (sm := sm_law_k88) h.ok (List.mem_of_getElem? (i := 27) rfl) chk_law ⟨⟨11, by omega, ok__law_right h⟩, ⟨1, by omega, ok__law_bag h⟩, trivial⟩ rfl (fun _ _ _ z => by cases z) (fun y z => by simp [T_law] at z) (fun q hq => by simp only [T_law] at hq; cases hq) (fun z => absurd z (by decide)) (fun z => absurd z (by decide)) (fun p hp => by simp only [T_law] at hp; cases hp) (fun z => by cases z) (fun _ _ _ _ _ _ us hl => match us, hl with | [_], _ => rfl) (by rw [h.kw, show kwT "law" = [] from by decide +kernel]; exact fun q hq => by cases hq)
theorem okD_law (h : Facts E TB) {fd : FuncData} (D : FunD E.c.K "law" "law" (defArgs (top 39)) (defBody (top 39)) (defScope (top 39)) [] [] (E.c.fa "law") fd) : FnOkG E.P E.w E.c.K E.mg E.base 12 (E.c.fa "law") fd ["script"] (spF E.c 1 (F_law_k88 TB)) :=
  def_okD D (T := T_law) (Φ := (Phi_law_k88 TB)) (lvl := 11) (ps := ["script"]) (sm := sm_law_k88) h.ok chk_law ⟨⟨11, by omega, ok__law_right h⟩, ⟨1, by omega, ok__law_bag h⟩, trivial⟩ rfl (fun _ _ _ z => by cases z) (fun y z => by simp [T_law] at z) (fun q hq => by simp only [T_law] at hq; cases hq) (fun z => absurd z (by decide)) (fun z => absurd z (by decide)) (fun p hp => by simp only [T_law] at hp; cases hp) (fun z => by cases z) (fun _ _ _ _ _ _ us hl => match us, hl with | [_], _ => rfl)
-- level of law: 12
end Pk88
set_option maxRecDepth 100000
set_option maxHeartbeats 4000000
namespace Pk88
open PySem PySem.Spec Pv Pt PyProof.Rows
section
variable {δ : List Bx} {TB : TBs} {n : Int} {b : List Lot}
theorem f_alike_of (hb : b.length ≤ 6) : F_alike_of [bkD b] δ = .ok (alk1 (crs b)) δ := by
  simp [F_alike_of, sm_alike_of, Phi_alike_of, f_crossings_by hb]
  match h : crs b with
  | [] => simp [alk1]
  | [x] =>
    have i0 : idxK (lotI [x]) (.int 0) δ = .ok (.int x) δ := idx0_lot (by simp)
    by_cases h0 : 0 < x
    · simp [alk1, h0, i0]
    · simp [alk1, h0, i0]
  | x :: y :: r =>
    have hl : ¬ ((r.length : Int) + 1 + 1 = 1) := by omega
    simp [alk1, hl]
theorem f_alike_by (hn : Nn n) (bk : BookOk n b) (hm : b.length ≤ 6) (ht : HasTab TB "wrong_lot" δ) : F_alike_by TB [.int n, bkD b] δ = .ok (alk1 (crs b)) δ := by
  simp [F_alike_by, sm_alike_by, Phi_alike_by, f_check_book hn bk ht, f_alike_of hm]
theorem f_crossings (hn : Nn n) (bk : BookOk n b) (hm : b.length ≤ 6) (ht : HasTab TB "wrong_lot" δ) : F_crossings TB [.int n, bkD b] δ = .ok (lotI (crs b)) δ := by
  simp [F_crossings, sm_crossings, Phi_crossings, f_check_book hn bk ht, f_crossings_by hm]
theorem f_greatest (hn : Nn n) (bk : BookOk n b) (hm : b.length ≤ 6) (ht : HasTab TB "wrong_lot" δ) : ∃ p : Lot, F_greatest_petals TB [.int n, bkD b] δ = .ok (lotI p) δ ∧ ((p = [] ∧ NoT b) ∨ (Sun b p ∧ 3 ≤ p.length)) := by
  obtain ⟨p, e, h⟩ := f_petals_by (δ := δ) hm
  exact ⟨p, by simp [F_greatest_petals, sm_greatest_petals, Phi_greatest_petals, f_check_book hn bk ht, e], h⟩
end
def smRest : Sm := match sm__law_right_k88 with
  | .seq _ (.seq _ (.seq _ r)) => r
  | _ => .nil
def smJ : Sm := (.seq (.putd 3 (.bi .len (.cons (.call 1 (.cons (.idx (.var 2) (.var 11)) (.cons (.idx (.var 2) (.var 4)) .nil))) .nil)) (.bl true)) .nil)
def smKk : Sm := (.seq (.fo (.nm 11) (.rng1 (.cons (.var 4) .nil)) smJ) .nil)
def smRest2 : Sm := match smRest with
  | .seq _ (.seq _ r) => r
  | _ => .nil
theorem rest_eq : smRest = .seq (.newd 3 false) (.seq (.fo (.nm 4) (.rng1 (.cons (.bi .len (.cons (.var 2) .nil)) .nil)) smKk) smRest2) := rfl
section
variable {δ : List Bx} {TB : TBs} {n : Int} {b : List Lot}
def kB (b : List Lot) (ks : List Int) (k j : Int) : List Int := keysF ks (cm (gB b j, gB b k))
def kk (b : List Lot) (ks : List Int) (k : Int) : List Int := (rg k).foldl (fun ks j => kB b ks k j) ks
def Good (ks : List Int) : Prop := ks.Nodup ∧ ∀ x ∈ ks, 0 ≤ x ∧ x < 6
theorem good_len {ks : List Int} (h : Good ks) : ks.length ≤ 6 := by
  have p : ks.Perm (ascU ks) := (List.perm_ext_iff_of_nodup h.1 (lt_nodup (ascU_asc ks))).mpr fun x => mem_ascU.symm
  rw [p.length_eq]
  have := pok_len_any (m := 6) (s := ascU ks) ⟨ascU_asc ks, fun x hx => h.2 x (mem_ascU.mp hx)⟩
  exact this
theorem gB_mem (b : List Lot) {k : Int} (h0 : 0 ≤ k) (h1 : k < (b.length : Nat)) : gB b k ∈ b := by
  unfold gB
  rw [List.getD_eq_getElem?_getD, List.getElem?_eq_getElem (show k.toNat < b.length by omega)]
  exact List.getElem_mem _
theorem gB_at (b : List Lot) {k : Int} (h0 : 0 ≤ k) (h1 : k < (b.length : Nat)) : b[k.toNat]? = some (gB b k) := by
  unfold gB
  rw [List.getD_eq_getElem?_getD, List.getElem?_eq_getElem (show k.toNat < b.length by omega)]; rfl
theorem keys_loop (hn : Nn n) (h5 : n ≤ 5) (bk : BookOk n b) (hm : b.length ≤ 6) (s0 s4 s5 s6 s7 s8 s9 s10 s11 s12 : Sl) :
    ∃ t4 t11, floop (.nm 4) (semS (Phi__law_right_k88 TB) smKk) ((rg b.length).map .int) [s0, .v (.int n), .v (bkD b), .ownd false [] [], s4, s5, s6, s7, s8, s9, s10, s11, s12] δ = .ok (.nx, [s0, .v (.int n), .v (bkD b), .ownd false (((rg b.length).foldl (kk b) []).map .int) (tru ((rg b.length).foldl (kk b) [])), t4, s5, s6, s7, s8, s9, s10, t11, s12]) δ ∧ Good ((rg b.length).foldl (kk b) []) := by
  have idx : ∀ k : Int, 0 ≤ k → k < (b.length : Nat) → idxK (bkD b) (.int k) δ = .ok (lotI (gB b k)) δ := fun k h0 h1 => by
    show ofO (L2.atI (b.map lotI) k) δ = _
    rw [atI_lots h0 h1]; rfl
  have inner : ∀ k : Int, 0 ≤ k → k < (b.length : Nat) → ∀ (ks : List Int) (s11 : Sl), Good ks → ∃ ρ', floop (.nm 11) (semS (Phi__law_right_k88 TB) smJ) ((rg k).map .int) [s0, .v (.int n), .v (bkD b), .ownd false (ks.map .int) (tru ks), .v (.int k), s5, s6, s7, s8, s9, s10, s11, s12] δ = .ok (.nx, ρ') δ ∧
      Good (kk b ks k) ∧ ∃ s11, ρ' = [s0, .v (.int n), .v (bkD b), .ownd false ((kk b ks k).map .int) (tru (kk b ks k)), .v (.int k), s5, s6, s7, s8, s9, s10, s11, s12] := by
    intro k hk0 hk1 ks s11 hg
    refine floop_ex (fun ks ρ => Good ks ∧ ∃ s11, ρ = [s0, .v (.int n), .v (bkD b), .ownd false (ks.map .int) (tru ks), .v (.int k), s5, s6, s7, s8, s9, s10, s11, s12]) (fun ks j => kB b ks k j) ⟨hg, _, rfl⟩ ?_
    rintro j hj ks ρ ⟨hg, s11, rfl⟩
    have hj2 := mem_rg.mp hj
    have hc := cm_le hn (bk.lot _ (gB_mem b hj2.1 (by omega))) (p := (gB b j, gB b k))
    have hl := good_len hg
    have hp := putL_tru ks (cm (gB b j, gB b k))
    have hcap : ks.length < cap := by unfold cap; omega
    have ecm : (((meet (gB b j) (gB b k)).length : Nat) : Int) = cm (gB b j, gB b k) := rfl
    have h1 : (putL false (ks.map .int) (tru ks) (.int (cm (gB b j, gB b k))) (.bl true)).1 = (kB b ks k j).map .int := by rw [hp]; rfl
    have h2 : (putL false (ks.map .int) (tru ks) (.int (cm (gB b j, gB b k))) (.bl true)).2 = tru (kB b ks k j) := by rw [hp]; rfl
    refine ⟨_, rfl, [s0, .v (.int n), .v (bkD b), .ownd false ((kB b ks k j).map .int) (tru (kB b ks k j)), .v (.int k), s5, s6, s7, s8, s9, s10, .v (.int j), s12], ?_, ⟨nodup_keysF hg.1, fun x hx => ?_⟩, _, rfl⟩
    · simp [smJ, Phi__law_right_k88, r_put, dctAt, idx j hj2.1 (by omega), idx k hk0 hk1, ecm, okK, keyD, hcap, h1, h2]
    · rcases mem_keysF.mp hx with hx | rfl
      · exact hg.2 x hx
      · omega
  have outer : ∃ ρ', floop (.nm 4) (semS (Phi__law_right_k88 TB) smKk) ((rg b.length).map .int) [s0, .v (.int n), .v (bkD b), .ownd false (([] : List Int).map .int) (tru []), s4, s5, s6, s7, s8, s9, s10, s11, s12] δ = .ok (.nx, ρ') δ ∧
      Good ((rg b.length).foldl (kk b) []) ∧ ∃ s4 s11, ρ' = [s0, .v (.int n), .v (bkD b), .ownd false (((rg b.length).foldl (kk b) []).map .int) (tru ((rg b.length).foldl (kk b) [])), s4, s5, s6, s7, s8, s9, s10, s11, s12] := by
    refine floop_ex (fun ks ρ => Good ks ∧ ∃ s4 s11, ρ = [s0, .v (.int n), .v (bkD b), .ownd false (ks.map .int) (tru ks), s4, s5, s6, s7, s8, s9, s10, s11, s12]) (kk b) ⟨⟨.nil, by simp⟩, _, _, rfl⟩ ?_
    rintro k hk ks ρ ⟨hg, s4, s11, rfl⟩
    have hk2 := mem_rg.mp hk
    obtain ⟨ρ', e, hg2, t11, rfl⟩ := inner k hk2.1 hk2.2 ks s11 hg
    refine ⟨_, rfl, [s0, .v (.int n), .v (bkD b), .ownd false ((kk b ks k).map .int) (tru (kk b ks k)), .v (.int k), s5, s6, s7, s8, s9, s10, t11, s12], ?_, hg2, _, _, rfl⟩
    simp [smKk, rng1_of (n := k) (by omega)]
    rw [e]
    simp
  obtain ⟨ρ', e, hg, t4, t11, rfl⟩ := outer
  exact ⟨t4, t11, e, hg⟩
theorem mem_keys {x : Int} : x ∈ (rg b.length).foldl (kk b) [] ↔ x ∈ (pairsOf b).map cm := by
  have inner : ∀ (k : Int) (js : List Int) (ks : List Int), x ∈ js.foldl (fun ks j => kB b ks k j) ks ↔ x ∈ ks ∨ ∃ j ∈ js, x = cm (gB b j, gB b k) := by
    intro k js
    induction js with
    | nil => intro ks; simp
    | cons j js ih =>
      intro ks
      rw [List.foldl_cons, ih]
      unfold kB
      rw [mem_keysF]
      simp only [List.mem_cons, exists_eq_or_imp]
      exact or_assoc
  have outer : ∀ (kks : List Int) (ks : List Int), x ∈ kks.foldl (kk b) ks ↔ x ∈ ks ∨ ∃ k ∈ kks, ∃ j ∈ rg k, x = cm (gB b j, gB b k) := by
    intro kks
    induction kks with
    | nil => intro ks; simp
    | cons k kks ih =>
      intro ks
      rw [List.foldl_cons, ih]
      unfold kk
      rw [inner]
      simp only [List.mem_cons, exists_eq_or_imp]
      exact or_assoc
  rw [outer, List.mem_map]
  have gd : ∀ j : Nat, ∀ y, b[j]? = some y → gB b (j : Int) = y := fun j y h => by
    unfold gB
    rw [List.getD_eq_getElem?_getD, show ((j : Int).toNat) = j by omega, h]; rfl
  constructor
  · rintro (h | ⟨k, hk, j, hj, rfl⟩)
    · cases h
    · have hk2 := mem_rg.mp hk
      have hj2 := mem_rg.mp hj
      refine ⟨(gB b j, gB b k), mem_pairs.mpr ⟨j.toNat, k.toNat, by omega, ?_, ?_⟩, rfl⟩
      · exact gB_at b hj2.1 (by omega)
      · exact gB_at b hk2.1 hk2.2
  · rintro ⟨p, hp, rfl⟩
    obtain ⟨j, k, h1, h2, h3⟩ := mem_pairs.mp hp
    have l3 := (List.getElem?_eq_some_iff.mp h3).1
    exact .inr ⟨(k : Int), mem_rg.mpr (by omega), (j : Int), mem_rg.mpr (by omega), by rw [gd j _ h2, gd k _ h3]⟩
theorem keys_sorted (hg : Good ((rg b.length).foldl (kk b) [])) : sortI ((rg b.length).foldl (kk b) []) = crs b :=
  sort_keys hg.1 (fun y => mem_keys) (sortI_perm _) (sortI_asc _)
def smA5 : Sm := match smRest2 with
  | .seq a _ => a
  | _ => .nil
def smA6 : Sm := match smRest2 with
  | .seq _ (.seq a _) => a
  | _ => .nil
def smRest3 : Sm := match smRest2 with
  | .seq _ (.seq _ r) => r
  | _ => .nil
theorem rest2_eq : smRest2 = .seq smA5 (.seq smA6 smRest3) := rfl
theorem listK_eq (ks : List Int) (vs : List Pv.D) : dListK [.wkd false (ks.map .int) vs] = some (.lst (ks.map .int)) := by
  unfold dListK
  simp only [dctD, intsD_map']
theorem a5_turn {ks : List Int} (s0 s1 s2 s4 s5 s6 s7 s8 s9 s10 s11 s12 : Sl) : semS (Phi__law_right_k88 TB) smA5 [s0, s1, s2, .ownd false (ks.map .int) (tru ks), s4, s5, s6, s7, s8, s9, s10, s11, s12] δ = .ok (.nx, [s0, s1, s2, .ownd false (ks.map .int) (tru ks), s4, .v (lotI (sortI ks)), s6, s7, s8, s9, s10, s11, s12]) δ := by
  simp [smA5, smRest2, smRest, sm__law_right_k88, rdSl, listK_eq, dSorted_ints]
theorem a6_turn (c : List Int) (s0 s1 s2 s3 s4 s6 s7 s8 s9 s10 s11 s12 : Sl) : semS (Phi__law_right_k88 TB) smA6 [s0, s1, s2, s3, s4, .v (lotI c), s6, s7, s8, s9, s10, s11, s12] δ = .ok (.nx, [s0, s1, s2, s3, s4, .v (lotI c), .v (alk1 c), s7, s8, s9, s10, s11, s12]) δ := by
  match c with
  | [] => simp [smA6, smRest2, smRest, sm__law_right_k88, alk1]
  | [x] =>
    have i0 : idxK (lotI [x]) (.int 0) δ = .ok (.int x) δ := idx0_lot (by simp)
    by_cases h0 : 0 < x
    · simp [smA6, smRest2, smRest, sm__law_right_k88, alk1, h0, i0]
    · simp [smA6, smRest2, smRest, sm__law_right_k88, alk1, h0, i0]
  | x :: y :: r =>
    have hl : ¬ ((r.length : Int) + 1 + 1 = 1) := by omega
    simp [smA6, smRest2, smRest, sm__law_right_k88, alk1, hl]
theorem strong_alk (c : List Int) : (alk1 c).strong = true := by
  unfold alk1; split
  · split <;> rfl
  · rfl
theorem alk_cases (c : List Int) : alk1 c = .non ∨ ∃ x, 0 < x ∧ c = [x] ∧ alk1 c = .int x := by
  unfold alk1
  split
  · rename_i x
    by_cases h : 0 < x
    · exact .inr ⟨x, h, rfl, by rw [if_pos h]⟩
    · exact .inl (by rw [if_neg h])
  · exact .inl rfl
theorem rest3_turn (hn : Nn n) (h5 : n ≤ 5) (bk : BookOk n b) (hm : b.length ≤ 6) (ht : HasTab TB "wrong_lot" δ) (s0 s3 s4 s7 s8 s9 s10 s11 s12 : Sl) :
    (semS (Phi__law_right_k88 TB) smRest3 [s0, .v (.int n), .v (bkD b), s3, s4, .v (lotI (crs b)), .v (alk1 (crs b)), s7, s8, s9, s10, s11, s12] δ).bind finF = .ok (.bl true) δ := by
  have hlo := hn.lo
  have hcr := f_crossings (TB := TB) (δ := δ) hn bk hm ht
  have hal := f_alike_by (TB := TB) (δ := δ) hn bk hm ht
  obtain ⟨p, hgp, hp⟩ := f_greatest (TB := TB) (δ := δ) hn bk hm ht
  have hin : ∀ x ∈ crs b, 0 ≤ x ∧ x < 6 := fun x hx => by
    obtain ⟨q, hq, rfl⟩ := mem_crs.mp hx
    have := cm_le hn (bk.lot _ (pairs_mem hq).1) (p := q)
    omega
  have hlot : LotOk 6 (crs b) := ⟨ascU_asc _, hin⟩
  have hlen := pok_len_any (m := 6) hlot
  have rp : ∀ x : Pv.D, rpD 39 x = true → wt x ≤ 2000 → rpOk (.lst [x, x]) = true := fun x h1 h2 => rpOk_of (by show rpL 39 [x, x] = true; simp [rpL, h1]) (by show wtL [x, x] + 4 ≤ cap; simp only [wtL]; unfold cap; omega) rfl
  have sm : ∀ x : Pv.D, Pv.same x x = true → Pv.same (.lst [x, x]) (.lst [x, x]) = true := fun x h => by show sameL [x, x] [x, x] = true; simp [sameL, h]
  have r1 := rp (lotI (crs b)) (rp_lot 38 (lot_small (n := 6) (by omega) hlot)) (by rw [wt_lot]; omega)
  have r2 := sm (lotI (crs b)) (same_lot _)
  have few := alike_few hn h5 bk
  have cp2 : 2 ≤ cap := by unfold cap; omega
  have sa := strong_alk (crs b)
  have key : rpOk (.lst [alk1 (crs b), alk1 (crs b)]) = true ∧ Pv.same (.lst [alk1 (crs b), alk1 (crs b)]) (.lst [alk1 (crs b), alk1 (crs b)]) = true := by
    rcases alk_cases (crs b) with e | ⟨x, h0, e1, e⟩
    · rw [e]; exact ⟨rp _ rfl (by simp [wt]), sm _ rfl⟩
    · rw [e]
      have hx := hin x (by rw [e1]; exact List.mem_singleton.mpr rfl)
      exact ⟨rp _ (by simp only [rpD]; exact decide_eq_true (by omega)) (by simp [wt]), sm _ (by simp [Pv.same])⟩
  obtain ⟨r3, r4⟩ := key
  have few2 : (bI (!isNon (alk1 (crs b))) (decide (n < (b.length : Nat))) false) = false := by
    rcases alk_cases (crs b) with e | ⟨x, h0, e1, e⟩
    · rw [e]; rfl
    · have := few (by rw [e]; exact fun z => by cases z)
      rw [e]
      show decide _ = false
      rw [decide_eq_false]; omega
  have few3 : (!isNon (alk1 (crs b)) && decide (n < (b.length : Int))) = false := by rw [← bI_Bf]; exact few2
  have few4 : isNon (alk1 (crs b)) = true ∨ (b.length : Int) ≤ n := by
    cases h : isNon (alk1 (crs b)) with
    | true => exact .inl rfl
    | false => rw [h] at few3; simp at few3; exact .inr few3
  generalize hA : alk1 (crs b) = A at *
  rcases hp with ⟨rfl, hno⟩ | ⟨hs, h3⟩
  · have hlp := f__law_petals (δ := δ) hm hno
    simp [smRest3, smRest2, smRest, sm__law_right_k88, Phi__law_right_k88, hcr, hal, hgp, r1, r2, r3, r4, cp2, sa, hlp, few2]
    exact few4
  · have idx : ∀ k ∈ p, ∀ δ, idxK (bkD b) (.int k) δ = .ok (lotI (gB b k)) δ := fun k hk δ => by
      have := hs.ok.2 k hk
      show ofO (L2.atI (b.map lotI) k) δ = _
      rw [atI_lots this.1 this.2]; rfl
    have hpl := pok_len_any hs.ok
    have hne : p ≠ [] := fun e => by rw [e] at h3; simp at h3
    have bk2 := sun_book bk hs.ok hm
    have hal2 := f_alike_by (TB := TB) (δ := δ) hn bk2 (by rw [List.length_map]; omega) ht
    rw [sun_crs hs] at hal2
    have ec : ∀ δ, cloopM (fun x δ => cstep (.nm 4) [4] yesT (idxF (fun ρ δ => ofO (rdSl ρ[2]?) δ) (fun ρ δ => ofO (rdSl ρ[4]?) δ)) [s0, .v (.int n), .v (bkD b), s3, s4, .v (lotI (crs b)), .v A, .v (lotI p), s8, s9, s10, s11, s12] (.int x) δ) p δ = .ok ((p.map (gB b)).map lotI) δ := fun δ => by
      rw [cloopM_eq (h := fun k => some (lotI (gB b k)))]
      · rw [filterMap_some', List.map_map]; rfl
      · intro k hk δ
        simp [idx k hk]
    have a0 : L2.atI (p.map (lotI ∘ gB b)) 0 = some (lotI (gB b (p.headD 0))) := by
      match p, h3 with
      | x :: y :: r, _ => exact atI_0 _ _
    have a1 : L2.atI (p.map (lotI ∘ gB b)) 1 = some (lotI (gB b (p.getD 1 0))) := by
      match p, h3 with
      | x :: y :: r, _ => exact atI_1 _ _ _
    have hcore : meet (gB b (p.headD 0)) (gB b (p.getD 1 0)) = coreB b p := rfl
    have et : D.tup (p.map (lotI ∘ gB b)) = bkD (p.map (gB b)) := by unfold bkD; rw [List.map_map]
    simp at ec
    generalize p.headD 0 = P0 at a0 hcore
    generalize p.getD 1 0 = P1 at a1 hcore
    simp [smRest3, smRest2, smRest, sm__law_right_k88, Phi__law_right_k88, hcr, hal, hgp, r1, r2, r3, r4, cp2, sa, few2, hne]
    rw [few3, bI_false, ec]
    by_cases h0 : 0 < ((coreB b p).length : Int)
    · have h0' : 0 < (coreB b p).length := by omega
      simp [a0, a1, et, hal2, hcore, alk1, h0, h0']
    · have h0' : coreB b p = [] := List.eq_nil_of_length_eq_zero (by omega)
      rw [h0'] at hal2 hcore
      simp [a0, a1, et, hal2, hcore, alk1]
theorem seq_run {Φ : Phi} {s r : Sm} {ρ ρ' : List Sl} {δ δ' : List Bx} (h : semS Φ s ρ δ = .ok (.nx, ρ') δ') : semS Φ (.seq s r) ρ δ = semS Φ r ρ' δ' := by
  rw [s_seq, r_seqS2, h, Res.bind_ok]
  rfl
theorem rest_ok (hn : Nn n) (h5 : n ≤ 5) (bk : BookOk n b) (hm : b.length ≤ 6) (ht : HasTab TB "wrong_lot" δ) (s0 s10 : Sl) :
    (semS (Phi__law_right_k88 TB) smRest [s0, .v (.int n), .v (bkD b), .no, .no, .no, .no, .no, .no, .no, s10, .no, .no] δ).bind finF = .ok (.bl true) δ := by
  obtain ⟨t4, t11, e, hg⟩ := keys_loop (TB := TB) (δ := δ) hn h5 bk hm s0 .no .no .no .no .no .no s10 .no .no
  have e5 := a5_turn (TB := TB) (δ := δ) (ks := (rg b.length).foldl (kk b) []) s0 (.v (.int n)) (.v (bkD b)) t4 .no .no .no .no .no s10 t11 .no
  rw [keys_sorted hg] at e5
  have e6 := a6_turn (TB := TB) (δ := δ) (crs b) s0 (.v (.int n)) (.v (bkD b)) (.ownd false (((rg b.length).foldl (kk b) []).map .int) (tru ((rg b.length).foldl (kk b) []))) t4 .no .no .no .no s10 t11 .no
  have e7 := rest3_turn (TB := TB) hn h5 bk hm ht s0 (.ownd false (((rg b.length).foldl (kk b) []).map .int) (tru ((rg b.length).foldl (kk b) []))) t4 .no .no .no s10 t11 .no
  have s1 : semS (Phi__law_right_k88 TB) (.newd 3 false) [s0, .v (.int n), .v (bkD b), .no, .no, .no, .no, .no, .no, .no, s10, .no, .no] δ = .ok (.nx, [s0, .v (.int n), .v (bkD b), .ownd false [] [], .no, .no, .no, .no, .no, .no, s10, .no, .no]) δ := by simp
  have s2 : semS (Phi__law_right_k88 TB) (.fo (.nm 4) (.rng1 (.cons (.bi .len (.cons (.var 2) .nil)) .nil)) smKk) [s0, .v (.int n), .v (bkD b), .ownd false [] [], .no, .no, .no, .no, .no, .no, s10, .no, .no] δ = .ok (.nx, [s0, .v (.int n), .v (bkD b), .ownd false (((rg b.length).foldl (kk b) []).map .int) (tru ((rg b.length).foldl (kk b) [])), t4, .no, .no, .no, .no, .no, s10, t11, .no]) δ := by
    rw [s_fo, r_for]
    simp only [m_rng1_j, r_itA, m_cons_a, m_nil_a, r_consA, r_nilA, m_bi, valS_d, r_callF, biG_len, m_var, List.getElem?_cons_zero, List.getElem?_cons_succ, rdSl_v, ofO_some, Res.bind_ok, dLen_bk, rng1_of (n := (b.length : Int)) (by omega)]
    exact e
  rw [rest_eq, rest2_eq, seq_run s1, seq_run s2, seq_run e5, seq_run e6]
  exact e7
/-- the lots of two that have one thing in common -/
def star (n h : Int) : List Lot := ((rg n).filter fun t => !decide (t = h)).map fun t => ascU [h, t]
theorem star_ok (hn : Nn n) (h5 : n ≤ 5) {h : Int} (h0 : 0 ≤ h) (h1 : h < n) : BookOk n (sortL (dedL (star n h))) ∧ (sortL (dedL (star n h))).length ≤ 6 ∧ (star n h).length < 64 := by
  have hl : (star n h).length ≤ 6 := by
    unfold star
    rw [List.length_map]
    refine Nat.le_trans (List.length_filter_le _ _) ?_
    simp [rg]; omega
  have h2 := len_dedL (star n h)
  refine ⟨⟨sortL_asc (nodup_dedL _), fun l hl => ?_, by rw [len_sortL]; omega⟩, by rw [len_sortL]; omega, by omega⟩
  have hm := mem_dedL.mp (mem_sortL.mp hl)
  obtain ⟨t, ht, rfl⟩ := List.mem_map.mp hm
  have ht2 := mem_rg.mp (List.mem_filter.mp ht).1
  refine ⟨ascU_asc _, fun x hx => ?_⟩
  have := mem_ascU.mp hx
  simp only [List.mem_cons, List.not_mem_nil, or_false] at this
  rcases this with rfl | rfl
  · exact ⟨h0, h1⟩
  · exact ht2
theorem srtI2 (h t : Int) : dSortSetI [.lst [.int h, .int t]] = some (.lst ((ascU [h, t]).map .int)) := dSortSetI_ints (xs := [h, t]) (by simp)
end
theorem right_eq : sm__law_right_k88 = .seq (.asg (.nm 1) (.bin .Add (.int 1) (.call 5 (.cons (.var 0) (.cons (.int 5) .nil))))) (.seq (.asg (.nm 2) (.call 6 (.cons (.var 0) (.cons (.var 1) (.cons (.int 6) .nil))))) (.seq (.ite (.cmp .Eq (.call 5 (.cons (.var 0) (.cons (.int 3) .nil))) (.int 0)) (.seq (.asg (.nm 10) (.call 5 (.cons (.var 0) (.cons (.var 1) .nil)))) (.seq (.asg (.nm 2) (.bi .tuple (.cons (.srtSet (.cons (.lc (.nm 12) [12] (.rng1 (.cons (.var 1) .nil)) (.cmp .NotEq (.var 12) (.var 10)) (.bi .tuple (.cons (.srtSetI (.cons (.lst (.cons (.var 10) (.cons (.var 12) .nil))) .nil)) .nil))) .nil)) .nil))) .nil)) .nil) smRest)) := rfl
theorem right_ok {TB : TBs} {i : Nat} {δ : List Bx} (hb : BagAt i δ) (ht : HasTab TB "wrong_lot" δ) (ne : (TB "wrong_lot").1 ≠ i) : ∃ δ', F__law_right_k88 TB [.ref i] δ = .ok (.bl true) δ' ∧ Nxt i δ δ' := by
  obtain ⟨q, δ1, q0, q1, e1, n1⟩ := take_ok hb (top := 5) (by omega) (by omega)
  have hn : Nn (1 + q) := ⟨by omega, by omega⟩
  obtain ⟨b, δ2, e2, bk, bl, n2⟩ := book_ok n1.bag hn (most := 6) (by omega) (by omega)
  obtain ⟨q3, δ3, _, _, e3, n3⟩ := take_ok n2.bag (top := 3) (by omega) (by omega)
  have hq : 1 + q ≤ 5 := by omega
  generalize en : 1 + q = n at *
  have nlo := hn.lo
  by_cases h3 : q3 = 0
  · subst h3
    obtain ⟨hub, δ4, u0, u1, e4, n4⟩ := take_ok n3.bag (top := n) (by omega) (by omega)
    have nx := ((n1.trans n2).trans n3).trans n4
    have ht2 := nx.tab ht ne
    obtain ⟨bk2, hl2, hl3⟩ := star_ok hn hq u0 u1
    refine ⟨δ4, ?_, nx⟩
    have hr := rest_ok (TB := TB) hn hq bk2 hl2 ht2 (.v (.ref i)) (.v (.int hub))
    have cp2 : 2 ≤ cap := by unfold cap; omega
    have ec : cloopM (fun x δ => cstep (.nm 12) [12] (asB (bin2 dNe (fun ρ δ => ofO (rdSl ρ[12]?) δ) (fun ρ δ => ofO (rdSl ρ[10]?) δ))) (callF dTuple (consA (callF dSortSetI (consA (lstF (consA (fun ρ δ => ofO (rdSl ρ[10]?) δ) (consA (fun ρ δ => ofO (rdSl ρ[12]?) δ) nilA))) nilA)) nilA)) [.v (.ref i), .v (.int n), .v (bkD b), .no, .no, .no, .no, .no, .no, .no, .v (.int hub), .no, .no] (.int x) δ) (rg n) δ4 = .ok ((star n hub).map lotI) δ4 := by
      rw [cloopM_eq (h := fun t => bI (!decide (t = hub)) (some (lotI (ascU [hub, t]))) none)]
      · rw [Pt.filterMap_bI (fun t => !decide (t = hub)) (fun t => lotI (ascU [hub, t]))]
        unfold star
        rw [List.map_map]; rfl
      · intro t ht δ
        simp [cp2, srtI2]
    have a1 : semS (Phi__law_right_k88 TB) (.asg (.nm 1) (.bin .Add (.int 1) (.call 5 (.cons (.var 0) (.cons (.int 5) .nil))))) [.v (.ref i), .no, .no, .no, .no, .no, .no, .no, .no, .no, .no, .no, .no] δ = .ok (.nx, [.v (.ref i), .v (.int n), .no, .no, .no, .no, .no, .no, .no, .no, .no, .no, .no]) δ1 := by simp [e1, en, Phi__law_right_k88]
    have a2 : semS (Phi__law_right_k88 TB) (.asg (.nm 2) (.call 6 (.cons (.var 0) (.cons (.var 1) (.cons (.int 6) .nil))))) [.v (.ref i), .v (.int n), .no, .no, .no, .no, .no, .no, .no, .no, .no, .no, .no] δ1 = .ok (.nx, [.v (.ref i), .v (.int n), .v (bkD b), .no, .no, .no, .no, .no, .no, .no, .no, .no, .no]) δ2 := by simp [e2, Phi__law_right_k88]
    have a3 : semS (Phi__law_right_k88 TB) (.ite (.cmp .Eq (.call 5 (.cons (.var 0) (.cons (.int 3) .nil))) (.int 0)) (.seq (.asg (.nm 10) (.call 5 (.cons (.var 0) (.cons (.var 1) .nil)))) (.seq (.asg (.nm 2) (.bi .tuple (.cons (.srtSet (.cons (.lc (.nm 12) [12] (.rng1 (.cons (.var 1) .nil)) (.cmp .NotEq (.var 12) (.var 10)) (.bi .tuple (.cons (.srtSetI (.cons (.lst (.cons (.var 10) (.cons (.var 12) .nil))) .nil)) .nil))) .nil)) .nil))) .nil)) .nil) [.v (.ref i), .v (.int n), .v (bkD b), .no, .no, .no, .no, .no, .no, .no, .no, .no, .no] δ2 = .ok (.nx, [.v (.ref i), .v (.int n), .v (bkD (sortL (dedL (star n hub)))), .no, .no, .no, .no, .no, .no, .no, .v (.int hub), .no, .no]) δ4 := by
      simp [e3, e4, Phi__law_right_k88, rng1_of (n := n) (by omega), -r_cstep]
      rw [ec]
      simp [dSortSet_lots hl3]
    simp only [F__law_right_k88, right_eq, r_mkF]
    rw [if_pos ⟨rfl, rfl⟩]
    show (semS _ _ [.v (.ref i), .no, .no, .no, .no, .no, .no, .no, .no, .no, .no, .no, .no] δ).bind finF = _
    rw [seq_run a1, seq_run a2, seq_run a3]
    exact hr
  · have nx := (n1.trans n2).trans n3
    have ht2 := nx.tab ht ne
    refine ⟨δ3, ?_, nx⟩
    have hr := rest_ok (TB := TB) hn hq bk (by omega) ht2 (.v (.ref i)) .no
    have a1 : semS (Phi__law_right_k88 TB) (.asg (.nm 1) (.bin .Add (.int 1) (.call 5 (.cons (.var 0) (.cons (.int 5) .nil))))) [.v (.ref i), .no, .no, .no, .no, .no, .no, .no, .no, .no, .no, .no, .no] δ = .ok (.nx, [.v (.ref i), .v (.int n), .no, .no, .no, .no, .no, .no, .no, .no, .no, .no, .no]) δ1 := by simp [e1, en, Phi__law_right_k88]
    have a2 : semS (Phi__law_right_k88 TB) (.asg (.nm 2) (.call 6 (.cons (.var 0) (.cons (.var 1) (.cons (.int 6) .nil))))) [.v (.ref i), .v (.int n), .no, .no, .no, .no, .no, .no, .no, .no, .no, .no, .no] δ1 = .ok (.nx, [.v (.ref i), .v (.int n), .v (bkD b), .no, .no, .no, .no, .no, .no, .no, .no, .no, .no]) δ2 := by simp [e2, Phi__law_right_k88]
    have a3 : semS (Phi__law_right_k88 TB) (.ite (.cmp .Eq (.call 5 (.cons (.var 0) (.cons (.int 3) .nil))) (.int 0)) (.seq (.asg (.nm 10) (.call 5 (.cons (.var 0) (.cons (.var 1) .nil)))) (.seq (.asg (.nm 2) (.bi .tuple (.cons (.srtSet (.cons (.lc (.nm 12) [12] (.rng1 (.cons (.var 1) .nil)) (.cmp .NotEq (.var 12) (.var 10)) (.bi .tuple (.cons (.srtSetI (.cons (.lst (.cons (.var 10) (.cons (.var 12) .nil))) .nil)) .nil))) .nil)) .nil))) .nil)) .nil) [.v (.ref i), .v (.int n), .v (bkD b), .no, .no, .no, .no, .no, .no, .no, .no, .no, .no] δ2 = .ok (.nx, [.v (.ref i), .v (.int n), .v (bkD b), .no, .no, .no, .no, .no, .no, .no, .no, .no, .no]) δ3 := by
      simp [e3, h3, Phi__law_right_k88]
    simp only [F__law_right_k88, right_eq, r_mkF]
    rw [if_pos ⟨rfl, rfl⟩]
    show (semS _ _ [.v (.ref i), .no, .no, .no, .no, .no, .no, .no, .no, .no, .no, .no, .no] δ).bind finF = _
    rw [seq_run a1, seq_run a2, seq_run a3]
    exact hr
theorem law_true (K : PySem.W.Frag) : LawTrue (F_law_k88 (tbK K ["wrong_lot"])) (csK K ["wrong_lot"]) := by
  refine Pt.law_true (T := 15) (Fr := F__law_right_k88 (tbK K ["wrong_lot"])) ⟨by omega, by omega⟩ fun i δ hb hp hi => ?_
  refine right_ok hb ?_ ?_
  · rw [List.prefix_iff_getElem?] at hp
    exact hp 0 (by simp [tabsOf, csK])
  · have : 1 ≤ i := hi
    show (0 : Nat) ≠ i
    omega
end Pk88
set_option maxRecDepth 100000
set_option maxHeartbeats 0
namespace Pk88
open PySem PySem.Spec PyProof.Rows L2 Pv Pt
def dd (n : Str) (i : Nat) : He.DefD := ⟨(n, none), n, n, defArgs (top i), defBody (top i), defScope (top i), [], []⟩
def fn : List He.DefD := tops.map fun p => ⟨(p.1, none), p.1, p.1, defArgs p.2, defBody p.2, defScope p.2, [], []⟩
def fa : List He.Fa := (tops.map fun p => .glo p.1) ++ freeNames.map .free
def sq : Bool := true
def tl : List Str := ["wrong_lot"]
def cons : List (Str × Pv.D) := [("MOST_THINGS", (.int 6)), ("MOST_LOTS", (.int 20))]
def imps : List (Str × Value) := [("combinations", .type "itertools.combinations")]
abbrev R : PySem.W.OpenRow := PySem.W.OpenLaw.row PySem.Challenge.rw_lotbooks_k88_whole_alike_books
abbrev hk : PySem.W.Hook := He.hookX 4 fa fn [] (tl.map fun x => (x, none)) (exB sq tl cons imps)
def ob (s : PySem.W.SharedT) : He.AlX := He.obsX 4 fa fn [] (tl.map fun x => (x, none)) (exB sq tl cons imps) (HandSHeadRun.getT s)
theorem ob_eq (s : PySem.W.SharedT) : ob s = hk.obs s.abs := He.obsX_eq (HandSHeadRun.getT_eq s)
def loose : List Str := (["BookError", "InvalidNumber", "InvalidBook", "is_whole", "is_between", "is_row", "first_wrong", "MOST_THINGS", "MOST_LOTS", "is_things", "check_things", "is_thing", "is_lot", "common_of", "wrong_lot", "check_lots"] : List Str) ++ (["check_book", "crossings_by", "alike_of", "alike_by", "crossings", "petals_by", "greatest_petals", "_law_bag", "_law_take", "_law_pull", "_law_lots", "_law_book", "_law_meet", "_law_some_of", "_law_petals", "_law_right"] : List Str)
theorem run (w : World) : HandSHeadRun.RunEqI R (PySem.W.view R.prog [0, 39]) hk ob 9000 loose w := by
  unfold HandSHeadRun.RunEqI; kernel_rfl
theorem mk_facts {P : Program} {w : World} {mg : Str → Option Value} {base : Heap} {K : PySem.W.Frag} (X : K.In base) (G : base.Ns mainGlobals mg) (c : He.SaysD fa fn K) (tb : ∀ x ∈ tl, LamX.TabB base mg (He.cT K (x, none)).1 (He.cT K (x, none)).2) (hc : ∀ p ∈ cons, ∃ u v, mg p.1 = some u ∧ RelV v u ∧ ∀ G H, Rel (cnK sq K) G H p.2 v) (hi : ∀ p ∈ imps, mg p.1 = some p.2) :
    Facts ⟨P, w, mg, base, cnK sq K, kwT⟩ (tbK K tl) where
  kw := rfl
  ok := en_ok X G c (fun p hp => List.mem_append_left _ (List.mem_map.mpr ⟨p, hp, rfl⟩)) (fun x hx => List.mem_append_right _ (List.mem_map.mpr ⟨x, hx, rfl⟩)) (fun p hp => List.mem_map.mpr ⟨p, hp, rfl⟩)
  comb := hi ("combinations", .type "itertools.combinations") (List.mem_of_getElem? (i := 0) rfl)
  c_MOST_THINGS := hc ("MOST_THINGS", (.int 6)) (List.mem_of_getElem? (i := 0) rfl)
  c_MOST_LOTS := hc ("MOST_LOTS", (.int 20)) (List.mem_of_getElem? (i := 1) rfl)
  t_wrong_lot := en_tab (st := top 18) c (List.mem_map.mpr ⟨("wrong_lot", top 18), List.mem_of_getElem? (i := 9) rfl, rfl⟩) (tb "wrong_lot" (List.mem_of_getElem? (i := 0) rfl))
end Pk88
open PySem PySem.W PySem.Calls PyProof.Rows
set_option maxRecDepth 100000 in
set_option maxHeartbeats 0 in
theorem PySem.Challenge.cw_lotbooks_k88_whole_alike_books_holds : PySem.Challenge.rw_lotbooks_k88_whole_alike_books.Holds := by
  w_on; o_law
  refine HandSHeadRun.head_imp (r := OpenLaw.row PySem.Challenge.rw_lotbooks_k88_whole_alike_books) (q := view (OpenLaw.row PySem.Challenge.rw_lotbooks_k88_whole_alike_books).prog [0, 39]) (H := Pk88.hk) (ob := Pk88.ob) (M := 9000) (loose := Pk88.loose) (d := HandSHeadRun.topDef (OpenLaw.row PySem.Challenge.rw_lotbooks_k88_whole_alike_books).prog 39) (kwd := []) Pk88.ob_eq
    Pk88.run (by kernel_rfl) (by kernel_rfl) (by kernel_rfl) (by rfl) (by first | assumption | decide +kernel) (by decide +kernel) ⟨rfl, rfl, rfl, rfl, rfl, by decide +kernel⟩ ?hw ?hc
  case hw => w_witness2
  case hc =>
    refine Pv.walkG (l := PySem.Challenge.rw_lotbooks_k88_whole_alike_books) (k := 12) (x := "script") rfl (by kernel_rfl) ⟨rfl, by decide, by decide⟩ ?F
    intro w mg f h Y G hmg0
    obtain ⟨K, KX, c⟩ := Y
    have hmg : mg ("law" : PySem.Str) = some (.ref f) := by
      have e : (HandSHeadRun.topDef (OpenLaw.row PySem.Challenge.rw_lotbooks_k88_whole_alike_books).prog 39).name = ("law" : PySem.Str) := by kernel_rfl
      rw [← e]
      exact hmg0
    refine Pv.law_at (F := Pt.F_law_k88) (st := Pk88.top 39) (x := "script") (cons := Pk88.cons) (imps := Pk88.imps) (tl := Pk88.tl) (fa := Pk88.fa) (fn := Pk88.fn) c KX G hmg (List.mem_append_left _ (List.mem_map.mpr ⟨("law", Pk88.top 39), List.mem_of_getElem? (i := 27) rfl, rfl⟩)) (List.mem_map.mpr ⟨("law", Pk88.top 39), List.mem_of_getElem? (i := 27) rfl, rfl⟩)
      (fun _ _ _ _ _ _ us hl => match us, hl with | [_], _ => rfl) (fun base fd Xb Gb tb hc hi D => ?_) (Pk88.law_true K)
    exact Pk88.okD_law (E := ⟨(PySem.Challenge.rw_lotbooks_k88_whole_alike_books).prog, w, mg, base, Pv.cnK Pk88.sq K, Pk88.kwT⟩) (Pk88.mk_facts Xb Gb c.t.d tb hc hi) D
